/- slices.Compact at cells, in place. Each theorem names its conditions. -/
import Derived.Test.YthpaadmpgdglnaaFa
import Derived.Test.YthpaadmpgdglnaaD6
namespace Go.Proofs.Ythpaadmpgdglnaa
open Go Go.RowKit
set_option linter.unusedVariables false
set_option linter.unusedSimpArgs false
set_option maxRecDepth 100000
set_option maxHeartbeats 4000000

theorem c_compactF (w : World) (b : Nat) (l : List Cell) (sp : List (List Value)) (hb : Fr w b 55 2 (l.map encC ++ sp)) (hmx : l.length + sp.length ≤ 9223372036854775807) : Fn Try.prog 105 [.slice (some ⟨b, 0, none⟩) l.length (l.length + sp.length)] w (fun v w' =>  v = .slice (some ⟨b, 0, none⟩) (compC l).length (l.length + sp.length) ∧ Kp (fun q => q = b) w w' ∧ (∃ sp' : List (List Value), Fr w' b 55 2 ((compC l).map encC ++ sp') ∧ (compC l).length + sp'.length = l.length + sp.length)) := by
  have K0 : Kp (fun q => q = b) w w := Kp.refl _ _
  refine fn_enter (n := 61) Try.func105 rfl rfl (Nat.le_of_ble_eq_true rfl) ?_
  show CW _ _ _ _ _ _ [(0, .slice (some ⟨b, 0, none⟩) l.length (l.length + sp.length))] _
  have lbb := hb.lt
  refine cw_seq ?_
  refine cw_region ?_
  refine rw_ev (ev_assign rfl) rfl rfl rfl ?_
  refine rw_nil ?_
  refine nw_seq ?_
  refine cw_seq ?_
  refine cw_seq ?_
  refine cw_region ?_
  refine rw_ev (ev_move rfl) rfl rfl rfl ?_
  refine rw_ev (v := .int .i64 (l.length : Int)) (ev_lenw rfl el_46 rfl) rfl rfl rfl ?_
  refine rw_ev (ev_lss rfl rfl) rfl rfl rfl ?_
  refine rw_nil ?_
  refine nw_seq ?_
  by_cases h1 : (l.length : Int) < 2
  ·
   refine cw_t (b := decide ((l.length : Int) < 2)) rfl (dec_t h1) ?_
   refine cw_seq ?_
   refine cw_region ?_
   refine rw_ev (ev_move rfl) rfl rfl rfl ?_
   refine rw_ev (ev_assign rfl) rfl rfl rfl ?_
   refine rw_nil ?_
   refine nw_seq ?_
   refine cw_ret ?_
   refine ret_post (rs := [.tmp 2]) (vs := [.slice (some ⟨b, 0, none⟩) l.length (l.length + sp.length)]) rfl (.tmp rfl .nil) ?_
   refine ⟨?_, K0, ?_⟩
   · show (.slice (some ⟨b, 0, none⟩) l.length (l.length + sp.length) : Value) = _
     have hcc_ : compC l = l := by first | exact compC_small (by omega) | (have hz_ := (by assumption : compC (l.take i) = l.take i); rwa [List.take_of_length_le (by omega)] at hz_)
     rw [hcc_]
   · have hcc_ : compC l = l := by first | exact compC_small (by omega) | (have hz_ := (by assumption : compC (l.take i) = l.take i); rwa [List.take_of_length_le (by omega)] at hz_)
     rw [hcc_]; exact ⟨sp, hb, rfl⟩
  ·
   refine cw_f (b := decide ((l.length : Int) < 2)) rfl (dec_f h1) ?_
   refine cw_skip ?_
   refine nw_seq ?_
   refine cw_seq ?_
   refine cw_seq ?_
   refine cw_region ?_
   refine rw_ev (ev_assign rfl) rfl rfl rfl ?_
   refine rw_nil ?_
   refine nw_seq ?_
   refine cw_block ?_
   refine cw_loop (σ := Nat) (fun i => [(0, .slice (some ⟨b, 0, none⟩) l.length (l.length + sp.length)), (2, .slice none 0 0), (3, .int .i64 (i : Int))]) (fun i wr => Kp (fun q => q = b) w wr ∧ w.heap.size ≤ wr.heap.size ∧ Fr wr b 55 2 (l.map encC ++ sp) ∧ 1 ≤ i ∧ i ≤ l.length ∧ compC (l.take i) = l.take i) (fun i => l.length - i) 1 (Sub.cons rfl (Sub.cons rfl (Sub.int (b := (1 : Int)) rfl (by omega) Sub.nil))) ⟨K0, (Nat.le_refl _), hb, (by first | omega | exact compC_small (by rw [List.length_take]; omega)), (by first | omega | exact compC_small (by rw [List.length_take]; omega)), (by first | omega | exact compC_small (by rw [List.length_take]; omega))⟩ ?_
   rintro i w2 ⟨K0, z3, f4, pr5, pr6, pr7⟩
   show CW _ _ _ _ _ _ [(0, .slice (some ⟨b, 0, none⟩) l.length (l.length + sp.length)), (2, .slice none 0 0), (3, .int .i64 (i : Int))] _
   refine cw_seq ?_
   refine cw_seq ?_
   refine cw_region ?_
   refine rw_ev (ev_move rfl) rfl rfl rfl ?_
   refine rw_ev (ev_move rfl) rfl rfl rfl ?_
   refine rw_ev (v := .int .i64 (l.length : Int)) (ev_lenw rfl el_46 rfl) rfl rfl rfl ?_
   refine rw_ev (ev_lss rfl rfl) rfl rfl rfl ?_
   refine rw_nil ?_
   refine nw_seq ?_
   by_cases h8 : (i : Int) < (l.length : Int)
   ·
    refine cw_t (b := decide ((i : Int) < (l.length : Int))) rfl (dec_t h8) ?_
    refine cw_skip ?_
    refine nw_seq ?_
    refine cw_seq ?_
    refine cw_block ?_
    refine cw_seq ?_
    refine cw_drawn (fun w9 w_ => Ex w9 w_) [] (.take 0 (.take 1 (.take 2 (.take 3 (.take 4 (.take 5 (.take 6 (.take 7 (.take 8 (.take 9 .done)))))))))) mixed (by kernel_rfl) (by kernel_rfl) (Nat.le_of_ble_eq_true (by kernel_rfl)) ?_; intro w9 k10 hs_
    replace K0 := K0.ex k10
    replace f4 := f4.ex k10
    have zw9 := k10.size
    have sw11 := Fr.sl0 f4 (A := fun x_ => x_ = b) rfl (n := l.length) (c := (l.length + sp.length)) (by first | assumption | omega | (unfold maxLen; omega) | (simp; omega)) (by first | assumption | omega | (unfold maxLen; omega) | (simp; omega)) (by first | assumption | omega | (unfold maxLen; omega) | (simp; omega))
    have hS : (fun w_ => Ex w9 w_) w9 := Kp.refl _ _
    refine rp_take hs_ hS rfl rfl (ev_move rfl) rfl rfl rfl ?_
    refine rp_take hs_ hS rfl rfl (ev_move rfl) rfl rfl rfl ?_
    obtain ⟨c12, hc13⟩ := get_of (l := l) (i := i) (by first | omega | (rw [List.length_drop]; omega))
    skip
    refine rp_take (v := elemPtr (.slice (some ⟨b, 0, none⟩) l.length (l.length + sp.length)) i 2 0) hs_ hS rfl rfl (ev_slAt (i := (i : Int)) ⟨_, (sw11.ex hS)⟩ rfl rfl el_46 (idx_ok (i := (i : Int)) hc13 (by first | omega | (rw [List.length_drop]; omega)))) rfl rfl rfl ?_
    refine rp_take (v := .agg #[.int .i64 c12.1, .int .i64 c12.2]) hs_ hS rfl rfl (ev_elLoadk (us := [.int .i64 c12.1, .int .i64 c12.2]) (fun _ h => (sw11.ex h)) ⟨_, hS⟩ rfl (get_enc hc13) agg_55 (by decide) rfl rfl) rfl rfl rfl ?_
    refine rp_take hs_ hS rfl rfl (ev_move rfl) rfl rfl rfl ?_
    refine rp_take hs_ hS rfl rfl (ev_move rfl) rfl rfl rfl ?_
    refine rp_take hs_ hS rfl rfl (ev_sub rfl rfl (by omega)) rfl rfl rfl ?_
    obtain ⟨c14, hc15⟩ := get_of (l := l) (i := ((i : Int) - 1).toNat) (by first | omega | (rw [List.length_drop]; omega))
    have hc15_ : l[i - 1]? = some c14 := by have hz_ : ((i : Int) - 1).toNat = i - 1 := (by omega); rw [hz_] at hc15; exact hc15
    refine rp_take (v := elemPtr (.slice (some ⟨b, 0, none⟩) l.length (l.length + sp.length)) (((i : Int) - 1).toNat) 2 0) hs_ hS rfl rfl (ev_slAt (i := (i : Int) - 1) ⟨_, (sw11.ex hS)⟩ rfl rfl el_46 (idx_ok (i := (i : Int) - 1) hc15 (by first | omega | (rw [List.length_drop]; omega)))) rfl rfl rfl ?_
    refine rp_take (v := .agg #[.int .i64 c14.1, .int .i64 c14.2]) hs_ hS rfl rfl (ev_elLoadk (us := [.int .i64 c14.1, .int .i64 c14.2]) (fun _ h => (sw11.ex h)) ⟨_, hS⟩ rfl (get_enc hc15) agg_55 (by decide) rfl rfl) rfl rfl rfl ?_
    refine rp_take hs_ hS rfl rfl (ev_eql_55 rfl rfl) rfl rfl rfl ?_
    refine rp_done ?_
    clear hs_
    refine nw_seq ?_
    by_cases h16 : (c12 : Cell) = c14
    ·
     refine cw_t (b := decide ((c12 : Cell) = c14)) rfl (dec_t h16) ?_
     refine cw_seq ?_
     refine cw_region ?_
     refine rw_ev (ev_move rfl) rfl rfl rfl ?_
     refine rw_ev (ev_move rfl) rfl rfl rfl ?_
     refine rw_ev (v := .slice (some ⟨b, (i * 2), none⟩) (l.length - i) ((l.length + sp.length) - i)) (ev_win (l := (i : Int)) (h := (l.length : Int)) rfl el_46 (.inr ⟨_, rfl, rfl⟩) (.inl ⟨rfl, rfl⟩) (by first | assumption | omega | (unfold maxLen; omega) | (simp; omega)) (by first | assumption | omega | (unfold maxLen; omega) | (simp; omega))) rfl rfl rfl ?_
     refine rw_ev (ev_assign rfl) rfl rfl rfl ?_
     refine rw_nil ?_
     refine nw_seq ?_
     refine cw_seq ?_
     refine cw_seq ?_
     refine cw_region ?_
     refine rw_ev (ev_assign rfl) rfl rfl rfl ?_
     refine rw_nil ?_
     refine nw_seq ?_
     refine cw_block ?_
     refine cw_loop (σ := Nat × Nat × List Cell) (fun s_ => match s_ with | (q, k, m) => [(0, .slice (some ⟨b, 0, none⟩) l.length (l.length + sp.length)), (2, .slice none 0 0), (3, .int .i64 (k : Int)), (4, .slice (some ⟨b, (i * 2), none⟩) (l.length - i) ((l.length + sp.length) - i)), (5, .int .i64 (q : Int))]) (fun s_ wr => match s_ with | (q, k, m) => Kp (fun q => q = b) w wr ∧ w9.heap.size ≤ wr.heap.size ∧ Fr wr b 55 2 (m.map encC ++ sp) ∧ m.length = l.length ∧ 1 ≤ q ∧ i + q ≤ l.length ∧ 1 ≤ k ∧ k + 1 ≤ i + q ∧ m.take k = compC (l.take (i + q)) ∧ m.drop (i + q - 1) = l.drop (i + q - 1)) (fun s_ => match s_ with | (q, k, m) => l.length - q) (1, i, l) (Sub.cons rfl (Sub.cons rfl (Sub.cons rfl (Sub.cons rfl (Sub.int (b := (1 : Int)) rfl (by omega) Sub.nil))))) ⟨K0, (Nat.le_refl _), f4, (by first | omega | (exact And.intro (comp_begin (by assumption) (by assumption) (by assumption : l[i]? = some _) (by assumption : l[i - 1]? = some _) (by assumption)) (Eq.refl (l.drop (i + 1 - 1)))) | rfl), (by first | omega | (exact And.intro (comp_begin (by assumption) (by assumption) (by assumption : l[i]? = some _) (by assumption : l[i - 1]? = some _) (by assumption)) (Eq.refl (l.drop (i + 1 - 1)))) | rfl), (by first | omega | (exact And.intro (comp_begin (by assumption) (by assumption) (by assumption : l[i]? = some _) (by assumption : l[i - 1]? = some _) (by assumption)) (Eq.refl (l.drop (i + 1 - 1)))) | rfl), (by first | omega | (exact And.intro (comp_begin (by assumption) (by assumption) (by assumption : l[i]? = some _) (by assumption : l[i - 1]? = some _) (by assumption)) (Eq.refl (l.drop (i + 1 - 1)))) | rfl), (by first | omega | (exact And.intro (comp_begin (by assumption) (by assumption) (by assumption : l[i]? = some _) (by assumption : l[i - 1]? = some _) (by assumption)) (Eq.refl (l.drop (i + 1 - 1)))) | rfl), (by first | omega | (exact And.intro (comp_begin (by assumption) (by assumption) (by assumption : l[i]? = some _) (by assumption : l[i - 1]? = some _) (by assumption)) (Eq.refl (l.drop (i + 1 - 1)))) | rfl)⟩ ?_
     rintro ⟨q, k, m⟩ w17 ⟨K0, z18, f19, pr20, pr21, pr22, pr23, pr24, pr25⟩
     show CW _ _ _ _ _ _ [(0, .slice (some ⟨b, 0, none⟩) l.length (l.length + sp.length)), (2, .slice none 0 0), (3, .int .i64 (k : Int)), (4, .slice (some ⟨b, (i * 2), none⟩) (l.length - i) ((l.length + sp.length) - i)), (5, .int .i64 (q : Int))] _
     obtain ⟨ht_, hd_⟩ := (by assumption : m.take k = compC (l.take (i + q)) ∧ m.drop (i + q - 1) = l.drop (i + q - 1))
     refine cw_seq ?_
     refine cw_seq ?_
     refine cw_region ?_
     refine rw_ev (ev_move rfl) rfl rfl rfl ?_
     refine rw_ev (ev_move rfl) rfl rfl rfl ?_
     refine rw_ev (v := .int .i64 (((l.length - i) : Nat) : Int)) (ev_lenw rfl el_46 rfl) rfl rfl rfl ?_
     refine rw_ev (ev_lss rfl rfl) rfl rfl rfl ?_
     refine rw_nil ?_
     refine nw_seq ?_
     by_cases h26 : (q : Int) < (((l.length - i) : Nat) : Int)
     ·
      refine cw_t (b := decide ((q : Int) < (((l.length - i) : Nat) : Int))) rfl (dec_t h26) ?_
      refine cw_skip ?_
      refine nw_seq ?_
      refine cw_seq ?_
      refine cw_block ?_
      refine cw_seq ?_
      refine cw_drawn (fun w27 w_ => Ex w27 w_) [] (.take 0 (.take 1 (.take 2 (.take 3 (.take 4 (.take 5 (.take 6 (.take 7 (.take 8 (.take 9 .done)))))))))) mixed (by kernel_rfl) (by kernel_rfl) (Nat.le_of_ble_eq_true (by kernel_rfl)) ?_; intro w27 k28 hs_
      replace K0 := K0.ex k28
      replace f19 := f19.ex k28
      have zw27 := k28.size
      have sw29 := Fr.slt f19 (A := fun x_ => x_ = b) rfl (d := i) (n := (l.length - i)) (c := ((l.length + sp.length) - i)) (o := (i * 2)) (by first | assumption | omega | (unfold maxLen; omega) | (simp; omega)) (by first | assumption | omega | (unfold maxLen; omega) | (simp; omega)) (by first | assumption | omega | (unfold maxLen; omega) | (simp; omega)) (by first | assumption | omega | (unfold maxLen; omega) | (simp; omega))
      have hS : (fun w_ => Ex w27 w_) w27 := Kp.refl _ _
      refine rp_take hs_ hS rfl rfl (ev_move rfl) rfl rfl rfl ?_
      refine rp_take hs_ hS rfl rfl (ev_move rfl) rfl rfl rfl ?_
      obtain ⟨c30, hc31⟩ := get_of (l := (m.drop i)) (i := q) (by first | omega | (rw [List.length_drop]; omega))
      skip
      refine rp_take (v := elemPtr (.slice (some ⟨b, (i * 2), none⟩) (l.length - i) ((l.length + sp.length) - i)) q 2 0) hs_ hS rfl rfl (ev_slAt (i := (q : Int)) ⟨_, (sw29.ex hS)⟩ rfl rfl el_46 (idx_ok (i := (q : Int)) hc31 (by first | omega | (rw [List.length_drop]; omega)))) rfl rfl rfl ?_
      refine rp_take (v := .agg #[.int .i64 c30.1, .int .i64 c30.2]) hs_ hS rfl rfl (ev_elLoadk (us := [.int .i64 c30.1, .int .i64 c30.2]) (fun _ h => (sw29.ex h)) ⟨_, hS⟩ rfl (get_enc hc31) agg_55 (by decide) rfl rfl) rfl rfl rfl ?_
      refine rp_take hs_ hS rfl rfl (ev_move rfl) rfl rfl rfl ?_
      refine rp_take hs_ hS rfl rfl (ev_move rfl) rfl rfl rfl ?_
      refine rp_take hs_ hS rfl rfl (ev_sub rfl rfl (by omega)) rfl rfl rfl ?_
      obtain ⟨c32, hc33⟩ := get_of (l := (m.drop i)) (i := ((q : Int) - 1).toNat) (by first | omega | (rw [List.length_drop]; omega))
      have hc33_ : (m.drop i)[q - 1]? = some c32 := by have hz_ : ((q : Int) - 1).toNat = q - 1 := (by omega); rw [hz_] at hc33; exact hc33
      refine rp_take (v := elemPtr (.slice (some ⟨b, (i * 2), none⟩) (l.length - i) ((l.length + sp.length) - i)) (((q : Int) - 1).toNat) 2 0) hs_ hS rfl rfl (ev_slAt (i := (q : Int) - 1) ⟨_, (sw29.ex hS)⟩ rfl rfl el_46 (idx_ok (i := (q : Int) - 1) hc33 (by first | omega | (rw [List.length_drop]; omega)))) rfl rfl rfl ?_
      refine rp_take (v := .agg #[.int .i64 c32.1, .int .i64 c32.2]) hs_ hS rfl rfl (ev_elLoadk (us := [.int .i64 c32.1, .int .i64 c32.2]) (fun _ h => (sw29.ex h)) ⟨_, hS⟩ rfl (get_enc hc33) agg_55 (by decide) rfl rfl) rfl rfl rfl ?_
      refine rp_take hs_ hS rfl rfl (ev_neq_55 rfl rfl) rfl rfl rfl ?_
      refine rp_done ?_
      clear hs_
      refine nw_seq ?_
      by_cases h34 : (c30 : Cell) ≠ c32
      ·
       refine cw_t (b := decide ((c30 : Cell) ≠ c32)) rfl (dec_t h34) ?_
       refine cw_seq ?_
       refine cw_region ?_
       refine rw_ev (ev_move rfl) rfl rfl rfl ?_
       refine rw_ev (ev_move rfl) rfl rfl rfl ?_
       refine rw_ev (ev_move rfl) rfl rfl rfl ?_
       refine rw_ev (ev_move rfl) rfl rfl rfl ?_
       refine rw_ev (v := elemPtr (.slice (some ⟨b, (i * 2), none⟩) (l.length - i) ((l.length + sp.length) - i)) q 2 0) (ev_slAt (i := (q : Int)) ⟨_, sw29⟩ rfl rfl el_46 (idx_ok (i := (q : Int)) hc31 (by first | omega | (rw [List.length_drop]; omega)))) rfl rfl rfl ?_
       refine rw_ev (v := .agg #[.int .i64 c30.1, .int .i64 c30.2]) (ev_elLoadk (us := [.int .i64 c30.1, .int .i64 c30.2]) (fun _ h => h ▸ sw29) ⟨_, rfl⟩ rfl (get_enc hc31) agg_55 (by decide) rfl rfl) rfl rfl rfl ?_
       have sw35 := Fr.sl0 f19 (A := fun x_ => x_ = b) rfl (n := l.length) (c := (l.length + sp.length)) (by first | assumption | omega | (unfold maxLen; omega) | (simp; omega)) (by first | assumption | omega | (unfold maxLen; omega) | (simp; omega)) (by first | assumption | omega | (unfold maxLen; omega) | (simp; omega))
       obtain ⟨c36, hc37⟩ := get_of (l := m) (i := k) (by first | omega | (rw [List.length_drop]; omega))
       skip
       refine rw_ev (v := elemPtr (.slice (some ⟨b, 0, none⟩) l.length (l.length + sp.length)) k 2 0) (ev_slAt (i := (k : Int)) ⟨_, sw35⟩ rfl rfl el_46 (idx_ok (i := (k : Int)) hc37 (by first | omega | (rw [List.length_drop]; omega)))) rfl rfl rfl ?_
       refine rw_none (op_wstore (fs := m.map encC ++ sp) (i := 0) (j := k) (u := .agg #[.int .i64 c30.1, .int .i64 c30.2]) f19 rfl (by first | assumption | omega | (unfold maxLen; omega) | (simp; omega)) rfl size_55 rfl (by simp [Value.cells, Value.oneCell']) (by have h_ : k < (m).length := (by first | assumption | omega | (unfold maxLen; omega) | (simp; omega)); rw [List.length_append, List.length_map]; omega)) rfl rfl ?_
       rintro _ w38 ⟨k39, fr40⟩
       replace fr40 := Fr.set_enc (f := encC) (c := c30) (j := k) fr40 (by omega) (by first | assumption | omega | (unfold maxLen; omega) | (simp; omega))
       replace K0 := Kp.trans K0 k39 (fun _ h => h) (fun _ _ h => h)
       have zw38 := k39.size
       refine rw_nil ?_
       refine nw_seq ?_
       refine cw_region ?_
       refine rw_ev (ev_move rfl) rfl rfl rfl ?_
       refine rw_ev (ev_add rfl rfl (by omega)) rfl rfl rfl ?_
       refine rw_ev (ev_assign rfl) rfl rfl rfl ?_
       refine rw_nil ?_
       refine nw_block ?_
       refine nw_seq ?_
       refine cw_region ?_
       refine rw_ev (ev_move rfl) rfl rfl rfl ?_
       refine rw_ev (ev_add rfl rfl (by omega)) rfl rfl rfl ?_
       refine rw_ev (ev_assign rfl) rfl rfl rfl ?_
       refine rw_nil ?_
       exact nw_round ((q + 1), (k + 1), (m.set k c30)) (Sub.cons rfl (Sub.cons rfl (Sub.int (b := ((k + 1) : Int)) rfl (by omega) (Sub.cons rfl (Sub.int (b := ((q + 1) : Int)) rfl (by omega) Sub.nil))))) ⟨K0, (Nat.le_trans z18 (Nat.le_trans zw27 zw38)), fr40, (by first | omega | (rw [List.length_set]; omega) | (first | exact comp_ne (by assumption) (by assumption) (by assumption) ht_ hd_ (by assumption : (m.drop i)[q]? = some _) (by assumption : (m.drop i)[q - 1]? = some _) (by assumption) | exact comp_eq (by assumption) (by assumption) ht_ hd_ (by assumption : (m.drop i)[q]? = some _) (by assumption : (m.drop i)[q - 1]? = some _) (Classical.not_not.1 (by assumption)))), (by first | omega | (rw [List.length_set]; omega) | (first | exact comp_ne (by assumption) (by assumption) (by assumption) ht_ hd_ (by assumption : (m.drop i)[q]? = some _) (by assumption : (m.drop i)[q - 1]? = some _) (by assumption) | exact comp_eq (by assumption) (by assumption) ht_ hd_ (by assumption : (m.drop i)[q]? = some _) (by assumption : (m.drop i)[q - 1]? = some _) (Classical.not_not.1 (by assumption)))), (by first | omega | (rw [List.length_set]; omega) | (first | exact comp_ne (by assumption) (by assumption) (by assumption) ht_ hd_ (by assumption : (m.drop i)[q]? = some _) (by assumption : (m.drop i)[q - 1]? = some _) (by assumption) | exact comp_eq (by assumption) (by assumption) ht_ hd_ (by assumption : (m.drop i)[q]? = some _) (by assumption : (m.drop i)[q - 1]? = some _) (Classical.not_not.1 (by assumption)))), (by first | omega | (rw [List.length_set]; omega) | (first | exact comp_ne (by assumption) (by assumption) (by assumption) ht_ hd_ (by assumption : (m.drop i)[q]? = some _) (by assumption : (m.drop i)[q - 1]? = some _) (by assumption) | exact comp_eq (by assumption) (by assumption) ht_ hd_ (by assumption : (m.drop i)[q]? = some _) (by assumption : (m.drop i)[q - 1]? = some _) (Classical.not_not.1 (by assumption)))), (by first | omega | (rw [List.length_set]; omega) | (first | exact comp_ne (by assumption) (by assumption) (by assumption) ht_ hd_ (by assumption : (m.drop i)[q]? = some _) (by assumption : (m.drop i)[q - 1]? = some _) (by assumption) | exact comp_eq (by assumption) (by assumption) ht_ hd_ (by assumption : (m.drop i)[q]? = some _) (by assumption : (m.drop i)[q - 1]? = some _) (Classical.not_not.1 (by assumption)))), (by first | omega | (rw [List.length_set]; omega) | (first | exact comp_ne (by assumption) (by assumption) (by assumption) ht_ hd_ (by assumption : (m.drop i)[q]? = some _) (by assumption : (m.drop i)[q - 1]? = some _) (by assumption) | exact comp_eq (by assumption) (by assumption) ht_ hd_ (by assumption : (m.drop i)[q]? = some _) (by assumption : (m.drop i)[q - 1]? = some _) (Classical.not_not.1 (by assumption))))⟩ (by first | omega | (dsimp only; omega))
      ·
       refine cw_f (b := decide ((c30 : Cell) ≠ c32)) rfl (dec_f h34) ?_
       refine cw_skip ?_
       refine nw_block ?_
       refine nw_seq ?_
       refine cw_region ?_
       refine rw_ev (ev_move rfl) rfl rfl rfl ?_
       refine rw_ev (ev_add rfl rfl (by omega)) rfl rfl rfl ?_
       refine rw_ev (ev_assign rfl) rfl rfl rfl ?_
       refine rw_nil ?_
       exact nw_round ((q + 1), k, m) (Sub.cons rfl (Sub.cons rfl (Sub.cons rfl (Sub.cons rfl (Sub.int (b := ((q + 1) : Int)) rfl (by omega) Sub.nil))))) ⟨K0, (Nat.le_trans z18 zw27), f19, (by first | omega | (rw [List.length_set]; omega) | (first | exact comp_ne (by assumption) (by assumption) (by assumption) ht_ hd_ (by assumption : (m.drop i)[q]? = some _) (by assumption : (m.drop i)[q - 1]? = some _) (by assumption) | exact comp_eq (by assumption) (by assumption) ht_ hd_ (by assumption : (m.drop i)[q]? = some _) (by assumption : (m.drop i)[q - 1]? = some _) (Classical.not_not.1 (by assumption)))), (by first | omega | (rw [List.length_set]; omega) | (first | exact comp_ne (by assumption) (by assumption) (by assumption) ht_ hd_ (by assumption : (m.drop i)[q]? = some _) (by assumption : (m.drop i)[q - 1]? = some _) (by assumption) | exact comp_eq (by assumption) (by assumption) ht_ hd_ (by assumption : (m.drop i)[q]? = some _) (by assumption : (m.drop i)[q - 1]? = some _) (Classical.not_not.1 (by assumption)))), (by first | omega | (rw [List.length_set]; omega) | (first | exact comp_ne (by assumption) (by assumption) (by assumption) ht_ hd_ (by assumption : (m.drop i)[q]? = some _) (by assumption : (m.drop i)[q - 1]? = some _) (by assumption) | exact comp_eq (by assumption) (by assumption) ht_ hd_ (by assumption : (m.drop i)[q]? = some _) (by assumption : (m.drop i)[q - 1]? = some _) (Classical.not_not.1 (by assumption)))), (by first | omega | (rw [List.length_set]; omega) | (first | exact comp_ne (by assumption) (by assumption) (by assumption) ht_ hd_ (by assumption : (m.drop i)[q]? = some _) (by assumption : (m.drop i)[q - 1]? = some _) (by assumption) | exact comp_eq (by assumption) (by assumption) ht_ hd_ (by assumption : (m.drop i)[q]? = some _) (by assumption : (m.drop i)[q - 1]? = some _) (Classical.not_not.1 (by assumption)))), (by first | omega | (rw [List.length_set]; omega) | (first | exact comp_ne (by assumption) (by assumption) (by assumption) ht_ hd_ (by assumption : (m.drop i)[q]? = some _) (by assumption : (m.drop i)[q - 1]? = some _) (by assumption) | exact comp_eq (by assumption) (by assumption) ht_ hd_ (by assumption : (m.drop i)[q]? = some _) (by assumption : (m.drop i)[q - 1]? = some _) (Classical.not_not.1 (by assumption)))), (by first | omega | (rw [List.length_set]; omega) | (first | exact comp_ne (by assumption) (by assumption) (by assumption) ht_ hd_ (by assumption : (m.drop i)[q]? = some _) (by assumption : (m.drop i)[q - 1]? = some _) (by assumption) | exact comp_eq (by assumption) (by assumption) ht_ hd_ (by assumption : (m.drop i)[q]? = some _) (by assumption : (m.drop i)[q - 1]? = some _) (Classical.not_not.1 (by assumption))))⟩ (by first | omega | (dsimp only; omega))
     ·
      refine cw_f (b := decide ((q : Int) < (((l.length - i) : Nat) : Int))) rfl (dec_f h26) ?_
      refine cw_exit ?_
      refine xw_seq ?_
      refine xw_goal ?_
      refine xw_hit ?_
      refine nw_seq ?_
      refine cw_seq ?_
      refine cw_region ?_
      refine rw_ev (ev_move rfl) rfl rfl rfl ?_
      refine rw_ev (ev_move rfl) rfl rfl rfl ?_
      refine rw_ev (v := .slice (some ⟨b, (k * 2), none⟩) (l.length - k) ((l.length + sp.length) - k)) (ev_win (l := (k : Int)) (h := (l.length : Int)) rfl el_46 (.inr ⟨_, rfl, rfl⟩) (.inl ⟨rfl, rfl⟩) (by first | assumption | omega | (unfold maxLen; omega) | (simp; omega)) (by first | assumption | omega | (unfold maxLen; omega) | (simp; omega))) rfl rfl rfl ?_
      refine rw_none (op_wclear (d := k) (z := [.int .i64 0, .int .i64 0]) und_sl_46 zv_55 rfl (by decide) (by simp [Value.oneCell']) f19 rfl (by simp only [List.length_append, List.length_map]; first | assumption | omega | (unfold maxLen; omega) | (simp; omega)) (.inr rfl)) rfl rfl ?_
      rintro _ w41 ⟨k42, fr43⟩
      replace K0 := Kp.trans K0 k42 (fun _ h => h) (fun _ _ h => h)
      have zw41 := k42.size
      refine rw_nil ?_
      refine nw_seq ?_
      refine cw_seq ?_
      refine cw_region ?_
      refine rw_ev (ev_move rfl) rfl rfl rfl ?_
      refine rw_ev (ev_move rfl) rfl rfl rfl ?_
      refine rw_ev (v := .slice (some ⟨b, 0, none⟩) k (l.length + sp.length)) (ev_win (l := 0) (h := (k : Int)) rfl el_46 (.inl ⟨rfl, rfl⟩) (.inr ⟨_, rfl, rfl⟩) (by first | assumption | omega | (unfold maxLen; omega) | (simp; omega)) (by first | assumption | omega | (unfold maxLen; omega) | (simp; omega))) rfl rfl rfl ?_
      refine rw_ev (ev_assign rfl) rfl rfl rfl ?_
      refine rw_nil ?_
      refine nw_seq ?_
      refine cw_ret ?_
      refine ret_post (rs := [.tmp 2]) (vs := [.slice (some ⟨b, 0, none⟩) k (l.length + sp.length)]) rfl (.tmp rfl .nil) ?_
      refine ⟨?_, K0, ?_⟩
      · show (.slice (some ⟨b, 0, none⟩) k (l.length + sp.length) : Value) = _
        have hcc_ : (compC l).length = k := by
          have hz_ := (by assumption : m.take k = compC (l.take (i + q))); rw [List.take_of_length_le (l := l) (by omega)] at hz_; rw [← hz_, List.length_take]; omega
        rw [hcc_]
      · have hcc_ : m.take k = compC l := by
          have hz_ := (by assumption : m.take k = compC (l.take (i + q))); rwa [List.take_of_length_le (l := l) (by omega)] at hz_
        rw [← hcc_]; have hx_ := fr43; rw [over_tail (by omega)] at hx_; exact ⟨_, hx_, by rw [List.length_append, List.length_replicate, List.length_take]; omega⟩
    ·
     refine cw_f (b := decide ((c12 : Cell) = c14)) rfl (dec_f h16) ?_
     refine cw_skip ?_
     refine nw_block ?_
     refine nw_seq ?_
     refine cw_region ?_
     refine rw_ev (ev_move rfl) rfl rfl rfl ?_
     refine rw_ev (ev_add rfl rfl (by omega)) rfl rfl rfl ?_
     refine rw_ev (ev_assign rfl) rfl rfl rfl ?_
     refine rw_nil ?_
     exact nw_round (i + 1) (Sub.cons rfl (Sub.cons rfl (Sub.int (b := ((i + 1) : Int)) rfl (by omega) Sub.nil))) ⟨K0, (Nat.le_trans z3 zw9), f4, (by first | omega | (exact comp_first (by assumption) (by assumption) (by assumption : l[i]? = some _) (by assumption : l[i - 1]? = some _) (by assumption))), (by first | omega | (exact comp_first (by assumption) (by assumption) (by assumption : l[i]? = some _) (by assumption : l[i - 1]? = some _) (by assumption))), (by first | omega | (exact comp_first (by assumption) (by assumption) (by assumption : l[i]? = some _) (by assumption : l[i - 1]? = some _) (by assumption)))⟩ (by first | omega | (dsimp only; omega))
   ·
    refine cw_f (b := decide ((i : Int) < (l.length : Int))) rfl (dec_f h8) ?_
    refine cw_exit ?_
    refine xw_seq ?_
    refine xw_goal ?_
    refine xw_hit ?_
    refine nw_seq ?_
    refine cw_seq ?_
    refine cw_region ?_
    refine rw_ev (ev_move rfl) rfl rfl rfl ?_
    refine rw_ev (ev_assign rfl) rfl rfl rfl ?_
    refine rw_nil ?_
    refine nw_seq ?_
    refine cw_ret ?_
    refine ret_post (rs := [.tmp 2]) (vs := [.slice (some ⟨b, 0, none⟩) l.length (l.length + sp.length)]) rfl (.tmp rfl .nil) ?_
    refine ⟨?_, K0, ?_⟩
    · show (.slice (some ⟨b, 0, none⟩) l.length (l.length + sp.length) : Value) = _
      have hcc_ : compC l = l := by first | exact compC_small (by omega) | (have hz_ := (by assumption : compC (l.take i) = l.take i); rwa [List.take_of_length_le (by omega)] at hz_)
      rw [hcc_]
    · have hcc_ : compC l = l := by first | exact compC_small (by omega) | (have hz_ := (by assumption : compC (l.take i) = l.take i); rwa [List.take_of_length_le (by omega)] at hz_)
      rw [hcc_]; exact ⟨sp, f4, rfl⟩

end Go.Proofs.Ythpaadmpgdglnaa
