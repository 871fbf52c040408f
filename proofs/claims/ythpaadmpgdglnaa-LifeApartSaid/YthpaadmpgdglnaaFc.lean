/- slices.Delete and slices.Insert at cells, in place. Each theorem names its conditions. -/
import Derived.Test.YthpaadmpgdglnaaFa
import Derived.Test.YthpaadmpgdglnaaKc
namespace Go.Proofs.Ythpaadmpgdglnaa
open Go Go.RowKit
set_option linter.unusedVariables false
set_option linter.unusedSimpArgs false
set_option maxRecDepth 100000
set_option maxHeartbeats 4000000

theorem c_deleteF (w : World) (b : Nat) (l : List Cell) (sp : List (List Value)) (hb : Fr w b 55 2 (l.map encC ++ sp)) (hmx : l.length + sp.length ≤ 9223372036854775807) (i : Nat)  (hi : i < l.length) : Fn Try.prog 108 [.slice (some ⟨b, 0, none⟩) l.length (l.length + sp.length), .int .i64 (i : Int), .int .i64 ((i : Int) + 1)] w (fun v w' =>  v = .slice (some ⟨b, 0, none⟩) (l.length - 1) (l.length + sp.length) ∧ Kp (fun q => q = b) w w' ∧ (∃ sp' : List (List Value), Fr w' b 55 2 ((l.take i ++ l.drop (i + 1)).map encC ++ sp') ∧ (l.take i ++ l.drop (i + 1)).length + sp'.length = l.length + sp.length)) := by
  have K0 : Kp (fun q => q = b) w w := Kp.refl _ _
  refine fn_enter (n := 33) Try.func108 rfl rfl (Nat.le_of_ble_eq_true rfl) ?_
  show CW _ _ _ _ _ _ [(0, .slice (some ⟨b, 0, none⟩) l.length (l.length + sp.length)), (1, .int .i64 (i : Int)), (2, .int .i64 ((i : Int) + 1))] _
  have lbb := hb.lt
  refine cw_seq ?_
  refine cw_region ?_
  refine rw_ev (ev_assign rfl) rfl rfl rfl ?_
  refine rw_nil ?_
  refine nw_seq ?_
  refine cw_seq ?_
  refine cw_region ?_
  refine rw_ev (ev_move rfl) rfl rfl rfl ?_
  refine rw_ev (ev_move rfl) rfl rfl rfl ?_
  refine rw_ev (ev_move rfl) rfl rfl rfl ?_
  refine rw_ev (ev_move rfl) rfl rfl rfl ?_
  refine rw_ev (v := .int .i64 (l.length : Int)) (ev_lenw rfl el_46 rfl) rfl rfl rfl ?_
  refine rw_ev (v := .slice (some ⟨b, (i * 2), none⟩) ((i + 1) - i) (l.length - i)) (ev_win3 (l := (i : Int)) (h := (i : Int) + 1) (m := (l.length : Int)) rfl el_46 rfl rfl rfl (by first | assumption | omega | (unfold maxLen; omega) | (simp; omega)) (by first | assumption | omega | (unfold maxLen; omega) | (simp; omega))) rfl rfl rfl ?_
  refine rw_nil ?_
  refine nw_seq ?_
  refine cw_seq ?_
  refine cw_seq ?_
  refine cw_region ?_
  refine rw_ev (ev_move rfl) rfl rfl rfl ?_
  refine rw_ev (ev_move rfl) rfl rfl rfl ?_
  refine rw_ev (ev_eq rfl rfl) rfl rfl rfl ?_
  refine rw_nil ?_
  refine nw_seq ?_
  refine cw_f (b := decide ((i : Int) = ((i : Int) + 1))) rfl (dec_f (by omega)) ?_
  refine cw_skip ?_
  refine nw_seq ?_
  refine cw_seq ?_
  refine cw_region ?_
  refine rw_ev (ev_move rfl) rfl rfl rfl ?_
  refine rw_ev (v := .int .i64 (l.length : Int)) (ev_lenw rfl el_46 rfl) rfl rfl rfl ?_
  refine rw_ev (ev_assign rfl) rfl rfl rfl ?_
  refine rw_nil ?_
  refine nw_seq ?_
  refine cw_seq ?_
  refine cw_drawn (fun w1 w_ => Kp (fun k_ => k_ = b) w1 w_) [] (.take 0 (.take 1 (.take 2 (.take 3 (.take 4 (.take 5 (.one 6 (.take 7 .done)))))))) mixed (by kernel_rfl) (by kernel_rfl) (Nat.le_of_ble_eq_true (by kernel_rfl)) ?_; intro w1 k2 hs_
  replace K0 := K0.ex k2
  replace hb := hb.ex k2
  have zw1 := k2.size
  have sw3 := Fr.sl0 hb (A := fun x_ => x_ = b) rfl (n := l.length) (c := (l.length + sp.length)) (by first | assumption | omega | (unfold maxLen; omega) | (simp; omega)) (by first | assumption | omega | (unfold maxLen; omega) | (simp; omega)) (by first | assumption | omega | (unfold maxLen; omega) | (simp; omega))
  have hS : (fun w_ => Kp (fun k_ => k_ = b) w1 w_) w1 := Kp.refl _ _
  have hE : Ex w1 w1 := Kp.refl _ _
  refine rp_take hs_ hS rfl rfl (ev_move rfl) rfl rfl rfl ?_
  refine rp_take hs_ hS rfl rfl (ev_move rfl) rfl rfl rfl ?_
  refine rp_take (v := .slice (some ⟨b, 0, none⟩) i (l.length + sp.length)) hs_ hS rfl rfl (ev_win (l := 0) (h := (i : Int)) rfl el_46 (.inl ⟨rfl, rfl⟩) (.inr ⟨_, rfl, rfl⟩) (by first | assumption | omega | (unfold maxLen; omega) | (simp; omega)) (by first | assumption | omega | (unfold maxLen; omega) | (simp; omega))) rfl rfl rfl ?_
  refine rp_take hs_ hS rfl rfl (ev_move rfl) rfl rfl rfl ?_
  refine rp_take hs_ hS rfl rfl (ev_move rfl) rfl rfl rfl ?_
  refine rp_take (v := .slice (some ⟨b, (winOff 0 (i + 1) (l.length + sp.length) 2), none⟩) (l.length - (i + 1)) ((l.length + sp.length) - (i + 1))) hs_ hS rfl rfl (ev_winE (l := (i : Int) + 1) (h := (l.length : Int)) rfl el_46 (.inr ⟨_, rfl, rfl⟩) (.inl ⟨rfl, rfl⟩) (by first | assumption | omega | (unfold maxLen; omega) | (simp; omega))) rfl rfl rfl ?_
  have sw4 := Fr.slt (hb.ex hE) (A := fun x_ => x_ = b) rfl (d := (i + 1)) (n := (l.length - (i + 1))) (c := ((l.length + sp.length) - (i + 1))) (o := (winOff 0 (i + 1) (l.length + sp.length) 2)) (by first | exact .inr rfl | exact (Nat.lt_or_ge (i + 1) (l.length + sp.length)).elim (fun h => .inr (by rw [winOff_eq h, Nat.zero_add])) (fun h => .inl (by omega))) (by first | assumption | omega | (unfold maxLen; omega) | (simp; omega)) (by first | assumption | omega | (unfold maxLen; omega) | (simp; omega)) (by first | assumption | omega | (unfold maxLen; omega) | (simp; omega))
  refine rp_up (up_op rfl (op_wapp (m := i) (N := (l.length - 1)) (ns := (l.drop (i + 1)).map encC) el_46 (by decide) (hb.ex hE) ((sw4.ex hE)) rfl rfl (by simp only [List.length_append, List.length_map]) (by simp only [List.length_append, List.length_map, List.length_drop]; omega) (by simp only [List.length_map, List.length_drop]; omega) (one_encs plainC _)) rfl rfl rfl ?_)
  rintro _ w5 ⟨rfl, k6, fr7⟩
  replace fr7 : Fr w5 b 55 2 ((l.take i ++ l.drop (i + 1)).map encC ++ ((l.map encC ++ sp).drop (i + (l.length - (i + 1))))) := by
    have h_ := fr7; rw [over_out (by omega), List.length_drop] at h_; exact h_
  replace K0 := Kp.trans K0 k6 (fun _ h => h) (fun _ _ h => h)
  replace hS := Kp.trans hS k6 (fun _ x => x) (fun _ _ x => x)
  have zw5 := k6.size
  refine ⟨(fun _ => hS), ?_⟩
  refine rp_take hs_ hS rfl rfl (ev_assign rfl) rfl rfl rfl ?_
  refine rp_done ?_
  clear hs_
  refine nw_seq ?_
  refine cw_seq ?_
  refine cw_region ?_
  refine rw_ev (ev_move rfl) rfl rfl rfl ?_
  refine rw_ev (ev_move rfl) rfl rfl rfl ?_
  refine rw_ev (v := .int .i64 (((l.length - 1) : Nat) : Int)) (ev_lenw rfl el_46 rfl) rfl rfl rfl ?_
  refine rw_ev (ev_move rfl) rfl rfl rfl ?_
  refine rw_ev (v := .slice (some ⟨b, ((l.length - 1) * 2), none⟩) (l.length - (l.length - 1)) ((l.length + sp.length) - (l.length - 1))) (ev_win (l := (((l.length - 1) : Nat) : Int)) (h := (l.length : Int)) rfl el_46 (.inr ⟨_, rfl, rfl⟩) (.inr ⟨_, rfl, rfl⟩) (by first | assumption | omega | (unfold maxLen; omega) | (simp; omega)) (by first | assumption | omega | (unfold maxLen; omega) | (simp; omega))) rfl rfl rfl ?_
  refine rw_none (op_wclear (d := (l.length - 1)) (z := [.int .i64 0, .int .i64 0]) und_sl_46 zv_55 rfl (by decide) (by simp [Value.oneCell']) fr7 rfl (by simp only [List.length_append, List.length_map]; first | assumption | omega | (unfold maxLen; omega) | (simp; omega)) (.inr rfl)) rfl rfl ?_
  rintro _ w8 ⟨k9, fr10⟩
  replace K0 := Kp.trans K0 k9 (fun _ h => h) (fun _ _ h => h)
  have zw8 := k9.size
  refine rw_nil ?_
  refine nw_seq ?_
  refine cw_seq ?_
  refine cw_region ?_
  refine rw_ev (ev_move rfl) rfl rfl rfl ?_
  refine rw_ev (ev_assign rfl) rfl rfl rfl ?_
  refine rw_nil ?_
  refine nw_seq ?_
  refine cw_ret ?_
  refine ret_post (rs := [.tmp 6]) (vs := [.slice (some ⟨b, 0, none⟩) (l.length - 1) (l.length + sp.length)]) rfl (.tmp rfl .nil) ?_
  refine ⟨?_, K0, ?_⟩
  · show (.slice (some ⟨b, 0, none⟩) (l.length - 1) (l.length + sp.length) : Value) = _
    rfl
  · have hx_ := fr10; rw [over_end (by simp only [List.length_append, List.length_map, List.length_take, List.length_drop, List.length_cons, List.length_nil, List.length_replicate]; omega)] at hx_; exact ⟨_, hx_, by rw [over_len (by simp only [List.length_append, List.length_map, List.length_take, List.length_drop, List.length_cons, List.length_nil, List.length_replicate]; omega)]; simp only [List.length_append, List.length_map, List.length_take, List.length_drop, List.length_cons, List.length_nil, List.length_replicate]; omega⟩

theorem c_insertF (w : World) (b : Nat) (l : List Cell) (sp : List (List Value)) (hb : Fr w b 55 2 (l.map encC ++ sp)) (hmx : l.length + sp.length ≤ 9223372036854775807) (i : Nat) (gu : Nat) (c : Cell) (hgu : Bx w gu 55 #[.int .i64 c.1, .int .i64 c.2]) (hi : i < l.length) (hn : l.length ≤ 1000000) (hgb : ¬ gu = b) : Fn Try.prog 107 [.slice (some ⟨b, 0, none⟩) l.length (l.length + sp.length), .int .i64 (i : Int), .slice (some ⟨gu, 0, none⟩) 1 1] w (fun v w' => ∃ u : Value, v = u ∧ Kp (fun q => q = b) w w' ∧ Ow w' b 55 u 2 ((l.take i ++ [c] ++ l.drop i).map encC)) := by
  have K0 : Kp (fun q => q = b) w w := Kp.refl _ _
  refine fn_enter (n := 95) Try.func107 rfl rfl (Nat.le_of_ble_eq_true rfl) ?_
  show CW _ _ _ _ _ _ [(0, .slice (some ⟨b, 0, none⟩) l.length (l.length + sp.length)), (1, .int .i64 (i : Int)), (2, .slice (some ⟨gu, 0, none⟩) 1 1)] _
  have lbb := hb.lt
  have lbgu := hgu.lt
  refine cw_seq ?_
  refine cw_region ?_
  refine rw_ev (ev_assign rfl) rfl rfl rfl ?_
  refine rw_nil ?_
  refine nw_seq ?_
  refine cw_seq ?_
  refine cw_region ?_
  refine rw_ev (ev_move rfl) rfl rfl rfl ?_
  refine rw_ev (ev_move rfl) rfl rfl rfl ?_
  refine rw_ev (v := .slice (some ⟨b, (i * 2), none⟩) (l.length - i) ((l.length + sp.length) - i)) (ev_win (l := (i : Int)) (h := (l.length : Int)) rfl el_46 (.inr ⟨_, rfl, rfl⟩) (.inl ⟨rfl, rfl⟩) (by first | assumption | omega | (unfold maxLen; omega) | (simp; omega)) (by first | assumption | omega | (unfold maxLen; omega) | (simp; omega))) rfl rfl rfl ?_
  refine rw_nil ?_
  refine nw_seq ?_
  refine cw_seq ?_
  refine cw_region ?_
  refine rw_ev (ev_move rfl) rfl rfl rfl ?_
  refine rw_ev (v := .int .i64 1) (ev_pure rfl rfl (fun _ => by kernel_rfl)) rfl rfl rfl ?_
  refine rw_ev (ev_assign rfl) rfl rfl rfl ?_
  refine rw_nil ?_
  refine nw_seq ?_
  refine cw_seq ?_
  refine cw_seq ?_
  refine cw_region ?_
  refine rw_ev (ev_move rfl) rfl rfl rfl ?_
  refine rw_ev (v := .bool false) (ev_eq (p := 1) (q := 0) rfl rfl) rfl rfl rfl ?_
  refine rw_nil ?_
  refine nw_seq ?_
  refine cw_f (b := false) rfl rfl ?_
  refine cw_skip ?_
  refine nw_seq ?_
  refine cw_seq ?_
  refine cw_region ?_
  refine rw_ev (ev_move rfl) rfl rfl rfl ?_
  refine rw_ev (v := .int .i64 (l.length : Int)) (ev_lenw rfl el_46 rfl) rfl rfl rfl ?_
  refine rw_ev (ev_assign rfl) rfl rfl rfl ?_
  refine rw_nil ?_
  refine nw_seq ?_
  refine cw_seq ?_
  refine cw_seq ?_
  refine cw_region ?_
  refine rw_ev (ev_move rfl) rfl rfl rfl ?_
  refine rw_ev (ev_move rfl) rfl rfl rfl ?_
  refine rw_ev (ev_eq rfl rfl) rfl rfl rfl ?_
  refine rw_nil ?_
  refine nw_seq ?_
  refine cw_f (b := decide ((i : Int) = (l.length : Int))) rfl (dec_f (by omega)) ?_
  refine cw_skip ?_
  refine nw_seq ?_
  refine cw_seq ?_
  refine cw_seq ?_
  refine cw_region ?_
  refine rw_ev (ev_move rfl) rfl rfl rfl ?_
  refine rw_ev (ev_move rfl) rfl rfl rfl ?_
  refine rw_ev (ev_add rfl rfl (by omega)) rfl rfl rfl ?_
  refine rw_ev (ev_move rfl) rfl rfl rfl ?_
  refine rw_ev (v := .int .i64 ((l.length + sp.length) : Int)) (ev_cap rfl el_46 rfl) rfl rfl rfl ?_
  refine rw_ev (ev_gtr rfl rfl) rfl rfl rfl ?_
  refine rw_nil ?_
  refine nw_seq ?_
  by_cases h1 : ((l.length + sp.length) : Int) < ((l.length : Int) + 1)
  ·
   refine cw_t (b := decide (((l.length + sp.length) : Int) < ((l.length : Int) + 1))) rfl (dec_t h1) ?_
   refine cw_seq ?_
   refine cw_region ?_
   refine rw_ev (ev_move rfl) rfl rfl rfl ?_
   refine rw_ev (ev_move rfl) rfl rfl rfl ?_
   refine rw_ev (v := .slice (some ⟨b, 0, none⟩) i (l.length + sp.length)) (ev_win (l := 0) (h := (i : Int)) rfl el_46 (.inl ⟨rfl, rfl⟩) (.inr ⟨_, rfl, rfl⟩) (by first | assumption | omega | (unfold maxLen; omega) | (simp; omega)) (by first | assumption | omega | (unfold maxLen; omega) | (simp; omega))) rfl rfl rfl ?_
   refine rw_ev (ev_move rfl) rfl rfl rfl ?_
   refine rw_ev (ev_move rfl) rfl rfl rfl ?_
   refine rw_ev (ev_add rfl rfl (by omega)) rfl rfl rfl ?_
   refine rw_ev (ev_move rfl) rfl rfl rfl ?_
   refine rw_ev (ev_sub rfl rfl (by omega)) rfl rfl rfl ?_
   refine rw_op (op_wappz (m := i) (c := (l.length + sp.length)) (q := (l.length + 1 - i)) row_46 und_int_3 zv_55 rfl hb rfl rfl (by omega) (by simp only [List.length_append, List.length_map]; omega) (by omega) (by omega) (by omega) (by omega)) rfl rfl rfl ?_
   rintro _ w4 ⟨g2, cap3, rfl, hg6, hc7, hc8, k5, fr9⟩
   replace fr9 : Fr w4 g2 55 2 ((l.take i).map encC ++ (List.replicate (cap3 - i) [Value.int .i64 0, Value.int .i64 0])) := by
     have h_ := fr9; rw [List.take_append_of_le_length (by rw [List.length_map]; omega), ← List.map_take] at h_; exact h_
   replace K0 := K0.ex k5
   replace hb := hb.ex k5
   replace hgu := hgu.ex k5
   have zw4 := k5.size
   have lg2 := fr9.lt
   refine rw_ev (ev_assign rfl) rfl rfl rfl ?_
   refine rw_nil ?_
   refine nw_seq ?_
   refine cw_seq ?_
   refine cw_region ?_
   refine rw_ev (ev_move rfl) rfl rfl rfl ?_
   refine rw_ev (ev_move rfl) rfl rfl rfl ?_
   refine rw_ev (v := .slice (some ⟨g2, (i * 2), none⟩) ((i + (l.length + 1 - i)) - i) (cap3 - i)) (ev_win (l := (i : Int)) (h := (((i + (l.length + 1 - i)) : Nat) : Int)) rfl el_46 (.inr ⟨_, rfl, rfl⟩) (.inl ⟨rfl, rfl⟩) (by first | assumption | omega | (unfold maxLen; omega) | (simp; omega)) (by first | assumption | omega | (unfold maxLen; omega) | (simp; omega))) rfl rfl rfl ?_
   refine rw_ev (ev_move rfl) rfl rfl rfl ?_
   refine rw_op (op_wcopy (d := i) (m := 1) (ns := (([c]).map encC)) el_46 (by decide) fr9 ((Bx.slm (A := fun _ => True) (f := encC) (l := [c]) hgu trivial (k := 2) (fun _ => rfl) rfl (Nat.le_of_ble_eq_true rfl))) rfl rfl (by simp only [List.length_map, List.length_drop, List.length_cons, List.length_nil]; omega) (by simp only [List.length_append, List.length_map, List.length_take, List.length_drop, List.length_cons, List.length_nil, List.length_replicate]; omega) (.inr rfl) (one_take plainC ([c]) 1)) rfl rfl rfl ?_
   rintro _ w10 ⟨rfl, k11, fr12⟩
   replace fr12 : Fr w10 g2 55 2 ((l.take i ++ [c]).map encC ++ (((l.take i).map encC ++ (List.replicate (cap3 - i) [Value.int .i64 0, Value.int .i64 0])).drop (i + 1))) := by
     have h_ := fr12; rw [show ([c].map encC).take 1 = [c].map encC from rfl, over_out (l := l.take i) (ns := [c]) (d := i) (by simp only [List.length_append, List.length_map, List.length_take, List.length_drop, List.length_cons, List.length_nil, List.length_replicate]; omega), List.take_take, Nat.min_self] at h_; exact h_
   replace K0 := Kp.trans K0 k11 (fun _ h => h) (fun k_ hk_ h => absurd hk_ (Nat.not_lt.2 (h ▸ Nat.le_trans (Nat.le_refl _) hg6)))
   replace hb := hb.kp k11 (Nat.ne_of_lt (Nat.lt_of_lt_of_le lbb (Nat.le_trans (Nat.le_refl _) hg6)))
   replace hgu := hgu.kp k11 (Nat.ne_of_lt (Nat.lt_of_lt_of_le lbgu (Nat.le_trans (Nat.le_refl _) hg6)))
   have zw10 := k11.size
   refine rw_nil ?_
   refine nw_seq ?_
   refine cw_seq ?_
   refine cw_drawn (fun w13 w_ => Kp (fun k_ => k_ = g2) w13 w_) [] (.take 0 (.take 1 (.take 2 (.take 3 (.take 4 (.take 5 (.take 6 (.take 7 (.one 8 .done))))))))) mixed (by kernel_rfl) (by kernel_rfl) (Nat.le_of_ble_eq_true (by kernel_rfl)) ?_; intro w13 k14 hs_
   replace K0 := K0.ex k14
   replace hb := hb.ex k14
   replace hgu := hgu.ex k14
   replace fr12 := fr12.ex k14
   have zw13 := k14.size
   have hS : (fun w_ => Kp (fun k_ => k_ = g2) w13 w_) w13 := Kp.refl _ _
   have hE : Ex w13 w13 := Kp.refl _ _
   refine rp_take hs_ hS rfl rfl (ev_move rfl) rfl rfl rfl ?_
   refine rp_take hs_ hS rfl rfl (ev_move rfl) rfl rfl rfl ?_
   refine rp_take hs_ hS rfl rfl (ev_move rfl) rfl rfl rfl ?_
   refine rp_take hs_ hS rfl rfl (ev_add rfl rfl (by omega)) rfl rfl rfl ?_
   refine rp_take (v := .slice (some ⟨g2, ((i + 1) * 2), none⟩) ((i + (l.length + 1 - i)) - (i + 1)) (cap3 - (i + 1))) hs_ hS rfl rfl (ev_win (l := (i : Int) + 1) (h := (((i + (l.length + 1 - i)) : Nat) : Int)) rfl el_46 (.inr ⟨_, rfl, rfl⟩) (.inl ⟨rfl, rfl⟩) (by first | assumption | omega | (unfold maxLen; omega) | (simp; omega)) (by first | assumption | omega | (unfold maxLen; omega) | (simp; omega))) rfl rfl rfl ?_
   refine rp_take hs_ hS rfl rfl (ev_move rfl) rfl rfl rfl ?_
   refine rp_take hs_ hS rfl rfl (ev_move rfl) rfl rfl rfl ?_
   refine rp_take (v := .slice (some ⟨b, (i * 2), none⟩) (l.length - i) ((l.length + sp.length) - i)) hs_ hS rfl rfl (ev_win (l := (i : Int)) (h := (l.length : Int)) rfl el_46 (.inr ⟨_, rfl, rfl⟩) (.inl ⟨rfl, rfl⟩) (by first | assumption | omega | (unfold maxLen; omega) | (simp; omega)) (by first | assumption | omega | (unfold maxLen; omega) | (simp; omega))) rfl rfl rfl ?_
   have sw15 := Fr.slt (hb.ex hE) (A := fun x_ => x_ = b) rfl (d := i) (n := (l.length - i)) (c := ((l.length + sp.length) - i)) (o := (i * 2)) (by exact .inr rfl) (by first | assumption | omega | (unfold maxLen; omega) | (simp; omega)) (by first | assumption | omega | (unfold maxLen; omega) | (simp; omega)) (by first | assumption | omega | (unfold maxLen; omega) | (simp; omega))
   refine rp_up (up_op rfl (op_wcopy (d := (i + 1)) (m := (l.length - i)) (ns := ((l.drop i).map encC)) el_46 (by decide) (fr12.ex hE) ((sw15.ex hE)) rfl rfl (by simp only [List.length_map, List.length_drop, List.length_cons, List.length_nil]; omega) (by simp only [List.length_append, List.length_map, List.length_take, List.length_drop, List.length_cons, List.length_nil, List.length_replicate]; omega) (.inr rfl) (one_take plainC (l.drop i) (l.length - i))) rfl rfl rfl ?_)
   rintro _ w16 ⟨rfl, k17, fr18⟩
   replace fr18 : Fr w16 g2 55 2 ((l.take i ++ [c] ++ l.drop i).map encC ++ (((l.take i ++ [c]).map encC ++ (((l.take i).map encC ++ (List.replicate (cap3 - i) [Value.int .i64 0, Value.int .i64 0])).drop (i + 1))).drop (i + 1 + (l.length - i)))) := by
     have h_ := fr18; rw [List.take_of_length_le (l := (l.drop i).map encC) (by simp only [List.length_append, List.length_map, List.length_take, List.length_drop, List.length_cons, List.length_nil, List.length_replicate]; omega), over_out (l := l.take i ++ [c]) (ns := l.drop i) (d := i + 1) (by simp only [List.length_append, List.length_map, List.length_take, List.length_drop, List.length_cons, List.length_nil, List.length_replicate]; omega), List.length_drop, List.take_of_length_le (l := l.take i ++ [c]) (by simp only [List.length_append, List.length_map, List.length_take, List.length_drop, List.length_cons, List.length_nil, List.length_replicate]; omega)] at h_; exact h_
   replace K0 := Kp.trans K0 k17 (fun _ h => h) (fun k_ hk_ h => absurd hk_ (Nat.not_lt.2 (h ▸ Nat.le_trans (Nat.le_refl _) hg6)))
   replace hS := Kp.trans hS k17 (fun _ x => x) (fun _ _ x => x)
   replace hb := hb.kp hS (Nat.ne_of_lt (Nat.lt_of_lt_of_le lbb (Nat.le_trans (Nat.le_refl _) hg6)))
   replace hgu := hgu.kp hS (Nat.ne_of_lt (Nat.lt_of_lt_of_le lbgu (Nat.le_trans (Nat.le_refl _) hg6)))
   replace sw15 := sw15.kp hS (fun b_ h e => (Nat.ne_of_lt (Nat.lt_of_lt_of_le lbb (Nat.le_trans (Nat.le_refl _) hg6))) ((show _ = b from h).symm.trans (show _ = g2 from e)))
   have zw16 := k17.size
   refine ⟨(fun _ => hS), ?_⟩
   refine rp_done ?_
   clear hs_
   refine nw_seq ?_
   refine cw_seq ?_
   refine cw_region ?_
   refine rw_ev (ev_move rfl) rfl rfl rfl ?_
   refine rw_ev (ev_assign rfl) rfl rfl rfl ?_
   refine rw_nil ?_
   refine nw_seq ?_
   refine cw_ret ?_
   refine ret_post (rs := [.tmp 6]) (vs := [.slice (some ⟨g2, 0, none⟩) (i + (l.length + 1 - i)) cap3]) rfl (.tmp rfl .nil) ?_
   refine ⟨(.slice (some ⟨g2, 0, none⟩) (i + (l.length + 1 - i)) cap3), ?_, K0, ?_⟩
   · show (.slice (some ⟨g2, 0, none⟩) (i + (l.length + 1 - i)) cap3 : Value) = _
     rfl
   · exact (Fr.owt fr18 (Nat.le_trans (Nat.le_of_lt lbb) (Nat.le_trans (Nat.le_refl _) hg6)) (n := (i + (l.length + 1 - i))) (cap := cap3) (by simp only [List.length_append, List.length_map, List.length_take, List.length_drop, List.length_cons, List.length_nil, List.length_replicate]; omega) (by simp only [List.length_append, List.length_map, List.length_take, List.length_drop, List.length_cons, List.length_nil, List.length_replicate]; omega) (by first | assumption | (unfold maxLen; omega)))
  ·
   refine cw_f (b := decide (((l.length + sp.length) : Int) < ((l.length : Int) + 1))) rfl (dec_f h1) ?_
   refine cw_skip ?_
   refine nw_seq ?_
   refine cw_seq ?_
   refine cw_region ?_
   refine rw_ev (ev_move rfl) rfl rfl rfl ?_
   refine rw_ev (ev_move rfl) rfl rfl rfl ?_
   refine rw_ev (ev_move rfl) rfl rfl rfl ?_
   refine rw_ev (ev_add rfl rfl (by omega)) rfl rfl rfl ?_
   refine rw_ev (v := .slice (some ⟨b, 0, none⟩) (l.length + 1) (l.length + sp.length)) (ev_win (l := 0) (h := (l.length : Int) + 1) rfl el_46 (.inl ⟨rfl, rfl⟩) (.inr ⟨_, rfl, rfl⟩) (by first | assumption | omega | (unfold maxLen; omega) | (simp; omega)) (by first | assumption | omega | (unfold maxLen; omega) | (simp; omega))) rfl rfl rfl ?_
   refine rw_ev (ev_assign rfl) rfl rfl rfl ?_
   refine rw_nil ?_
   refine nw_seq ?_
   refine cw_seq ?_
   refine cw_seq ?_
   refine cw_region ?_
   refine rw_ev (ev_move rfl) rfl rfl rfl ?_
   refine rw_ev (ev_move rfl) rfl rfl rfl ?_
   refine rw_ev (ev_move rfl) rfl rfl rfl ?_
   refine rw_ev (ev_move rfl) rfl rfl rfl ?_
   refine rw_ev (ev_add rfl rfl (by omega)) rfl rfl rfl ?_
   refine rw_ev (v := .slice (some ⟨b, ((i + 1) * 2), none⟩) ((l.length + 1) - (i + 1)) ((l.length + sp.length) - (i + 1))) (ev_win (l := (i : Int) + 1) (h := ((l.length + 1) : Int)) rfl el_46 (.inr ⟨_, rfl, rfl⟩) (.inl ⟨rfl, rfl⟩) (by first | assumption | omega | (unfold maxLen; omega) | (simp; omega)) (by first | assumption | omega | (unfold maxLen; omega) | (simp; omega))) rfl rfl rfl ?_
   refine rw_op (op_extern (xs := [.tmp 61, .tmp 66]) rfl (call_overlaps hgu hb.2 hgb (by decide) (by omega))) rfl rfl rfl ?_
   rintro _ _ ⟨hv_, hw_⟩; obtain rfl := hv_.symm; obtain rfl := hw_.symm
   refine rw_ev (v := .bool true) (ev_not (b := false) rfl rfl) rfl rfl rfl ?_
   refine rw_nil ?_
   refine nw_seq ?_
   refine cw_t (b := true) rfl rfl ?_
   refine cw_seq ?_
   refine cw_drawn (fun w19 w_ => Kp (fun k_ => k_ = b) w19 w_) [] (.take 0 (.take 1 (.take 2 (.take 3 (.take 4 (.take 5 (.take 6 (.take 7 (.one 8 .done))))))))) mixed (by kernel_rfl) (by kernel_rfl) (Nat.le_of_ble_eq_true (by kernel_rfl)) ?_; intro w19 k20 hs_
   replace K0 := K0.ex k20
   replace hb := hb.ex k20
   replace hgu := hgu.ex k20
   have zw19 := k20.size
   have hS : (fun w_ => Kp (fun k_ => k_ = b) w19 w_) w19 := Kp.refl _ _
   have hE : Ex w19 w19 := Kp.refl _ _
   refine rp_take hs_ hS rfl rfl (ev_move rfl) rfl rfl rfl ?_
   refine rp_take hs_ hS rfl rfl (ev_move rfl) rfl rfl rfl ?_
   refine rp_take hs_ hS rfl rfl (ev_move rfl) rfl rfl rfl ?_
   refine rp_take hs_ hS rfl rfl (ev_add rfl rfl (by omega)) rfl rfl rfl ?_
   refine rp_take (v := .slice (some ⟨b, ((i + 1) * 2), none⟩) ((l.length + 1) - (i + 1)) ((l.length + sp.length) - (i + 1))) hs_ hS rfl rfl (ev_win (l := (i : Int) + 1) (h := ((l.length + 1) : Int)) rfl el_46 (.inr ⟨_, rfl, rfl⟩) (.inl ⟨rfl, rfl⟩) (by first | assumption | omega | (unfold maxLen; omega) | (simp; omega)) (by first | assumption | omega | (unfold maxLen; omega) | (simp; omega))) rfl rfl rfl ?_
   refine rp_take hs_ hS rfl rfl (ev_move rfl) rfl rfl rfl ?_
   refine rp_take hs_ hS rfl rfl (ev_move rfl) rfl rfl rfl ?_
   refine rp_take (v := .slice (some ⟨b, (i * 2), none⟩) ((l.length + 1) - i) ((l.length + sp.length) - i)) hs_ hS rfl rfl (ev_win (l := (i : Int)) (h := ((l.length + 1) : Int)) rfl el_46 (.inr ⟨_, rfl, rfl⟩) (.inl ⟨rfl, rfl⟩) (by first | assumption | omega | (unfold maxLen; omega) | (simp; omega)) (by first | assumption | omega | (unfold maxLen; omega) | (simp; omega))) rfl rfl rfl ?_
   refine rp_up (up_op rfl (op_wcopy (d := (i + 1)) (m := (l.length - i)) (ns := (((l.map encC ++ sp).drop i).take (l.length + 1 - i))) el_46 (by decide) (hb.ex hE) ((Fr.sl (hb.ex hE) (A := fun x_ => x_ = b) rfl (i := i) (n := l.length + 1 - i) (.inr rfl) (by simp only [List.length_append, List.length_map, List.length_take, List.length_drop, List.length_cons, List.length_nil, List.length_replicate]; omega) (by omega) (by unfold maxLen; omega) : Sl _ _ _ _ _)) rfl rfl (by simp only [List.length_append, List.length_map, List.length_take, List.length_drop]; omega) (by simp only [List.length_append, List.length_map, List.length_take, List.length_drop, List.length_cons, List.length_nil, List.length_replicate]; omega) (.inr rfl) (by have e_ : (((l.map encC ++ sp).drop i).take (l.length + 1 - i)).take (l.length - i) = (l.drop i).map encC := (by rw [List.take_take, Nat.min_eq_left (by omega), List.drop_append_of_le_length (by rw [List.length_map]; omega), List.take_append_of_le_length (by rw [List.length_drop, List.length_map]; omega), ← List.map_drop]; exact List.take_of_length_le (by rw [List.length_map, List.length_drop]; omega)); rw [e_]; exact one_encs plainC _)) rfl rfl rfl ?_)
   rintro _ w21 ⟨rfl, k22, fr23⟩
   replace fr23 : Fr w21 b 55 2 ((l.take (i + 1) ++ l.drop i).map encC ++ ((l.map encC ++ sp).drop (i + 1 + (l.length - i)))) := by
     have e_ : (((l.map encC ++ sp).drop i).take (l.length + 1 - i)).take (l.length - i) = (l.drop i).map encC := (by rw [List.take_take, Nat.min_eq_left (by omega), List.drop_append_of_le_length (by rw [List.length_map]; omega), List.take_append_of_le_length (by rw [List.length_drop, List.length_map]; omega), ← List.map_drop]; exact List.take_of_length_le (by rw [List.length_map, List.length_drop]; omega))
     have h_ := fr23; rw [e_, over_out (by omega), List.length_drop] at h_; exact h_
   replace K0 := Kp.trans K0 k22 (fun _ h => h) (fun _ _ h => h)
   replace hS := Kp.trans hS k22 (fun _ x => x) (fun _ _ x => x)
   replace hgu := hgu.kp hS hgb
   have zw21 := k22.size
   refine ⟨(fun _ => hS), ?_⟩
   refine rp_done ?_
   clear hs_
   refine nw_seq ?_
   refine cw_seq ?_
   refine cw_region ?_
   refine rw_ev (ev_move rfl) rfl rfl rfl ?_
   refine rw_ev (ev_move rfl) rfl rfl rfl ?_
   refine rw_ev (v := .slice (some ⟨b, (i * 2), none⟩) ((l.length + 1) - i) ((l.length + sp.length) - i)) (ev_win (l := (i : Int)) (h := ((l.length + 1) : Int)) rfl el_46 (.inr ⟨_, rfl, rfl⟩) (.inl ⟨rfl, rfl⟩) (by first | assumption | omega | (unfold maxLen; omega) | (simp; omega)) (by first | assumption | omega | (unfold maxLen; omega) | (simp; omega))) rfl rfl rfl ?_
   refine rw_ev (ev_move rfl) rfl rfl rfl ?_
   refine rw_op (op_wcopy (d := i) (m := 1) (ns := (([c]).map encC)) el_46 (by decide) fr23 ((Bx.slm (A := fun _ => True) (f := encC) (l := [c]) hgu trivial (k := 2) (fun _ => rfl) rfl (Nat.le_of_ble_eq_true rfl))) rfl rfl (by simp only [List.length_map, List.length_drop, List.length_cons, List.length_nil]; omega) (by simp only [List.length_append, List.length_map, List.length_take, List.length_drop, List.length_cons, List.length_nil, List.length_replicate]; omega) (.inr rfl) (one_take plainC ([c]) 1)) rfl rfl rfl ?_
   rintro _ w24 ⟨rfl, k25, fr26⟩
   replace fr26 : Fr w24 b 55 2 ((l.take i ++ [c] ++ l.drop i).map encC ++ ((l.map encC ++ sp).drop (i + 1 + (l.length - i)))) := by
     have h_ := fr26; rw [show ([c].map encC).take 1 = [c].map encC from rfl, over_in (l := l.take (i + 1) ++ l.drop i) (ns := [c]) (d := i) (by simp only [List.length_append, List.length_map, List.length_take, List.length_drop, List.length_cons, List.length_nil, List.length_replicate]; omega), List.take_append_of_le_length (by simp only [List.length_append, List.length_map, List.length_take, List.length_drop, List.length_cons, List.length_nil, List.length_replicate]; omega), List.take_take, Nat.min_eq_left (by omega), show [c].length = 1 from rfl, List.drop_append_of_le_length (by simp only [List.length_append, List.length_map, List.length_take, List.length_drop, List.length_cons, List.length_nil, List.length_replicate]; omega), List.drop_of_length_le (by simp only [List.length_append, List.length_map, List.length_take, List.length_drop, List.length_cons, List.length_nil, List.length_replicate]; omega), List.nil_append] at h_; exact h_
   replace K0 := Kp.trans K0 k25 (fun _ h => h) (fun _ _ h => h)
   replace hgu := hgu.kp k25 hgb
   have zw24 := k25.size
   refine rw_nil ?_
   refine nw_seq ?_
   refine cw_seq ?_
   refine cw_region ?_
   refine rw_ev (ev_move rfl) rfl rfl rfl ?_
   refine rw_ev (ev_assign rfl) rfl rfl rfl ?_
   refine rw_nil ?_
   refine nw_seq ?_
   refine cw_ret ?_
   refine ret_post (rs := [.tmp 6]) (vs := [.slice (some ⟨b, 0, none⟩) (l.length + 1) (l.length + sp.length)]) rfl (.tmp rfl .nil) ?_
   refine ⟨(.slice (some ⟨b, 0, none⟩) (l.length + 1) (l.length + sp.length)), ?_, K0, ?_⟩
   · show (.slice (some ⟨b, 0, none⟩) (l.length + 1) (l.length + sp.length) : Value) = _
     rfl
   · exact (Fr.owt fr26 (Nat.le_refl _) (n := (l.length + 1)) (cap := (l.length + sp.length)) (by simp only [List.length_append, List.length_map, List.length_take, List.length_drop, List.length_cons, List.length_nil, List.length_replicate]; omega) (by simp only [List.length_append, List.length_map, List.length_take, List.length_drop, List.length_cons, List.length_nil, List.length_replicate]; omega) (by first | assumption | (unfold maxLen; omega)))

end Go.Proofs.Ythpaadmpgdglnaa
