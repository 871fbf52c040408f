/- What generations one by one are by the document. Each theorem names its conditions. -/
import Derived.Test.YthpaadmpgdglnaaF6
import Derived.Test.YthpaadmpgdglnaaN4
namespace Go.Proofs.Ythpaadmpgdglnaa
open Go Go.RowKit
set_option linter.unusedVariables false
set_option linter.unusedSimpArgs false
set_option maxRecDepth 100000
set_option maxHeartbeats 4000000

theorem c_run2 (w : World) (v : Value) (l : List Cell) (hv : Sl w (fun b => b < w.heap.size) v 2 (l.map encC)) (n : Int) : Fn Try.prog 38 [v, .int .i64 n] w (fun v w' => ∃ u : Value, v = .tuple #[u, .int .i64 ((runC l n).2)] ∧ Ex w w' ∧ Sl w' (fun b => w.heap.size ≤ b ∧ b < w'.heap.size) u 2 (((runC l n).1).map encC)) := by
  have K0 : Ex w w := Kp.refl _ _
  refine fn_enter (n := 38) Try.func38 rfl rfl (Nat.le_of_ble_eq_true rfl) ?_
  show CW _ _ _ _ _ _ [(0, v), (1, .int .i64 n)] _
  have hlv_ := hv.lenm
  refine cw_seq ?_
  refine cw_region ?_
  refine rw_ev (ev_assign rfl) rfl rfl rfl ?_
  refine rw_ev (ev_assign rfl) rfl rfl rfl ?_
  refine rw_nil ?_
  refine nw_seq ?_
  refine cw_seq ?_
  refine cw_seq ?_
  refine cw_region ?_
  refine rw_ev (ev_move rfl) rfl rfl rfl ?_
  refine rw_op (op_fn (xs := [.tmp 10]) ent_54 rfl (c_right w v l (Sl.below hv))) rfl rfl rfl ?_
  rintro _ w1 ⟨rfl, k2⟩
  replace K0 := Ex.trans K0 k2
  replace hv := hv.ex k2
  have zw1 := k2.size
  refine rw_ev (ev_not rfl rfl) rfl rfl rfl ?_
  refine rw_ev (ev_move rfl) rfl rfl rfl ?_
  rcases Bool.eq_false_or_eq_true (rightC l) with h3 | h3
  ·
   refine rw_ev (ev_move rfl) (gd_ff rfl (not_f h3)) rfl rfl ?_
   refine rw_ev (ev_lss rfl rfl) (gd_ff rfl (not_f h3)) rfl rfl ?_
   refine rw_ev (ev_pk_f rfl (not_f h3) rfl) rfl rfl rfl ?_
   refine rw_ev (ev_move rfl) rfl rfl rfl ?_
   by_cases h4 : n < 0
   ·
    refine rw_skip (gd_ft rfl (dec_t h4)) rfl rfl ?_
    refine rw_skip (gd_ft rfl (dec_t h4)) rfl rfl ?_
    refine rw_ev (ev_pk_t rfl (dec_t h4) rfl) rfl rfl rfl ?_
    refine rw_nil ?_
    refine nw_seq ?_
    refine cw_t (b := true) rfl rfl ?_
    refine cw_seq ?_
    refine cw_region ?_
    refine rw_ev (ev_assign rfl) rfl rfl rfl ?_
    refine rw_ev (ev_assign rfl) rfl rfl rfl ?_
    refine rw_nil ?_
    refine nw_seq ?_
    refine cw_ret ?_
    refine ret_post (rs := [.tmp 4, .tmp 5]) (vs := [.slice none 0 0, .int .i64 1]) rfl (.tmp rfl (.tmp rfl .nil)) ?_
    have hk_ : runC l n = ([], 1) := by
      unfold runC; rw [if_neg]; rintro ⟨h1, h2, h3⟩; first | omega | simp_all
    refine ⟨(.slice none 0 0), ?_, K0, ?_⟩
    · show (.tuple #[.slice none 0 0, .int .i64 1] : Value) = _
      rw [hk_]
    · have hl_ : ([] : List Cell) = (runC l n).1 := by rw [hk_]
      rw [← hl_]; exact (Sl.nil _ _ 2)
   ·
    refine rw_ev (ev_move rfl) (gd_ff rfl (dec_f h4)) rfl rfl ?_
    refine rw_ev (ev_gtr rfl rfl) (gd_ff rfl (dec_f h4)) rfl rfl ?_
    refine rw_ev (ev_pk_f rfl (dec_f h4) rfl) rfl rfl rfl ?_
    refine rw_nil ?_
    refine nw_seq ?_
    by_cases h5 : (1000 : Int) < n
    ·
     refine cw_t (b := decide ((1000 : Int) < n)) rfl (dec_t h5) ?_
     refine cw_seq ?_
     refine cw_region ?_
     refine rw_ev (ev_assign rfl) rfl rfl rfl ?_
     refine rw_ev (ev_assign rfl) rfl rfl rfl ?_
     refine rw_nil ?_
     refine nw_seq ?_
     refine cw_ret ?_
     refine ret_post (rs := [.tmp 4, .tmp 5]) (vs := [.slice none 0 0, .int .i64 1]) rfl (.tmp rfl (.tmp rfl .nil)) ?_
     have hk_ : runC l n = ([], 1) := by
       unfold runC; rw [if_neg]; rintro ⟨h1, h2, h3⟩; first | omega | simp_all
     refine ⟨(.slice none 0 0), ?_, K0, ?_⟩
     · show (.tuple #[.slice none 0 0, .int .i64 1] : Value) = _
       rw [hk_]
     · have hl_ : ([] : List Cell) = (runC l n).1 := by rw [hk_]
       rw [← hl_]; exact (Sl.nil _ _ 2)
    ·
     refine cw_f (b := decide ((1000 : Int) < n)) rfl (dec_f h5) ?_
     refine cw_skip ?_
     refine nw_seq ?_
     refine cw_seq ?_
     refine cw_region ?_
     refine rw_ev (ev_move rfl) rfl rfl rfl ?_
     refine rw_op (op_appn (f := encC) (l := []) (r := l) (B := w1.heap.size) row_46 plainC (Ow.nil _ w1.heap.size 55 2) hv rfl rfl (by unfold maxLen; have hy := right_len (by assumption : rightC l = true); simp only [List.length_nil]; omega) (by have hy := right_len (by assumption : rightC l = true); simp only [List.length_nil]; omega) (Nat.le_refl _)) rfl rfl rfl ?_
     rintro v6 w7 ⟨k8, ow9⟩
     replace k8 : Ex w1 w7 := Kp.mono k8 (fun _ _ h => by simp [Value.ownBlock] at h)
     replace K0 := Ex.trans K0 k8
     replace hv := hv.ex k8
     have zw7 := k8.size
     refine rw_ev (ev_assign rfl) rfl rfl rfl ?_
     refine rw_nil ?_
     refine nw_seq ?_
     refine cw_seq ?_
     refine cw_seq ?_
     refine cw_region ?_
     refine rw_ev (ev_assign rfl) rfl rfl rfl ?_
     refine rw_nil ?_
     refine nw_seq ?_
     refine cw_block ?_
     refine cw_loop (σ := Nat × Value) (fun s_ => match s_ with | (i, x) => [(1, .int .i64 n), (4, .slice none 0 0), (5, .int .i64 0), (6, x), (7, .int .i64 (i : Int))]) (fun s_ wr => match s_ with | (i, x) => Ex w wr ∧ w7.heap.size ≤ wr.heap.size ∧ Sl wr (fun b => b < w.heap.size) v 2 (l.map encC) ∧ Ow wr w1.heap.size 55 v6 2 (([] ++ l).map encC) ∧ Sl wr (fun b => w.heap.size ≤ b) x 2 (((runN l i).1).map encC) ∧ (runN l i).2 = 0 ∧ (i : Int) ≤ n) (fun s_ => match s_ with | (i, x) => n.toNat - i) (0, v6) (Sub.cons rfl (Sub.cons rfl (Sub.cons rfl (Sub.cons rfl (Sub.int (b := (0 : Int)) rfl (by omega) Sub.nil))))) ⟨K0, (Nat.le_refl _), hv, ow9, (by have hq := (Sl.mono ow9.sl (fun _ _ hb => Nat.le_trans zw1 hb.1)); first | exact hq | (rw [runN_succ (by assumption)]; exact hq)), (by first | omega | rfl), (by first | omega | rfl)⟩ ?_
     rintro ⟨i, x⟩ w10 ⟨K0, z11, f12, f13, f14, pr15, pr16⟩
     show CW _ _ _ _ _ _ [(1, .int .i64 n), (4, .slice none 0 0), (5, .int .i64 0), (6, x), (7, .int .i64 (i : Int))] _
     refine cw_seq ?_
     refine cw_seq ?_
     refine cw_region ?_
     refine rw_ev (ev_move rfl) rfl rfl rfl ?_
     refine rw_ev (ev_move rfl) rfl rfl rfl ?_
     refine rw_ev (ev_lss rfl rfl) rfl rfl rfl ?_
     refine rw_nil ?_
     refine nw_seq ?_
     by_cases h17 : (i : Int) < n
     ·
      refine cw_t (b := decide ((i : Int) < n)) rfl (dec_t h17) ?_
      refine cw_skip ?_
      refine nw_seq ?_
      refine cw_seq ?_
      refine cw_block ?_
      refine cw_seq ?_
      refine cw_region ?_
      refine rw_ev (ev_move rfl) rfl rfl rfl ?_
      refine rw_op (op_fn (xs := [.tmp 29]) ent_48 rfl (c_next2 w10 x ((runN l i).1) (Sl.below f14))) rfl rfl rfl ?_
      rintro _ w19 ⟨u18, rfl, k20, sl21⟩
      replace K0 := Ex.trans K0 k20
      replace f12 := f12.ex k20
      replace f13 := f13.ex k20
      replace f14 := f14.ex k20
      have zw19 := k20.size
      refine rw_ev (ev_move rfl) rfl rfl rfl ?_
      refine rw_ev (ev_extract rfl rfl) rfl rfl rfl ?_
      refine rw_ev (ev_extract rfl rfl) rfl rfl rfl ?_
      refine rw_ev (ev_assign rfl) rfl rfl rfl ?_
      refine rw_ev (ev_assign rfl) rfl rfl rfl ?_
      refine rw_nil ?_
      refine nw_seq ?_
      refine cw_seq ?_
      refine cw_seq ?_
      refine cw_region ?_
      refine rw_ev (ev_move rfl) rfl rfl rfl ?_
      refine rw_ev (ev_ne rfl rfl) rfl rfl rfl ?_
      refine rw_nil ?_
      refine nw_seq ?_
      by_cases h22 : ((nextC ((runN l i).1)).2) ≠ 0
      ·
       refine cw_t (b := decide (((nextC ((runN l i).1)).2) ≠ 0)) rfl (dec_t h22) ?_
       refine cw_seq ?_
       refine cw_region ?_
       refine rw_ev (ev_move rfl) rfl rfl rfl ?_
       refine rw_ev (ev_assign rfl) rfl rfl rfl ?_
       refine rw_ev (ev_assign rfl) rfl rfl rfl ?_
       refine rw_nil ?_
       refine nw_seq ?_
       refine cw_ret ?_
       refine ret_post (rs := [.tmp 4, .tmp 5]) (vs := [.slice none 0 0, .int .i64 ((nextC ((runN l i).1)).2)]) rfl (.tmp rfl (.tmp rfl .nil)) ?_
       have hr : rightC l = true := by assumption
       have hk_ : runC l n = ([], (nextC (runN l i).1).2) := by
         unfold runC; rw [if_pos ⟨hr, by omega, by omega⟩]; exact runN_err (by assumption) (by assumption) _ (by omega)
       refine ⟨(.slice none 0 0), ?_, K0, ?_⟩
       · show (.tuple #[.slice none 0 0, .int .i64 ((nextC ((runN l i).1)).2)] : Value) = _
         rw [hk_]
       · have hl_ : ([] : List Cell) = (runC l n).1 := by rw [hk_]
         rw [← hl_]; exact (Sl.nil _ _ 2)
      ·
       refine cw_f (b := decide (((nextC ((runN l i).1)).2) ≠ 0)) rfl (dec_f h22) ?_
       refine cw_skip ?_
       refine nw_seq ?_
       refine cw_region ?_
       refine rw_ev (ev_move rfl) rfl rfl rfl ?_
       refine rw_ev (ev_assign rfl) rfl rfl rfl ?_
       refine rw_nil ?_
       refine nw_block ?_
       refine nw_seq ?_
       refine cw_region ?_
       refine rw_ev (ev_move rfl) rfl rfl rfl ?_
       refine rw_ev (ev_add rfl rfl (by omega)) rfl rfl rfl ?_
       refine rw_ev (ev_assign rfl) rfl rfl rfl ?_
       refine rw_nil ?_
       exact nw_round ((i + 1), u18) (Sub.cons rfl (Sub.cons rfl (Sub.cons rfl (Sub.cons rfl (Sub.int (b := ((i + 1) : Int)) rfl (by omega) Sub.nil))))) ⟨K0, (Nat.le_trans z11 zw19), f12, f13, (by have hq := (Sl.mono sl21 (fun _ _ hb => Nat.le_trans (Nat.le_trans zw1 (Nat.le_trans zw7 z11)) hb.1)); first | exact hq | (rw [runN_succ (by assumption)]; exact hq)), (by first | omega | (rw [runN_succ (by assumption)]; omega)), (by first | omega | (rw [runN_succ (by assumption)]; omega))⟩ (by first | omega | (dsimp only; omega))
     ·
      refine cw_f (b := decide ((i : Int) < n)) rfl (dec_f h17) ?_
      refine cw_exit ?_
      refine xw_seq ?_
      refine xw_goal ?_
      refine xw_hit ?_
      refine nw_seq ?_
      refine cw_seq ?_
      refine cw_region ?_
      refine rw_ev (ev_move rfl) rfl rfl rfl ?_
      refine rw_ev (ev_assign rfl) rfl rfl rfl ?_
      refine rw_ev (ev_assign rfl) rfl rfl rfl ?_
      refine rw_nil ?_
      refine nw_seq ?_
      refine cw_ret ?_
      refine ret_post (rs := [.tmp 4, .tmp 5]) (vs := [x, .int .i64 0]) rfl (.tmp rfl (.tmp rfl .nil)) ?_
      have hr : rightC l = true := by assumption
      have hk_ : runC l n = ((runN l i).1, 0) := by
        have hi : n.toNat = i := by omega
        unfold runC; rw [if_pos ⟨hr, by omega, by omega⟩, hi]; exact Prod.ext rfl (by assumption)
      refine ⟨x, ?_, K0, ?_⟩
      · show (.tuple #[x, .int .i64 0] : Value) = _
        rw [hk_]
      · have hl_ : (runN l i).1 = (runC l n).1 := by rw [hk_]
        rw [← hl_]; exact (Sl.since f14 (fun _ hb => Nat.le_trans (Nat.le_refl _) hb))
  ·
   refine rw_skip (gd_ft rfl (not_t h3)) rfl rfl ?_
   refine rw_skip (gd_ft rfl (not_t h3)) rfl rfl ?_
   refine rw_ev (ev_pk_t rfl (not_t h3) rfl) rfl rfl rfl ?_
   refine rw_ev (ev_move rfl) rfl rfl rfl ?_
   refine rw_skip rfl rfl rfl ?_
   refine rw_skip rfl rfl rfl ?_
   refine rw_ev (ev_pk_t rfl rfl rfl) rfl rfl rfl ?_
   refine rw_nil ?_
   refine nw_seq ?_
   refine cw_t (b := true) rfl rfl ?_
   refine cw_seq ?_
   refine cw_region ?_
   refine rw_ev (ev_assign rfl) rfl rfl rfl ?_
   refine rw_ev (ev_assign rfl) rfl rfl rfl ?_
   refine rw_nil ?_
   refine nw_seq ?_
   refine cw_ret ?_
   refine ret_post (rs := [.tmp 4, .tmp 5]) (vs := [.slice none 0 0, .int .i64 1]) rfl (.tmp rfl (.tmp rfl .nil)) ?_
   have hk_ : runC l n = ([], 1) := by
     unfold runC; rw [if_neg]; rintro ⟨h1, h2, h3⟩; first | omega | simp_all
   refine ⟨(.slice none 0 0), ?_, K0, ?_⟩
   · show (.tuple #[.slice none 0 0, .int .i64 1] : Value) = _
     rw [hk_]
   · have hl_ : ([] : List Cell) = (runC l n).1 := by rw [hk_]
     rw [← hl_]; exact (Sl.nil _ _ 2)

end Go.Proofs.Ythpaadmpgdglnaa
