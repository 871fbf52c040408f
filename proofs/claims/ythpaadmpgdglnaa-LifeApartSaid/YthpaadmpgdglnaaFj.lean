/- What life.Run computes. Each theorem names its conditions. -/
import Derived.Test.YthpaadmpgdglnaaFi
namespace Go.Proofs.Ythpaadmpgdglnaa
open Go Go.RowKit
set_option linter.unusedVariables false
set_option linter.unusedSimpArgs false
set_option maxRecDepth 100000
set_option maxHeartbeats 4000000

theorem c_run (w : World) (v : Value) (l : List Cell) (hv : Sl w (fun b => b < w.heap.size) v 2 (l.map encC)) (n : Int) : Fn Try.prog 49 [v, .int .i64 n] w (fun v w' => ∃ u : Value, v = .tuple #[u, .int .i64 ((runC l n).2)] ∧ Ex w w' ∧ Sl w' (fun b => w.heap.size ≤ b ∧ b < w'.heap.size) u 2 (((runC l n).1).map encC)) := by
  have K0 : Ex w w := Kp.refl _ _
  refine fn_enter (n := 33) Try.func49 rfl rfl (Nat.le_of_ble_eq_true rfl) ?_
  show CW _ _ _ _ _ _ [(0, v), (1, .int .i64 n)] _
  have hlv_ := hv.lenm
  refine cw_seq ?_
  refine cw_region ?_
  refine rw_ev (ev_assign rfl) rfl rfl rfl ?_
  refine rw_ev (ev_assign rfl) rfl rfl rfl ?_
  refine rw_nil ?_
  refine nw_seq ?_
  refine cw_seq ?_
  refine cw_seq ?_
  refine cw_region ?_
  refine rw_ev (ev_move rfl) rfl rfl rfl ?_
  refine rw_op (op_fn (xs := [.tmp 7]) ent_58 rfl (c_cright w v l (Sl.below hv))) rfl rfl rfl ?_
  rintro _ w1 ⟨rfl, k2⟩
  replace K0 := Ex.trans K0 k2
  replace hv := hv.ex k2
  have zw1 := k2.size
  refine rw_ev (ev_not rfl rfl) rfl rfl rfl ?_
  refine rw_ev (ev_move rfl) rfl rfl rfl ?_
  rcases Bool.eq_false_or_eq_true (rightC l) with h3 | h3
  ·
   refine rw_ev (ev_move rfl) (gd_ff rfl (not_f h3)) rfl rfl ?_
   refine rw_ev (ev_lss rfl rfl) (gd_ff rfl (not_f h3)) rfl rfl ?_
   refine rw_ev (ev_pk_f rfl (not_f h3) rfl) rfl rfl rfl ?_
   refine rw_ev (ev_move rfl) rfl rfl rfl ?_
   by_cases h4 : n < 0
   ·
    refine rw_skip (gd_ft rfl (dec_t h4)) rfl rfl ?_
    refine rw_skip (gd_ft rfl (dec_t h4)) rfl rfl ?_
    refine rw_ev (ev_pk_t rfl (dec_t h4) rfl) rfl rfl rfl ?_
    refine rw_nil ?_
    refine nw_seq ?_
    refine cw_t (b := true) rfl rfl ?_
    refine cw_seq ?_
    refine cw_region ?_
    refine rw_ev (ev_assign rfl) rfl rfl rfl ?_
    refine rw_ev (ev_assign rfl) rfl rfl rfl ?_
    refine rw_nil ?_
    refine nw_seq ?_
    refine cw_ret ?_
    refine ret_post (rs := [.tmp 4, .tmp 5]) (vs := [.slice none 0 0, .int .i64 1]) rfl (.tmp rfl (.tmp rfl .nil)) ?_
    have hk_ : runC l n = ([], 1) := by
      unfold runC; rw [if_neg]; rintro ⟨h1, h2, h3⟩; first | omega | simp_all
    refine ⟨(.slice none 0 0), ?_, K0, ?_⟩
    · show (.tuple #[.slice none 0 0, .int .i64 1] : Value) = _
      rw [hk_]
    · have hl_ : ([] : List Cell) = (runC l n).1 := by rw [hk_]
      rw [← hl_]; exact (Sl.nil _ _ 2)
   ·
    refine rw_ev (ev_move rfl) (gd_ff rfl (dec_f h4)) rfl rfl ?_
    refine rw_ev (ev_gtr rfl rfl) (gd_ff rfl (dec_f h4)) rfl rfl ?_
    refine rw_ev (ev_pk_f rfl (dec_f h4) rfl) rfl rfl rfl ?_
    refine rw_nil ?_
    refine nw_seq ?_
    by_cases h5 : (1000 : Int) < n
    ·
     refine cw_t (b := decide ((1000 : Int) < n)) rfl (dec_t h5) ?_
     refine cw_seq ?_
     refine cw_region ?_
     refine rw_ev (ev_assign rfl) rfl rfl rfl ?_
     refine rw_ev (ev_assign rfl) rfl rfl rfl ?_
     refine rw_nil ?_
     refine nw_seq ?_
     refine cw_ret ?_
     refine ret_post (rs := [.tmp 4, .tmp 5]) (vs := [.slice none 0 0, .int .i64 1]) rfl (.tmp rfl (.tmp rfl .nil)) ?_
     have hk_ : runC l n = ([], 1) := by
       unfold runC; rw [if_neg]; rintro ⟨h1, h2, h3⟩; first | omega | simp_all
     refine ⟨(.slice none 0 0), ?_, K0, ?_⟩
     · show (.tuple #[.slice none 0 0, .int .i64 1] : Value) = _
       rw [hk_]
     · have hl_ : ([] : List Cell) = (runC l n).1 := by rw [hk_]
       rw [← hl_]; exact (Sl.nil _ _ 2)
    ·
     refine cw_f (b := decide ((1000 : Int) < n)) rfl (dec_f h5) ?_
     refine cw_skip ?_
     refine nw_seq ?_
     refine cw_seq ?_
     refine cw_region ?_
     refine rw_ev (ev_move rfl) rfl rfl rfl ?_
     refine rw_op (op_fn (xs := [.tmp 18]) ent_96 rfl (c_clone w1 v l (Sl.below hv) (by have hy := right_len (by assumption : rightC l = true); omega))) rfl rfl rfl ?_
     rintro u6 w7 ⟨_, rfl, k8, ow9⟩
     replace K0 := Ex.trans K0 k8
     replace hv := hv.ex k8
     have zw7 := k8.size
     refine rw_ev (ev_assign rfl) rfl rfl rfl ?_
     refine rw_nil ?_
     refine nw_seq ?_
     refine cw_seq ?_
     refine cw_seq ?_
     refine cw_region ?_
     refine rw_ev (ev_move rfl) rfl rfl rfl ?_
     refine rw_ev (ev_move rfl) rfl rfl rfl ?_
     refine rw_nil ?_
     refine nw_seq ?_
     refine cw_block ?_
     refine cw_loop (σ := Nat × Value) (fun s_ => match s_ with | (i, x) => [(0, x), (4, .slice none 0 0), (5, .int .i64 0), (20, .int .i64 n), (21, .int .i64 (i : Int))]) (fun s_ wr => match s_ with | (i, x) => Ex w wr ∧ w7.heap.size ≤ wr.heap.size ∧ Sl wr (fun b => w.heap.size ≤ b) x 2 (((runN l i).1).map encC) ∧ (runN l i).2 = 0 ∧ (i : Int) ≤ n) (fun s_ => match s_ with | (i, x) => n.toNat - i) (0, u6) (Sub.cons rfl (Sub.cons rfl (Sub.cons rfl (Sub.cons rfl (Sub.int (b := (0 : Int)) rfl (by omega) Sub.nil))))) ⟨K0, (Nat.le_refl _), (by have hq := (Sl.mono ow9.sl (fun _ _ hb => Nat.le_trans zw1 hb.1)); first | exact hq | (rw [runN_succ (by assumption)]; exact hq)), (by first | omega | rfl), (by first | omega | rfl)⟩ ?_
     rintro ⟨i, x⟩ w10 ⟨K0, z11, f12, pr13, pr14⟩
     show CW _ _ _ _ _ _ [(0, x), (4, .slice none 0 0), (5, .int .i64 0), (20, .int .i64 n), (21, .int .i64 (i : Int))] _
     refine cw_seq ?_
     refine cw_region ?_
     refine rw_ev (ev_lss rfl rfl) rfl rfl rfl ?_
     refine rw_nil ?_
     refine nw_seq ?_
     refine cw_seq ?_
     by_cases h15 : (i : Int) < n
     ·
      refine cw_t (b := decide ((i : Int) < n)) rfl (dec_t h15) ?_
      refine cw_skip ?_
      refine nw_seq ?_
      refine cw_seq ?_
      refine cw_block ?_
      refine cw_seq ?_
      refine cw_region ?_
      refine rw_ev (ev_assign rfl) rfl rfl rfl ?_
      refine rw_nil ?_
      refine nw_seq ?_
      refine cw_seq ?_
      refine cw_region ?_
      refine rw_ev (ev_move rfl) rfl rfl rfl ?_
      refine rw_op (op_fn (xs := [.tmp 24]) ent_47 rfl (c_next w10 x ((runN l i).1) (Sl.below f12))) rfl rfl rfl ?_
      rintro _ w17 ⟨u16, rfl, k18, sl19⟩
      replace K0 := Ex.trans K0 k18
      replace f12 := f12.ex k18
      have zw17 := k18.size
      refine rw_ev (ev_move rfl) rfl rfl rfl ?_
      refine rw_ev (ev_extract rfl rfl) rfl rfl rfl ?_
      refine rw_ev (ev_extract rfl rfl) rfl rfl rfl ?_
      refine rw_ev (ev_assign rfl) rfl rfl rfl ?_
      refine rw_ev (ev_assign rfl) rfl rfl rfl ?_
      refine rw_nil ?_
      refine nw_seq ?_
      refine cw_seq ?_
      refine cw_region ?_
      refine rw_ev (ev_move rfl) rfl rfl rfl ?_
      refine rw_ev (ev_ne rfl rfl) rfl rfl rfl ?_
      refine rw_nil ?_
      refine nw_seq ?_
      by_cases h20 : ((nextC ((runN l i).1)).2) ≠ 0
      ·
       refine cw_t (b := decide (((nextC ((runN l i).1)).2) ≠ 0)) rfl (dec_t h20) ?_
       refine cw_seq ?_
       refine cw_region ?_
       refine rw_ev (ev_move rfl) rfl rfl rfl ?_
       refine rw_ev (ev_assign rfl) rfl rfl rfl ?_
       refine rw_ev (ev_assign rfl) rfl rfl rfl ?_
       refine rw_nil ?_
       refine nw_seq ?_
       refine cw_ret ?_
       refine ret_post (rs := [.tmp 4, .tmp 5]) (vs := [.slice none 0 0, .int .i64 ((nextC ((runN l i).1)).2)]) rfl (.tmp rfl (.tmp rfl .nil)) ?_
       have hr : rightC l = true := by assumption
       have hk_ : runC l n = ([], (nextC (runN l i).1).2) := by
         unfold runC; rw [if_pos ⟨hr, by omega, by omega⟩]; exact runN_err (by assumption) (by assumption) _ (by omega)
       refine ⟨(.slice none 0 0), ?_, K0, ?_⟩
       · show (.tuple #[.slice none 0 0, .int .i64 ((nextC ((runN l i).1)).2)] : Value) = _
         rw [hk_]
       · have hl_ : ([] : List Cell) = (runC l n).1 := by rw [hk_]
         rw [← hl_]; exact (Sl.nil _ _ 2)
      ·
       refine cw_f (b := decide (((nextC ((runN l i).1)).2) ≠ 0)) rfl (dec_f h20) ?_
       refine cw_skip ?_
       refine nw_block ?_
       refine nw_seq ?_
       refine cw_region ?_
       refine rw_ev (ev_add rfl rfl (by omega)) rfl rfl rfl ?_
       refine rw_ev (ev_move rfl) rfl rfl rfl ?_
       refine rw_nil ?_
       exact nw_round ((i + 1), u16) (Sub.cons rfl (Sub.cons rfl (Sub.cons rfl (Sub.cons rfl (Sub.int (b := ((i + 1) : Int)) rfl (by omega) Sub.nil))))) ⟨K0, (Nat.le_trans z11 zw17), (by have hq := (Sl.mono sl19 (fun _ _ hb => Nat.le_trans (Nat.le_trans zw1 (Nat.le_trans zw7 z11)) hb.1)); first | exact hq | (rw [runN_succ (by assumption)]; exact hq)), (by first | omega | (rw [runN_succ (by assumption)]; omega)), (by first | omega | (rw [runN_succ (by assumption)]; omega))⟩ (by first | omega | (dsimp only; omega))
     ·
      refine cw_f (b := decide ((i : Int) < n)) rfl (dec_f h15) ?_
      refine cw_exit ?_
      refine xw_seq ?_
      refine xw_goal ?_
      refine xw_hit ?_
      refine nw_seq ?_
      refine cw_seq ?_
      refine cw_region ?_
      refine rw_ev (ev_move rfl) rfl rfl rfl ?_
      refine rw_ev (ev_assign rfl) rfl rfl rfl ?_
      refine rw_ev (ev_assign rfl) rfl rfl rfl ?_
      refine rw_nil ?_
      refine nw_seq ?_
      refine cw_ret ?_
      refine ret_post (rs := [.tmp 4, .tmp 5]) (vs := [x, .int .i64 0]) rfl (.tmp rfl (.tmp rfl .nil)) ?_
      have hr : rightC l = true := by assumption
      have hk_ : runC l n = ((runN l i).1, 0) := by
        have hi : n.toNat = i := by omega
        unfold runC; rw [if_pos ⟨hr, by omega, by omega⟩, hi]; exact Prod.ext rfl (by assumption)
      refine ⟨x, ?_, K0, ?_⟩
      · show (.tuple #[x, .int .i64 0] : Value) = _
        rw [hk_]
      · have hl_ : (runN l i).1 = (runC l n).1 := by rw [hk_]
        rw [← hl_]; exact (Sl.since f12 (fun _ hb => Nat.le_trans (Nat.le_refl _) hb))
  ·
   refine rw_skip (gd_ft rfl (not_t h3)) rfl rfl ?_
   refine rw_skip (gd_ft rfl (not_t h3)) rfl rfl ?_
   refine rw_ev (ev_pk_t rfl (not_t h3) rfl) rfl rfl rfl ?_
   refine rw_ev (ev_move rfl) rfl rfl rfl ?_
   refine rw_skip rfl rfl rfl ?_
   refine rw_skip rfl rfl rfl ?_
   refine rw_ev (ev_pk_t rfl rfl rfl) rfl rfl rfl ?_
   refine rw_nil ?_
   refine nw_seq ?_
   refine cw_t (b := true) rfl rfl ?_
   refine cw_seq ?_
   refine cw_region ?_
   refine rw_ev (ev_assign rfl) rfl rfl rfl ?_
   refine rw_ev (ev_assign rfl) rfl rfl rfl ?_
   refine rw_nil ?_
   refine nw_seq ?_
   refine cw_ret ?_
   refine ret_post (rs := [.tmp 4, .tmp 5]) (vs := [.slice none 0 0, .int .i64 1]) rfl (.tmp rfl (.tmp rfl .nil)) ?_
   have hk_ : runC l n = ([], 1) := by
     unfold runC; rw [if_neg]; rintro ⟨h1, h2, h3⟩; first | omega | simp_all
   refine ⟨(.slice none 0 0), ?_, K0, ?_⟩
   · show (.tuple #[.slice none 0 0, .int .i64 1] : Value) = _
     rw [hk_]
   · have hl_ : ([] : List Cell) = (runC l n).1 := by rw [hk_]
     rw [← hl_]; exact (Sl.nil _ _ 2)

end Go.Proofs.Ythpaadmpgdglnaa
