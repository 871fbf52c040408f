/- What functions of the program and of the library on sets compute. Each theorem names its conditions. -/
import Derived.Test.YthpaadmpgdglnaaF2
import Derived.Test.YthpaadmpgdglnaaD3
namespace Go.Proofs.Ythpaadmpgdglnaa
open Go Go.RowKit
set_option linter.unusedVariables false
set_option linter.unusedSimpArgs false
set_option maxRecDepth 100000
set_option maxHeartbeats 4000000

theorem c_nan (w : World) (x : Int) : Fn Try.prog 176 [.int .i64 x] w (fun v w' =>  v = .bool false ∧ Ex w w') := by
  have K0 : Ex w w := Kp.refl _ _
  refine fn_enter (n := 6) Try.func176 rfl rfl (Nat.le_of_ble_eq_true rfl) ?_
  show CW _ _ _ _ _ _ [(0, .int .i64 x)] _
  refine cw_seq ?_
  refine cw_region ?_
  refine rw_ev (ev_assign rfl) rfl rfl rfl ?_
  refine rw_nil ?_
  refine nw_seq ?_
  refine cw_seq ?_
  refine cw_region ?_
  refine rw_ev (ev_move rfl) rfl rfl rfl ?_
  refine rw_ev (ev_move rfl) rfl rfl rfl ?_
  refine rw_ev (ev_ne rfl rfl) rfl rfl rfl ?_
  refine rw_ev (ev_assign rfl) rfl rfl rfl ?_
  refine rw_nil ?_
  refine nw_seq ?_
  refine cw_ret ?_
  refine ret_post (rs := [.tmp 2]) (vs := [.bool (decide (x ≠ x))]) rfl (.tmp rfl .nil) ?_
  refine ⟨?_, K0⟩
  · show (.bool (decide (x ≠ x)) : Value) = _
    simp

theorem c_cmp (w : World) (x : Int) (y : Int) : Fn Try.prog 146 [.int .i64 x, .int .i64 y] w (fun v w' =>  v = .int .i64 (cmpI x y) ∧ Ex w w') := by
  have K0 : Ex w w := Kp.refl _ _
  refine fn_enter (n := 20) Try.func146 rfl rfl (Nat.le_of_ble_eq_true rfl) ?_
  show CW _ _ _ _ _ _ [(0, .int .i64 x), (1, .int .i64 y)] _
  refine cw_seq ?_
  refine cw_region ?_
  refine rw_ev (ev_assign rfl) rfl rfl rfl ?_
  refine rw_nil ?_
  refine nw_seq ?_
  refine cw_seq ?_
  refine cw_region ?_
  refine rw_ev (ev_move rfl) rfl rfl rfl ?_
  refine rw_op (op_fn (xs := [.tmp 7]) ent_176 rfl (c_nan w x)) rfl rfl rfl ?_
  rintro _ w1 ⟨rfl, k2⟩
  replace K0 := Ex.trans K0 k2
  have zw1 := k2.size
  refine rw_ev (ev_assign rfl) rfl rfl rfl ?_
  refine rw_nil ?_
  refine nw_seq ?_
  refine cw_seq ?_
  refine cw_region ?_
  refine rw_ev (ev_move rfl) rfl rfl rfl ?_
  refine rw_op (op_fn (xs := [.tmp 9]) ent_176 rfl (c_nan w1 y)) rfl rfl rfl ?_
  rintro _ w3 ⟨rfl, k4⟩
  replace K0 := Ex.trans K0 k4
  have zw3 := k4.size
  refine rw_ev (ev_assign rfl) rfl rfl rfl ?_
  refine rw_nil ?_
  refine nw_seq ?_
  refine cw_seq ?_
  refine cw_seq ?_
  refine cw_region ?_
  refine rw_ev (ev_move rfl) rfl rfl rfl ?_
  refine rw_nil ?_
  refine nw_seq ?_
  refine cw_f (b := false) rfl rfl ?_
  refine cw_skip ?_
  refine nw_seq ?_
  refine cw_seq ?_
  refine cw_seq ?_
  refine cw_region ?_
  refine rw_ev (ev_move rfl) rfl rfl rfl ?_
  refine rw_nil ?_
  refine nw_seq ?_
  refine cw_f (b := false) rfl rfl ?_
  refine cw_skip ?_
  refine nw_seq ?_
  refine cw_seq ?_
  refine cw_seq ?_
  refine cw_region ?_
  refine rw_ev (ev_move rfl) rfl rfl rfl ?_
  refine rw_ev (ev_move rfl) rfl rfl rfl ?_
  refine rw_ev (ev_lss rfl rfl) rfl rfl rfl ?_
  refine rw_nil ?_
  refine nw_seq ?_
  by_cases h5 : x < y
  ·
   refine cw_t (b := decide (x < y)) rfl (dec_t h5) ?_
   refine cw_seq ?_
   refine cw_region ?_
   refine rw_ev (ev_assign rfl) rfl rfl rfl ?_
   refine rw_nil ?_
   refine nw_seq ?_
   refine cw_ret ?_
   refine ret_post (rs := [.tmp 4]) (vs := [.int .i64 (-1)]) rfl (.tmp rfl .nil) ?_
   refine ⟨?_, K0⟩
   · show (.int .i64 (-1) : Value) = _
     simp [cmpI, *]
  ·
   refine cw_f (b := decide (x < y)) rfl (dec_f h5) ?_
   refine cw_skip ?_
   refine nw_seq ?_
   refine cw_seq ?_
   refine cw_seq ?_
   refine cw_region ?_
   refine rw_ev (ev_move rfl) rfl rfl rfl ?_
   refine rw_ev (ev_move rfl) rfl rfl rfl ?_
   refine rw_ev (ev_gtr rfl rfl) rfl rfl rfl ?_
   refine rw_nil ?_
   refine nw_seq ?_
   by_cases h6 : y < x
   ·
    refine cw_t (b := decide (y < x)) rfl (dec_t h6) ?_
    refine cw_seq ?_
    refine cw_region ?_
    refine rw_ev (ev_assign rfl) rfl rfl rfl ?_
    refine rw_nil ?_
    refine nw_seq ?_
    refine cw_ret ?_
    refine ret_post (rs := [.tmp 4]) (vs := [.int .i64 1]) rfl (.tmp rfl .nil) ?_
    refine ⟨?_, K0⟩
    · show (.int .i64 1 : Value) = _
      simp [cmpI, *]
   ·
    refine cw_f (b := decide (y < x)) rfl (dec_f h6) ?_
    refine cw_skip ?_
    refine nw_seq ?_
    refine cw_seq ?_
    refine cw_region ?_
    refine rw_ev (ev_assign rfl) rfl rfl rfl ?_
    refine rw_nil ?_
    refine nw_seq ?_
    refine cw_ret ?_
    refine ret_post (rs := [.tmp 4]) (vs := [.int .i64 0]) rfl (.tmp rfl .nil) ?_
    refine ⟨?_, K0⟩
    · show (.int .i64 0 : Value) = _
      simp [cmpI, *]

theorem c_or (w : World) (v : Value) (l : List Int) (hv : Sl w (fun b => b < w.heap.size) v 1 (l.map encI)) : Fn Try.prog 145 [v] w (fun v w' =>  v = .int .i64 (orI l) ∧ Ex w w') := by
  have K0 : Ex w w := Kp.refl _ _
  refine fn_enter (n := 18) Try.func145 rfl rfl (Nat.le_of_ble_eq_true rfl) ?_
  show CW _ _ _ _ _ _ [(0, v)] _
  have hlv_ := hv.lenm
  refine cw_seq ?_
  refine cw_region ?_
  refine rw_ev (ev_assign rfl) rfl rfl rfl ?_
  refine rw_nil ?_
  refine nw_seq ?_
  refine cw_seq ?_
  refine cw_region ?_
  refine rw_ev (ev_assign rfl) rfl rfl rfl ?_
  refine rw_nil ?_
  refine nw_seq ?_
  refine cw_seq ?_
  refine cw_seq ?_
  refine cw_region ?_
  refine rw_ev (ev_move rfl) rfl rfl rfl ?_
  refine rw_ev (v := .int .i64 (l.length : Int)) (ev_lenm (l := l) ⟨_, hv⟩ rfl el_24 rfl) rfl rfl rfl ?_
  refine rw_ev (ev_move rfl) rfl rfl rfl ?_
  refine rw_nil ?_
  refine nw_seq ?_
  refine cw_block ?_
  refine cw_loop (σ := Nat) (fun i => [(2, .int .i64 0), (3, .int .i64 0), (6, v), (7, .int .i64 (l.length : Int)), (8, .int .i64 (i : Int))]) (fun i wr => Ex w wr ∧ w.heap.size ≤ wr.heap.size ∧ Sl wr (fun b => b < w.heap.size) v 1 (l.map encI) ∧ (l.take i).find? (fun x => decide (x ≠ 0)) = none) (fun i => l.length - i) 0 (Sub.cons rfl (Sub.cons rfl (Sub.cons rfl (Sub.cons rfl (Sub.int (b := (0 : Int)) rfl (by omega) Sub.nil))))) ⟨K0, (Nat.le_refl _), hv, (by rfl)⟩ ?_
  rintro i w1 ⟨K0, z2, f3, pr4⟩
  show CW _ _ _ _ _ _ [(2, .int .i64 0), (3, .int .i64 0), (6, v), (7, .int .i64 (l.length : Int)), (8, .int .i64 (i : Int))] _
  refine cw_seq ?_
  refine cw_region ?_
  refine rw_ev (ev_lss rfl rfl) rfl rfl rfl ?_
  refine rw_nil ?_
  refine nw_seq ?_
  refine cw_seq ?_
  by_cases h5 : (i : Int) < (l.length : Int)
  ·
   refine cw_t (b := decide ((i : Int) < (l.length : Int))) rfl (dec_t h5) ?_
   refine cw_skip ?_
   refine nw_seq ?_
   refine cw_seq ?_
   refine cw_block ?_
   refine cw_seq ?_
   refine cw_region ?_
   obtain ⟨c6, hc7⟩ := get_of (l := l) (i := i) (by omega)
   refine rw_ev (v := elemPtr v i 1 0) (ev_slAt (i := (i : Int)) ⟨_, f3⟩ rfl rfl el_24 (idx_ok (i := (i : Int)) hc7 (by omega))) rfl rfl rfl ?_
   refine rw_ev (v := .int .i64 c6) (ev_elLoad1 (u := .int .i64 c6) (fun _ h => h ▸ f3) ⟨_, rfl⟩ rfl (get_enc hc7) one_3 (by decide) rfl) rfl rfl rfl ?_
   refine rw_ev (ev_assign rfl) rfl rfl rfl ?_
   refine rw_nil ?_
   refine nw_seq ?_
   refine cw_seq ?_
   refine cw_region ?_
   refine rw_ev (ev_move rfl) rfl rfl rfl ?_
   refine rw_ev (ev_move rfl) rfl rfl rfl ?_
   refine rw_ev (ev_ne rfl rfl) rfl rfl rfl ?_
   refine rw_nil ?_
   refine nw_seq ?_
   by_cases h8 : c6 ≠ 0
   ·
    refine cw_t (b := decide (c6 ≠ 0)) rfl (dec_t h8) ?_
    refine cw_seq ?_
    refine cw_region ?_
    refine rw_ev (ev_move rfl) rfl rfl rfl ?_
    refine rw_ev (ev_assign rfl) rfl rfl rfl ?_
    refine rw_nil ?_
    refine nw_seq ?_
    refine cw_ret ?_
    refine ret_post (rs := [.tmp 2]) (vs := [.int .i64 c6]) rfl (.tmp rfl .nil) ?_
    refine ⟨?_, K0⟩
    · show (.int .i64 c6 : Value) = _
      exact congrArg (Value.int .i64) (find_hit (by assumption : l[i]? = some _) (by assumption) (by assumption)).symm
   ·
    refine cw_f (b := decide (c6 ≠ 0)) rfl (dec_f h8) ?_
    refine cw_skip ?_
    refine nw_block ?_
    refine nw_seq ?_
    refine cw_region ?_
    refine rw_ev (ev_add rfl rfl (by omega)) rfl rfl rfl ?_
    refine rw_ev (ev_move rfl) rfl rfl rfl ?_
    refine rw_nil ?_
    exact nw_round (i + 1) (Sub.cons rfl (Sub.cons rfl (Sub.cons rfl (Sub.cons rfl (Sub.int (b := ((i + 1) : Int)) rfl (by omega) Sub.nil))))) ⟨K0, z2, f3, (by exact find_succ (by assumption : l[i]? = some _) (by simp_all) (by assumption))⟩ (by first | omega | (dsimp only; omega))
  ·
   refine cw_f (b := decide ((i : Int) < (l.length : Int))) rfl (dec_f h5) ?_
   refine cw_exit ?_
   refine xw_seq ?_
   refine xw_goal ?_
   refine xw_hit ?_
   refine nw_seq ?_
   refine cw_seq ?_
   refine cw_region ?_
   refine rw_ev (ev_move rfl) rfl rfl rfl ?_
   refine rw_ev (ev_assign rfl) rfl rfl rfl ?_
   refine rw_nil ?_
   refine nw_seq ?_
   refine cw_ret ?_
   refine ret_post (rs := [.tmp 2]) (vs := [.int .i64 0]) rfl (.tmp rfl .nil) ?_
   refine ⟨?_, K0⟩
   · show (.int .i64 0 : Value) = _
     have hq : l.find? (fun x => decide (x ≠ 0)) = none := by rw [← take_all (by assumption : ¬ (i : Int) < l.length)]; assumption
     unfold orI; rw [hq]; rfl

theorem c_order (w : World) (a : Cell) (b : Cell) : Fn Try.prog 103 [.agg #[.int .i64 a.1, .int .i64 a.2], .agg #[.int .i64 b.1, .int .i64 b.2]] w (fun v w' =>  v = .int .i64 (ordC a b) ∧ Ex w w' ∧ ltC a b = decide (ordC a b < 0)) := by
  have K0 : Ex w w := Kp.refl _ _
  refine fn_enter (n := 17) Try.func103 rfl rfl (Nat.le_of_ble_eq_true rfl) ?_
  show CW _ _ _ _ _ _ [(0, .agg #[.int .i64 a.1, .int .i64 a.2]), (1, .agg #[.int .i64 b.1, .int .i64 b.2])] _
  refine cw_seq ?_
  refine cw_region ?_
  refine rw_op (op_box (v := .agg #[.int .i64 a.1, .int .i64 a.2]) (cs := #[.int .i64 a.1, .int .i64 a.2]) rfl rfl) rfl rfl rfl ?_
  rintro _ w2 ⟨g1, rfl, hg3, k4, b5⟩
  replace K0 := Ex.trans K0 k4
  have zw2 := k4.size
  have lg1 := b5.lt
  refine rw_op (op_box (v := .agg #[.int .i64 b.1, .int .i64 b.2]) (cs := #[.int .i64 b.1, .int .i64 b.2]) rfl rfl) rfl rfl rfl ?_
  rintro _ w7 ⟨g6, rfl, hg8, k9, b10⟩
  replace K0 := Ex.trans K0 k9
  replace b5 := b5.ex k9
  have zw7 := k9.size
  have lg6 := b10.lt
  refine rw_ev (ev_assign rfl) rfl rfl rfl ?_
  refine rw_nil ?_
  refine nw_seq ?_
  refine cw_seq ?_
  refine cw_drawn (fun w11 w_ => Ex w11 w_) [] (.take 0 (.take 1 (.take 2 (.take 3 (.take 5 (.take 6 (.take 7 (.take 8 (.one 4 (.one 9 (.one 10 (.one 11 (.take 12 .done))))))))))))) mixed (by kernel_rfl) (by kernel_rfl) (Nat.le_of_ble_eq_true (by kernel_rfl)) ?_; intro w11 k12 hs_
  replace K0 := Ex.trans K0 k12
  replace b5 := b5.ex k12
  replace b10 := b10.ex k12
  have zw11 := k12.size
  have hS : (fun w_ => Ex w11 w_) w11 := Kp.refl _ _
  refine rp_take (v := .pointer (some ⟨g1, 1, none⟩)) hs_ hS rfl rfl (ev_field (o := 1) rfl foff_142_1) rfl rfl rfl ?_
  refine rp_take (v := .int .i64 a.2) hs_ hS rfl rfl (ev_lb1 (off := 1) (fun _ h => b5.ex h) rfl one_3 rfl) rfl rfl rfl ?_
  refine rp_take (v := .pointer (some ⟨g6, 1, none⟩)) hs_ hS rfl rfl (ev_field (o := 1) rfl foff_142_1) rfl rfl rfl ?_
  refine rp_take (v := .int .i64 b.2) hs_ hS rfl rfl (ev_lb1 (off := 1) (fun _ h => b10.ex h) rfl one_3 rfl) rfl rfl rfl ?_
  refine rp_take (v := .pointer (some ⟨g1, 0, none⟩)) hs_ hS rfl rfl (ev_field (o := 0) rfl foff_142_0) rfl rfl rfl ?_
  refine rp_take (v := .int .i64 a.1) hs_ hS rfl rfl (ev_lb1 (off := 0) (fun _ h => b5.ex h) rfl one_3 rfl) rfl rfl rfl ?_
  refine rp_take (v := .pointer (some ⟨g6, 0, none⟩)) hs_ hS rfl rfl (ev_field (o := 0) rfl foff_142_0) rfl rfl rfl ?_
  refine rp_take (v := .int .i64 b.1) hs_ hS rfl rfl (ev_lb1 (off := 0) (fun _ h => b10.ex h) rfl one_3 rfl) rfl rfl rfl ?_
  refine rp_up (up_op rfl (op_fn (xs := [.tmp 6, .tmp 8]) ent_146 rfl (c_cmp w11 a.2 b.2)) rfl rfl rfl ?_)
  rintro _ w13 ⟨rfl, k14⟩
  replace K0 := Ex.trans K0 k14
  replace hS := Ex.trans hS k14
  have zw13 := k14.size
  refine ⟨(fun _ => hS), ?_⟩
  refine rp_up (up_op rfl (op_fn (xs := [.tmp 11, .tmp 13]) ent_146 rfl (c_cmp w13 a.1 b.1)) rfl rfl rfl ?_)
  rintro _ w15 ⟨rfl, k16⟩
  replace K0 := Ex.trans K0 k16
  replace hS := Ex.trans hS k16
  have zw15 := k16.size
  refine ⟨(fun _ => hS), ?_⟩
  refine rp_up (up_op rfl (op_buildSlice (E := 3) (m := 2) (pv := #[(0, .int .i64 (cmpI a.2 b.2)), (1, .int .i64 (cmpI a.1 b.1))]) (cs := #[.int .i64 (cmpI a.2 b.2), .int .i64 (cmpI a.1 b.1)]) rfl (fun _ => by kernel_rfl)) rfl rfl rfl ?_)
  rintro _ w18 ⟨g17, rfl, hg19, k20, b21⟩
  replace K0 := Ex.trans K0 k20
  replace hS := Ex.trans hS k20
  have zw18 := k20.size
  have lg17 := b21.lt
  refine ⟨(fun _ => hS), ?_⟩
  refine rp_up (up_op rfl (op_fn (xs := [.tmp 15]) ent_145 rfl (c_or w18 (.slice (some ⟨g17, 0, none⟩) 2 2) ([cmpI a.2 b.2, cmpI a.1 b.1]) (Sl.below (Bx.slm (A := fun _ => True) (f := encI) (l := [cmpI a.2 b.2, cmpI a.1 b.1]) b21 trivial (k := 1) (fun _ => rfl) rfl (Nat.le_of_ble_eq_true rfl))))) rfl rfl rfl ?_)
  rintro _ w22 ⟨rfl, k23⟩
  replace K0 := Ex.trans K0 k23
  replace hS := Ex.trans hS k23
  replace b21 := b21.ex k23
  have zw22 := k23.size
  refine ⟨(fun _ => hS), ?_⟩
  refine rp_take hs_ hS rfl rfl (ev_assign rfl) rfl rfl rfl ?_
  refine rp_done ?_
  clear hs_
  replace b5 := b5.ex hS
  replace b10 := b10.ex hS
  refine nw_seq ?_
  refine cw_ret ?_
  refine ret_post (rs := [.tmp 4]) (vs := [.int .i64 (orI ([cmpI a.2 b.2, cmpI a.1 b.1]))]) rfl (.tmp rfl .nil) ?_
  refine ⟨?_, K0, ?_⟩
  · show (.int .i64 (orI ([cmpI a.2 b.2, cmpI a.1 b.1])) : Value) = _
    rfl
  · exact ltC_ord a b

theorem c_cin (w : World) (c : Cell) : Fn Try.prog 100 [.agg #[.int .i64 c.1, .int .i64 c.2]] w (fun v w' =>  v = .bool (inC c) ∧ Ex w w') := by
  have K0 : Ex w w := Kp.refl _ _
  refine fn_enter (n := 17) Try.func100 rfl rfl (Nat.le_of_ble_eq_true rfl) ?_
  show CW _ _ _ _ _ _ [(0, .agg #[.int .i64 c.1, .int .i64 c.2])] _
  refine cw_seq ?_
  refine cw_region ?_
  refine rw_op (op_box (v := .agg #[.int .i64 c.1, .int .i64 c.2]) (cs := #[.int .i64 c.1, .int .i64 c.2]) rfl rfl) rfl rfl rfl ?_
  rintro _ w2 ⟨g1, rfl, hg3, k4, b5⟩
  replace K0 := Ex.trans K0 k4
  have zw2 := k4.size
  have lg1 := b5.lt
  refine rw_ev (ev_assign rfl) rfl rfl rfl ?_
  refine rw_nil ?_
  refine nw_seq ?_
  refine cw_seq ?_
  refine cw_region ?_
  refine rw_ev (v := .pointer (some ⟨g1, 0, none⟩)) (ev_field (o := 0) rfl foff_55_0) rfl rfl rfl ?_
  refine rw_ev (v := .int .i64 c.1) (ev_lb1 (off := 0) (fun _ h => h ▸ b5) rfl one_3 rfl) rfl rfl rfl ?_
  refine rw_ev (v := .pointer (some ⟨g1, 1, none⟩)) (ev_field (o := 1) rfl foff_55_1) rfl rfl rfl ?_
  refine rw_ev (v := .int .i64 c.2) (ev_lb1 (off := 1) (fun _ h => h ▸ b5) rfl one_3 rfl) rfl rfl rfl ?_
  refine rw_ev (ev_max rfl rfl) rfl rfl rfl ?_
  refine rw_ev (ev_leq rfl rfl) rfl rfl rfl ?_
  refine rw_ev (ev_move rfl) rfl rfl rfl ?_
  by_cases h6 : (max c.1 c.2) ≤ 1099511627776
  ·
   refine rw_ev (v := .pointer (some ⟨g1, 0, none⟩)) (ev_field (o := 0) rfl foff_55_0) (gd_tt rfl (dec_t h6)) rfl rfl ?_
   refine rw_ev (v := .int .i64 c.1) (ev_lb1 (off := 0) (fun _ h => h ▸ b5) rfl one_3 rfl) (gd_tt rfl (dec_t h6)) rfl rfl ?_
   refine rw_ev (v := .pointer (some ⟨g1, 1, none⟩)) (ev_field (o := 1) rfl foff_55_1) (gd_tt rfl (dec_t h6)) rfl rfl ?_
   refine rw_ev (v := .int .i64 c.2) (ev_lb1 (off := 1) (fun _ h => h ▸ b5) rfl one_3 rfl) (gd_tt rfl (dec_t h6)) rfl rfl ?_
   refine rw_ev (ev_min rfl rfl) (gd_tt rfl (dec_t h6)) rfl rfl ?_
   refine rw_ev (ev_geq rfl rfl) (gd_tt rfl (dec_t h6)) rfl rfl ?_
   refine rw_ev (ev_pk_t rfl (dec_t h6) rfl) rfl rfl rfl ?_
   refine rw_ev (ev_assign rfl) rfl rfl rfl ?_
   refine rw_nil ?_
   refine nw_seq ?_
   refine cw_ret ?_
   refine ret_post (rs := [.tmp 2]) (vs := [.bool (decide ((-1099511627776) ≤ (min c.1 c.2)))]) rfl (.tmp rfl .nil) ?_
   refine ⟨?_, K0⟩
   · show (.bool (decide ((-1099511627776) ≤ (min c.1 c.2))) : Value) = _
     refine congrArg Value.bool ?_; rw [Bool.eq_iff_iff, inC_iff]; simp; omega
  ·
   refine rw_skip (gd_tf rfl (dec_f h6)) rfl rfl ?_
   refine rw_skip (gd_tf rfl (dec_f h6)) rfl rfl ?_
   refine rw_skip (gd_tf rfl (dec_f h6)) rfl rfl ?_
   refine rw_skip (gd_tf rfl (dec_f h6)) rfl rfl ?_
   refine rw_skip (gd_tf rfl (dec_f h6)) rfl rfl ?_
   refine rw_skip (gd_tf rfl (dec_f h6)) rfl rfl ?_
   refine rw_ev (ev_pk_f rfl (dec_f h6) rfl) rfl rfl rfl ?_
   refine rw_ev (ev_assign rfl) rfl rfl rfl ?_
   refine rw_nil ?_
   refine nw_seq ?_
   refine cw_ret ?_
   refine ret_post (rs := [.tmp 2]) (vs := [.bool false]) rfl (.tmp rfl .nil) ?_
   refine ⟨?_, K0⟩
   · show (.bool false : Value) = _
     refine congrArg Value.bool ?_; rw [Bool.eq_iff_iff, inC_iff]; simp; omega

theorem c_few (w : World) (v : Value) (l : List Cell) (hv : Sl w (fun b => b < w.heap.size) v 2 (l.map encC)) : Fn Try.prog 104 [v] w (fun v w' => ∃ u : Value, v = .tuple #[u, .int .i64 ((fewC l).2)] ∧ Ex w w' ∧ Sl w' (fun b => b < w'.heap.size) u 2 (((fewC l).1).map encC)) := by
  have K0 : Ex w w := Kp.refl _ _
  refine fn_enter (n := 8) Try.func104 rfl rfl (Nat.le_of_ble_eq_true rfl) ?_
  show CW _ _ _ _ _ _ [(0, v)] _
  have hlv_ := hv.lenm
  refine cw_seq ?_
  refine cw_region ?_
  refine rw_ev (ev_assign rfl) rfl rfl rfl ?_
  refine rw_ev (ev_assign rfl) rfl rfl rfl ?_
  refine rw_nil ?_
  refine nw_seq ?_
  refine cw_seq ?_
  refine cw_seq ?_
  refine cw_region ?_
  refine rw_ev (ev_move rfl) rfl rfl rfl ?_
  refine rw_ev (v := .int .i64 (l.length : Int)) (ev_lenm (l := l) ⟨_, hv⟩ rfl el_46 rfl) rfl rfl rfl ?_
  refine rw_ev (ev_gtr rfl rfl) rfl rfl rfl ?_
  refine rw_nil ?_
  refine nw_seq ?_
  by_cases h1 : (2000 : Int) < (l.length : Int)
  ·
   refine cw_t (b := decide ((2000 : Int) < (l.length : Int))) rfl (dec_t h1) ?_
   refine cw_seq ?_
   refine cw_region ?_
   refine rw_ev (ev_assign rfl) rfl rfl rfl ?_
   refine rw_ev (ev_assign rfl) rfl rfl rfl ?_
   refine rw_nil ?_
   refine nw_seq ?_
   refine cw_ret ?_
   refine ret_post (rs := [.tmp 2, .tmp 3]) (vs := [.slice none 0 0, .int .i64 3]) rfl (.tmp rfl (.tmp rfl .nil)) ?_
   have hk_ : fewC l = ([], 3) := by
     unfold fewC; rw [if_neg (by omega)]
   refine ⟨(.slice none 0 0), ?_, K0, ?_⟩
   · show (.tuple #[.slice none 0 0, .int .i64 3] : Value) = _
     rw [hk_]
   · have hl_ : ([] : List Cell) = (fewC l).1 := by rw [hk_]
     rw [← hl_]; exact (Sl.below (Sl.nil w (fun _ => False) 2 : Sl _ _ _ _ (([] : List Cell).map encC)))
  ·
   refine cw_f (b := decide ((2000 : Int) < (l.length : Int))) rfl (dec_f h1) ?_
   refine cw_skip ?_
   refine nw_seq ?_
   refine cw_seq ?_
   refine cw_region ?_
   refine rw_ev (ev_move rfl) rfl rfl rfl ?_
   refine rw_ev (ev_assign rfl) rfl rfl rfl ?_
   refine rw_ev (ev_assign rfl) rfl rfl rfl ?_
   refine rw_nil ?_
   refine nw_seq ?_
   refine cw_ret ?_
   refine ret_post (rs := [.tmp 2, .tmp 3]) (vs := [v, .int .i64 0]) rfl (.tmp rfl (.tmp rfl .nil)) ?_
   have hk_ : fewC l = (l, 0) := by
     unfold fewC; rw [if_pos (by omega)]
   refine ⟨v, ?_, K0, ?_⟩
   · show (.tuple #[v, .int .i64 0] : Value) = _
     rw [hk_]
   · have hl_ : l = (fewC l).1 := by rw [hk_]
     rw [← hl_]; exact (Sl.below hv)

theorem c_box (w : World) (v : Value) (l : List Cell) (hv : Sl w (fun b => b < w.heap.size) v 2 (l.map encC)) : Fn Try.prog 53 [v] w (fun v w' =>  v = .tuple #[.agg #[.int .i64 ((boxC l).1.1), .int .i64 ((boxC l).1.2.1), .int .i64 ((boxC l).1.2.2.1), .int .i64 ((boxC l).1.2.2.2)], .bool ((boxC l).2)] ∧ Ex w w') := by
  have K0 : Ex w w := Kp.refl _ _
  refine fn_enter (n := 79) Try.func53 rfl rfl (Nat.le_of_ble_eq_true rfl) ?_
  show CW _ _ _ _ _ _ [(0, v)] _
  have hlv_ := hv.lenm
  refine cw_seq ?_
  refine cw_region ?_
  refine rw_op (op_alloc zero_69) rfl rfl rfl ?_
  rintro _ w2 ⟨g1, rfl, hg3, k4, b5⟩
  replace K0 := Ex.trans K0 k4
  replace hv := hv.ex k4
  have zw2 := k4.size
  have lg1 := b5.lt
  refine rw_ev (ev_assign rfl) rfl rfl rfl ?_
  refine rw_nil ?_
  refine nw_seq ?_
  refine cw_seq ?_
  refine cw_seq ?_
  refine cw_region ?_
  refine rw_ev (ev_move rfl) rfl rfl rfl ?_
  refine rw_ev (v := .int .i64 (l.length : Int)) (ev_lenm (l := l) ⟨_, hv⟩ rfl el_46 rfl) rfl rfl rfl ?_
  refine rw_ev (ev_eq rfl rfl) rfl rfl rfl ?_
  refine rw_ev (ev_move rfl) rfl rfl rfl ?_
  by_cases h6 : (l.length : Int) = 0
  ·
   refine rw_skip (gd_ft rfl (dec_t h6)) rfl rfl ?_
   refine rw_skip (gd_ft rfl (dec_t h6)) rfl rfl ?_
   refine rw_skip (gd_ft rfl (dec_t h6)) rfl rfl ?_
   refine rw_ev (ev_pk_t rfl (dec_t h6) rfl) rfl rfl rfl ?_
   refine rw_nil ?_
   refine nw_seq ?_
   refine cw_t (b := true) rfl rfl ?_
   refine cw_seq ?_
   refine cw_region ?_
   refine rw_ev (v := .agg #[.int .i64 0, .int .i64 0, .int .i64 0, .int .i64 0]) (ev_pure rfl rfl (fun _ => by kernel_rfl)) rfl rfl rfl ?_
   refine rw_none (op_store (off := 0) (v := .agg #[.int .i64 0, .int .i64 0, .int .i64 0, .int .i64 0]) (cs' := #[.int .i64 0, .int .i64 0, .int .i64 0, .int .i64 0]) b5 rfl rfl size_69 rfl (Nat.le_of_ble_eq_true rfl) (one_cons rfl (one_cons rfl (one_cons rfl (one_cons rfl one_nil)))) rfl) rfl rfl ?_
   rintro _ w7 ⟨k8, b9⟩
   replace K0 := Ex.kp_new K0 k8 (fun _ h => h ▸ Nat.le_trans (Nat.le_refl _) hg3)
   replace hv := hv.kp k8 (fun b h e => Nat.lt_irrefl _ (Nat.lt_of_lt_of_le (show g1 < _ from e ▸ (show b < _ from h)) (Nat.le_trans (Nat.le_refl _) hg3)))
   have zw7 := k8.size
   refine rw_ev (ev_assign rfl) rfl rfl rfl ?_
   refine rw_nil ?_
   refine nw_seq ?_
   refine cw_ret ?_
   refine ret_post (rs := [.cell 2 69, .tmp 3]) (vs := [.agg #[.int .i64 0, .int .i64 0, .int .i64 0, .int .i64 0], .bool false]) rfl (.cell rfl b9 agg_69 rfl (.tmp rfl .nil)) ?_
   have hk_ : boxC l = ((0, 0, 0, 0), false) := by
     unfold boxC; cases l <;> simp_all <;> omega
   refine ⟨?_, K0⟩
   · show (.tuple #[.agg #[.int .i64 0, .int .i64 0, .int .i64 0, .int .i64 0], .bool false] : Value) = _
     simp only [hk_]
  ·
   refine rw_ev (ev_move rfl) (gd_ff rfl (dec_f h6)) rfl rfl ?_
   refine rw_op (op_fn (xs := [.tmp 11]) ent_54 rfl (c_right w2 v l (Sl.below hv))) (gd_ff rfl (dec_f h6)) rfl rfl ?_
   rintro _ w10 ⟨rfl, k11⟩
   replace K0 := Ex.trans K0 k11
   replace hv := hv.ex k11
   replace b5 := b5.ex k11
   have zw10 := k11.size
   refine rw_ev (ev_not rfl rfl) (gd_ff rfl (dec_f h6)) rfl rfl ?_
   refine rw_ev (ev_pk_f rfl (dec_f h6) rfl) rfl rfl rfl ?_
   refine rw_nil ?_
   refine nw_seq ?_
   rcases Bool.eq_false_or_eq_true (rightC l) with h12 | h12
   ·
    refine cw_f (b := !(rightC l)) rfl (not_f h12) ?_
    refine cw_skip ?_
    refine nw_seq ?_
    refine cw_seq ?_
    refine cw_region ?_
    refine rw_ev (ev_move rfl) rfl rfl rfl ?_
    obtain ⟨c13, hc14⟩ := get_of (l := l) (i := 0) (by omega)
    obtain ⟨_, _, _, _⟩ := right_in h12 hc14
    refine rw_ev (v := elemPtr v 0 2 0) (ev_slAt (i := 0) ⟨_, hv⟩ rfl rfl el_46 (idx_ok (i := 0) hc14 (by omega))) rfl rfl rfl ?_
    refine rw_ev (v := .agg #[.int .i64 c13.1, .int .i64 c13.2]) (ev_elLoadk (us := [.int .i64 c13.1, .int .i64 c13.2]) (fun _ h => h ▸ hv) ⟨_, rfl⟩ rfl (get_enc hc14) agg_55 (by decide) rfl rfl) rfl rfl rfl ?_
    refine rw_op (op_alloc zero_55) rfl rfl rfl ?_
    rintro _ w16 ⟨g15, rfl, hg17, k18, b19⟩
    replace K0 := Ex.trans K0 k18
    replace hv := hv.ex k18
    replace b5 := b5.ex k18
    have zw16 := k18.size
    have lg15 := b19.lt
    refine rw_none (op_store (off := 0) (v := .agg #[.int .i64 c13.1, .int .i64 c13.2]) (cs' := #[.int .i64 c13.1, .int .i64 c13.2]) b19 rfl rfl size_55 rfl (Nat.le_of_ble_eq_true rfl) (one_cons rfl (one_cons rfl one_nil)) rfl) rfl rfl ?_
    rintro _ w20 ⟨k21, b22⟩
    replace K0 := Ex.kp_new K0 k21 (fun _ h => h ▸ Nat.le_trans (Nat.le_trans zw2 zw10) hg17)
    replace hv := hv.kp k21 (fun b h e => Nat.lt_irrefl _ (Nat.lt_of_lt_of_le (show g15 < _ from e ▸ (show b < _ from h)) (Nat.le_trans (Nat.le_trans zw2 zw10) hg17)))
    replace b5 := b5.kp k21 (Nat.ne_of_lt (Nat.lt_of_lt_of_le lg1 (Nat.le_trans zw10 hg17)))
    have zw20 := k21.size
    refine rw_nil ?_
    refine nw_seq ?_
    refine cw_seq ?_
    refine cw_region ?_
    refine rw_ev (ev_move rfl) rfl rfl rfl ?_
    refine rw_ev (v := elemPtr v 0 2 0) (ev_slAt (i := 0) ⟨_, hv⟩ rfl rfl el_46 (idx_ok (i := 0) hc14 (by omega))) rfl rfl rfl ?_
    refine rw_ev (v := .agg #[.int .i64 c13.1, .int .i64 c13.2]) (ev_elLoadk (us := [.int .i64 c13.1, .int .i64 c13.2]) (fun _ h => h ▸ hv) ⟨_, rfl⟩ rfl (get_enc hc14) agg_55 (by decide) rfl rfl) rfl rfl rfl ?_
    refine rw_op (op_alloc zero_55) rfl rfl rfl ?_
    rintro _ w24 ⟨g23, rfl, hg25, k26, b27⟩
    replace K0 := Ex.trans K0 k26
    replace hv := hv.ex k26
    replace b5 := b5.ex k26
    replace b22 := b22.ex k26
    have zw24 := k26.size
    have lg23 := b27.lt
    refine rw_none (op_store (off := 0) (v := .agg #[.int .i64 c13.1, .int .i64 c13.2]) (cs' := #[.int .i64 c13.1, .int .i64 c13.2]) b27 rfl rfl size_55 rfl (Nat.le_of_ble_eq_true rfl) (one_cons rfl (one_cons rfl one_nil)) rfl) rfl rfl ?_
    rintro _ w28 ⟨k29, b30⟩
    replace K0 := Ex.kp_new K0 k29 (fun _ h => h ▸ Nat.le_trans (Nat.le_trans zw2 (Nat.le_trans zw10 (Nat.le_trans zw16 zw20))) hg25)
    replace hv := hv.kp k29 (fun b h e => Nat.lt_irrefl _ (Nat.lt_of_lt_of_le (show g23 < _ from e ▸ (show b < _ from h)) (Nat.le_trans (Nat.le_trans zw2 (Nat.le_trans zw10 (Nat.le_trans zw16 zw20))) hg25)))
    replace b5 := b5.kp k29 (Nat.ne_of_lt (Nat.lt_of_lt_of_le lg1 (Nat.le_trans (Nat.le_trans zw10 (Nat.le_trans zw16 zw20)) hg25)))
    replace b22 := b22.kp k29 (Nat.ne_of_lt (Nat.lt_of_lt_of_le lg15 (Nat.le_trans zw20 hg25)))
    have zw28 := k29.size
    refine rw_nil ?_
    refine nw_seq ?_
    refine cw_seq ?_
    refine cw_seq ?_
    refine cw_region ?_
    refine rw_ev (ev_assign rfl) rfl rfl rfl ?_
    refine rw_nil ?_
    refine nw_seq ?_
    refine cw_block ?_
    refine cw_loop (σ := Nat × Cell × Cell) (fun s_ => match s_ with | (i, a, b) => [(0, v), (2, .pointer (some ⟨g1, 0, none⟩)), (3, .bool false), (4, .pointer (some ⟨g15, 0, none⟩)), (5, .pointer (some ⟨g23, 0, none⟩)), (6, .int .i64 (i : Int))]) (fun s_ wr => match s_ with | (i, a, b) => Ex w wr ∧ w28.heap.size ≤ wr.heap.size ∧ Sl wr (fun b => b < w.heap.size) v 2 (l.map encC) ∧ Bx wr g1 69 #[.int .i64 0, .int .i64 0, .int .i64 0, .int .i64 0] ∧ Bx wr g15 55 #[.int .i64 a.1, .int .i64 a.2] ∧ Bx wr g23 55 #[.int .i64 b.1, .int .i64 b.2] ∧ a = (l.take i).foldl loC c13 ∧ b = (l.take i).foldl hiC c13 ∧ -1099511627776 ≤ a.1 ∧ a.1 ≤ 1099511627776 ∧ -1099511627776 ≤ a.2 ∧ a.2 ≤ 1099511627776 ∧ -1099511627776 ≤ b.1 ∧ b.1 ≤ 1099511627776 ∧ -1099511627776 ≤ b.2 ∧ b.2 ≤ 1099511627776) (fun s_ => match s_ with | (i, a, b) => l.length - i) (0, c13, c13) (Sub.cons rfl (Sub.cons rfl (Sub.cons rfl (Sub.cons rfl (Sub.cons rfl (Sub.int (b := (0 : Int)) rfl (by omega) Sub.nil)))))) ⟨K0, (Nat.le_refl _), hv, b5, b22, b30, (by first | assumption | rfl), (by first | assumption | rfl), (by first | assumption | rfl), (by first | assumption | rfl), (by first | assumption | rfl), (by first | assumption | rfl), (by first | assumption | rfl), (by first | assumption | rfl), (by first | assumption | rfl), (by first | assumption | rfl)⟩ ?_
    rintro ⟨i, a, b⟩ w31 ⟨K0, z32, f33, f34, f35, f36, pr37, pr38, pr39, pr40, pr41, pr42, pr43, pr44, pr45, pr46⟩
    show CW _ _ _ _ _ _ [(0, v), (2, .pointer (some ⟨g1, 0, none⟩)), (3, .bool false), (4, .pointer (some ⟨g15, 0, none⟩)), (5, .pointer (some ⟨g23, 0, none⟩)), (6, .int .i64 (i : Int))] _
    refine cw_seq ?_
    refine cw_seq ?_
    refine cw_region ?_
    refine rw_ev (ev_move rfl) rfl rfl rfl ?_
    refine rw_ev (ev_move rfl) rfl rfl rfl ?_
    refine rw_ev (v := .int .i64 (l.length : Int)) (ev_lenm (l := l) ⟨_, f33⟩ rfl el_46 rfl) rfl rfl rfl ?_
    refine rw_ev (ev_lss rfl rfl) rfl rfl rfl ?_
    refine rw_nil ?_
    refine nw_seq ?_
    by_cases h47 : (i : Int) < (l.length : Int)
    ·
     refine cw_t (b := decide ((i : Int) < (l.length : Int))) rfl (dec_t h47) ?_
     refine cw_skip ?_
     refine nw_seq ?_
     refine cw_seq ?_
     refine cw_block ?_
     refine cw_seq ?_
     refine cw_drawn (fun w48 w_ => Ex w48 w_) [17] (.take 0 (.take 1 (.take 2 (.take 3 (.take 4 (.take 5 (.take 6 (.take 7 (.take 8 (.take 9 (.take 10 (.take 11 (.take 12 (.take 13 (.take 14 (.take 15 (.take 16 (.one 17 .done)))))))))))))))))) mixed (by kernel_rfl) (by kernel_rfl) (Nat.le_of_ble_eq_true (by kernel_rfl)) ?_; intro w48 k49 hs_
     replace K0 := Ex.trans K0 k49
     replace f33 := f33.ex k49
     replace f34 := f34.ex k49
     replace f35 := f35.ex k49
     replace f36 := f36.ex k49
     have zw48 := k49.size
     have hS : (fun w_ => Ex w48 w_) w48 := Kp.refl _ _
     refine rp_take (v := .pointer (some ⟨g15, 0, none⟩)) hs_ hS rfl (by kernel_rfl) (ev_field (o := 0) rfl foff_55_0) rfl rfl rfl ?_
     refine rp_take (v := .int .i64 a.1) hs_ hS rfl (by kernel_rfl) (ev_lb1 (off := 0) (fun _ h => f35.ex h) rfl one_3 rfl) rfl rfl rfl ?_
     refine rp_take hs_ hS rfl (by kernel_rfl) (ev_move rfl) rfl rfl rfl ?_
     refine rp_take hs_ hS rfl (by kernel_rfl) (ev_move rfl) rfl rfl rfl ?_
     obtain ⟨c50, hc51⟩ := get_of (l := l) (i := i) (by omega)
     obtain ⟨_, _, _, _⟩ := right_in h12 hc51
     refine rp_take (v := elemPtr v i 2 0) hs_ hS rfl (by kernel_rfl) (ev_slAt (i := (i : Int)) ⟨_, (f33.ex hS)⟩ rfl rfl el_46 (idx_ok (i := (i : Int)) hc51 (by omega))) rfl rfl rfl ?_
     refine rp_take (v := elemPtr v i 2 0) hs_ hS rfl (by kernel_rfl) (ev_elField (o := 0) ⟨_, (f33.ex hS)⟩ (len_enc hc51) rfl foff_55_0) rfl rfl rfl ?_
     refine rp_take (v := .int .i64 c50.1) hs_ hS rfl (by kernel_rfl) (ev_elLoad1 (u := .int .i64 c50.1) (fun _ h => (f33.ex h)) ⟨_, hS⟩ rfl (get_enc hc51) one_3 (by decide) rfl) rfl rfl rfl ?_
     refine rp_take hs_ hS rfl (by kernel_rfl) (ev_min rfl rfl) rfl rfl rfl ?_
     refine rp_take (v := .pointer (some ⟨g15, 1, none⟩)) hs_ hS rfl (by kernel_rfl) (ev_field (o := 1) rfl foff_55_1) rfl rfl rfl ?_
     refine rp_take (v := .int .i64 a.2) hs_ hS rfl (by kernel_rfl) (ev_lb1 (off := 1) (fun _ h => f35.ex h) rfl one_3 rfl) rfl rfl rfl ?_
     refine rp_take hs_ hS rfl (by kernel_rfl) (ev_move rfl) rfl rfl rfl ?_
     refine rp_take hs_ hS rfl (by kernel_rfl) (ev_move rfl) rfl rfl rfl ?_
     refine rp_take (v := elemPtr v i 2 0) hs_ hS rfl (by kernel_rfl) (ev_slAt (i := (i : Int)) ⟨_, (f33.ex hS)⟩ rfl rfl el_46 (idx_ok (i := (i : Int)) hc51 (by omega))) rfl rfl rfl ?_
     refine rp_take (v := elemPtr v i 2 1) hs_ hS rfl (by kernel_rfl) (ev_elField (o := 1) ⟨_, (f33.ex hS)⟩ (len_enc hc51) rfl foff_55_1) rfl rfl rfl ?_
     refine rp_take (v := .int .i64 c50.2) hs_ hS rfl (by kernel_rfl) (ev_elLoad1 (u := .int .i64 c50.2) (fun _ h => (f33.ex h)) ⟨_, hS⟩ rfl (get_enc hc51) one_3 (by decide) rfl) rfl rfl rfl ?_
     refine rp_take hs_ hS rfl (by kernel_rfl) (ev_min rfl rfl) rfl rfl rfl ?_
     refine rp_take (v := .agg #[.int .i64 (min a.1 c50.1), .int .i64 (min a.2 c50.2)]) hs_ hS rfl (by kernel_rfl) (ev_pure rfl rfl (fun _ => by kernel_rfl)) rfl rfl rfl ?_
     refine rp_up (up_none rfl (op_store (off := 0) (v := .agg #[.int .i64 (min a.1 c50.1), .int .i64 (min a.2 c50.2)]) (cs' := #[.int .i64 (min a.1 c50.1), .int .i64 (min a.2 c50.2)]) f35 rfl rfl size_55 rfl (Nat.le_of_ble_eq_true rfl) (one_cons rfl (one_cons rfl one_nil)) rfl) rfl rfl ?_)
     rintro _ w52 ⟨k53, b54⟩
     replace K0 := Ex.kp_new K0 k53 (fun _ h => h ▸ Nat.le_trans (Nat.le_trans zw2 zw10) hg17)
     replace f33 := f33.kp k53 (fun b h e => Nat.lt_irrefl _ (Nat.lt_of_lt_of_le (show g15 < _ from e ▸ (show b < _ from h)) (Nat.le_trans (Nat.le_trans zw2 zw10) hg17)))
     replace f34 := f34.kp k53 (Nat.ne_of_lt (Nat.lt_of_lt_of_le lg1 (Nat.le_trans zw10 hg17)))
     replace f36 := f36.kp k53 (Nat.ne_of_gt (Nat.lt_of_lt_of_le lg15 (Nat.le_trans zw20 hg25)))
     have zw52 := k53.size
     refine ⟨(in_X rfl), ?_⟩
     refine rp_done ?_
     clear hs_
     refine nw_seq ?_
     refine cw_drawn (fun w55 w_ => Ex w55 w_) [17] (.take 0 (.take 1 (.take 2 (.take 3 (.take 4 (.take 5 (.take 6 (.take 7 (.take 8 (.take 9 (.take 10 (.take 11 (.take 12 (.take 13 (.take 14 (.take 15 (.take 16 (.one 17 .done)))))))))))))))))) mixed (by kernel_rfl) (by kernel_rfl) (Nat.le_of_ble_eq_true (by kernel_rfl)) ?_; intro w55 k56 hs_
     replace K0 := Ex.trans K0 k56
     replace f33 := f33.ex k56
     replace f34 := f34.ex k56
     replace f36 := f36.ex k56
     replace b54 := b54.ex k56
     have zw55 := k56.size
     have hS : (fun w_ => Ex w55 w_) w55 := Kp.refl _ _
     refine rp_take (v := .pointer (some ⟨g23, 0, none⟩)) hs_ hS rfl (by kernel_rfl) (ev_field (o := 0) rfl foff_55_0) rfl rfl rfl ?_
     refine rp_take (v := .int .i64 b.1) hs_ hS rfl (by kernel_rfl) (ev_lb1 (off := 0) (fun _ h => f36.ex h) rfl one_3 rfl) rfl rfl rfl ?_
     refine rp_take hs_ hS rfl (by kernel_rfl) (ev_move rfl) rfl rfl rfl ?_
     refine rp_take hs_ hS rfl (by kernel_rfl) (ev_move rfl) rfl rfl rfl ?_
     refine rp_take (v := elemPtr v i 2 0) hs_ hS rfl (by kernel_rfl) (ev_slAt (i := (i : Int)) ⟨_, (f33.ex hS)⟩ rfl rfl el_46 (idx_ok (i := (i : Int)) hc51 (by omega))) rfl rfl rfl ?_
     refine rp_take (v := elemPtr v i 2 0) hs_ hS rfl (by kernel_rfl) (ev_elField (o := 0) ⟨_, (f33.ex hS)⟩ (len_enc hc51) rfl foff_55_0) rfl rfl rfl ?_
     refine rp_take (v := .int .i64 c50.1) hs_ hS rfl (by kernel_rfl) (ev_elLoad1 (u := .int .i64 c50.1) (fun _ h => (f33.ex h)) ⟨_, hS⟩ rfl (get_enc hc51) one_3 (by decide) rfl) rfl rfl rfl ?_
     refine rp_take hs_ hS rfl (by kernel_rfl) (ev_max rfl rfl) rfl rfl rfl ?_
     refine rp_take (v := .pointer (some ⟨g23, 1, none⟩)) hs_ hS rfl (by kernel_rfl) (ev_field (o := 1) rfl foff_55_1) rfl rfl rfl ?_
     refine rp_take (v := .int .i64 b.2) hs_ hS rfl (by kernel_rfl) (ev_lb1 (off := 1) (fun _ h => f36.ex h) rfl one_3 rfl) rfl rfl rfl ?_
     refine rp_take hs_ hS rfl (by kernel_rfl) (ev_move rfl) rfl rfl rfl ?_
     refine rp_take hs_ hS rfl (by kernel_rfl) (ev_move rfl) rfl rfl rfl ?_
     refine rp_take (v := elemPtr v i 2 0) hs_ hS rfl (by kernel_rfl) (ev_slAt (i := (i : Int)) ⟨_, (f33.ex hS)⟩ rfl rfl el_46 (idx_ok (i := (i : Int)) hc51 (by omega))) rfl rfl rfl ?_
     refine rp_take (v := elemPtr v i 2 1) hs_ hS rfl (by kernel_rfl) (ev_elField (o := 1) ⟨_, (f33.ex hS)⟩ (len_enc hc51) rfl foff_55_1) rfl rfl rfl ?_
     refine rp_take (v := .int .i64 c50.2) hs_ hS rfl (by kernel_rfl) (ev_elLoad1 (u := .int .i64 c50.2) (fun _ h => (f33.ex h)) ⟨_, hS⟩ rfl (get_enc hc51) one_3 (by decide) rfl) rfl rfl rfl ?_
     refine rp_take hs_ hS rfl (by kernel_rfl) (ev_max rfl rfl) rfl rfl rfl ?_
     refine rp_take (v := .agg #[.int .i64 (max b.1 c50.1), .int .i64 (max b.2 c50.2)]) hs_ hS rfl (by kernel_rfl) (ev_pure rfl rfl (fun _ => by kernel_rfl)) rfl rfl rfl ?_
     refine rp_up (up_none rfl (op_store (off := 0) (v := .agg #[.int .i64 (max b.1 c50.1), .int .i64 (max b.2 c50.2)]) (cs' := #[.int .i64 (max b.1 c50.1), .int .i64 (max b.2 c50.2)]) f36 rfl rfl size_55 rfl (Nat.le_of_ble_eq_true rfl) (one_cons rfl (one_cons rfl one_nil)) rfl) rfl rfl ?_)
     rintro _ w57 ⟨k58, b59⟩
     replace K0 := Ex.kp_new K0 k58 (fun _ h => h ▸ Nat.le_trans (Nat.le_trans zw2 (Nat.le_trans zw10 (Nat.le_trans zw16 zw20))) hg25)
     replace f33 := f33.kp k58 (fun b h e => Nat.lt_irrefl _ (Nat.lt_of_lt_of_le (show g23 < _ from e ▸ (show b < _ from h)) (Nat.le_trans (Nat.le_trans zw2 (Nat.le_trans zw10 (Nat.le_trans zw16 zw20))) hg25)))
     replace f34 := f34.kp k58 (Nat.ne_of_lt (Nat.lt_of_lt_of_le lg1 (Nat.le_trans (Nat.le_trans zw10 (Nat.le_trans zw16 zw20)) hg25)))
     replace b54 := b54.kp k58 (Nat.ne_of_lt (Nat.lt_of_lt_of_le lg15 (Nat.le_trans zw20 hg25)))
     have zw57 := k58.size
     refine ⟨(in_X rfl), ?_⟩
     refine rp_done ?_
     clear hs_
     refine nw_block ?_
     refine nw_seq ?_
     refine cw_region ?_
     refine rw_ev (ev_move rfl) rfl rfl rfl ?_
     refine rw_ev (ev_add rfl rfl (by omega)) rfl rfl rfl ?_
     refine rw_ev (ev_assign rfl) rfl rfl rfl ?_
     refine rw_nil ?_
     exact nw_round ((i + 1), (min a.1 c50.1, min a.2 c50.2), (max b.1 c50.1, max b.2 c50.2)) (Sub.cons rfl (Sub.cons rfl (Sub.cons rfl (Sub.cons rfl (Sub.cons rfl (Sub.int (b := ((i + 1) : Int)) rfl (by omega) Sub.nil)))))) ⟨K0, (Nat.le_trans z32 (Nat.le_trans zw48 (Nat.le_trans zw52 (Nat.le_trans zw55 zw57)))), f33, f34, (by exact b54), (by exact b59), (by first | (dsimp only; omega) | (rw [take_succ_fold (by assumption : l[i]? = some _)]; simp_all [loC, hiC])), (by first | (dsimp only; omega) | (rw [take_succ_fold (by assumption : l[i]? = some _)]; simp_all [loC, hiC])), (by first | (dsimp only; omega) | (rw [take_succ_fold (by assumption : l[i]? = some _)]; simp_all [loC, hiC])), (by first | (dsimp only; omega) | (rw [take_succ_fold (by assumption : l[i]? = some _)]; simp_all [loC, hiC])), (by first | (dsimp only; omega) | (rw [take_succ_fold (by assumption : l[i]? = some _)]; simp_all [loC, hiC])), (by first | (dsimp only; omega) | (rw [take_succ_fold (by assumption : l[i]? = some _)]; simp_all [loC, hiC])), (by first | (dsimp only; omega) | (rw [take_succ_fold (by assumption : l[i]? = some _)]; simp_all [loC, hiC])), (by first | (dsimp only; omega) | (rw [take_succ_fold (by assumption : l[i]? = some _)]; simp_all [loC, hiC])), (by first | (dsimp only; omega) | (rw [take_succ_fold (by assumption : l[i]? = some _)]; simp_all [loC, hiC])), (by first | (dsimp only; omega) | (rw [take_succ_fold (by assumption : l[i]? = some _)]; simp_all [loC, hiC]))⟩ (by first | omega | (dsimp only; omega))
    ·
     refine cw_f (b := decide ((i : Int) < (l.length : Int))) rfl (dec_f h47) ?_
     refine cw_exit ?_
     refine xw_seq ?_
     refine xw_goal ?_
     refine xw_hit ?_
     refine nw_seq ?_
     refine cw_seq ?_
     refine cw_region ?_
     refine rw_ev (v := .pointer (some ⟨g15, 0, none⟩)) (ev_field (o := 0) rfl foff_55_0) rfl rfl rfl ?_
     refine rw_ev (v := .int .i64 a.1) (ev_lb1 (off := 0) (fun _ h => h ▸ f35) rfl one_3 rfl) rfl rfl rfl ?_
     refine rw_ev (v := .pointer (some ⟨g15, 1, none⟩)) (ev_field (o := 1) rfl foff_55_1) rfl rfl rfl ?_
     refine rw_ev (v := .int .i64 a.2) (ev_lb1 (off := 1) (fun _ h => h ▸ f35) rfl one_3 rfl) rfl rfl rfl ?_
     refine rw_ev (v := .pointer (some ⟨g23, 0, none⟩)) (ev_field (o := 0) rfl foff_55_0) rfl rfl rfl ?_
     refine rw_ev (v := .int .i64 b.1) (ev_lb1 (off := 0) (fun _ h => h ▸ f36) rfl one_3 rfl) rfl rfl rfl ?_
     refine rw_ev (v := .pointer (some ⟨g15, 0, none⟩)) (ev_field (o := 0) rfl foff_55_0) rfl rfl rfl ?_
     refine rw_ev (v := .int .i64 a.1) (ev_lb1 (off := 0) (fun _ h => h ▸ f35) rfl one_3 rfl) rfl rfl rfl ?_
     refine rw_ev (ev_sub rfl rfl (by omega)) rfl rfl rfl ?_
     refine rw_ev (ev_add rfl rfl (by omega)) rfl rfl rfl ?_
     refine rw_ev (v := .pointer (some ⟨g23, 1, none⟩)) (ev_field (o := 1) rfl foff_55_1) rfl rfl rfl ?_
     refine rw_ev (v := .int .i64 b.2) (ev_lb1 (off := 1) (fun _ h => h ▸ f36) rfl one_3 rfl) rfl rfl rfl ?_
     refine rw_ev (v := .pointer (some ⟨g15, 1, none⟩)) (ev_field (o := 1) rfl foff_55_1) rfl rfl rfl ?_
     refine rw_ev (v := .int .i64 a.2) (ev_lb1 (off := 1) (fun _ h => h ▸ f35) rfl one_3 rfl) rfl rfl rfl ?_
     refine rw_ev (ev_sub rfl rfl (by omega)) rfl rfl rfl ?_
     refine rw_ev (ev_add rfl rfl (by omega)) rfl rfl rfl ?_
     refine rw_ev (v := .agg #[.int .i64 a.1, .int .i64 a.2, .int .i64 ((b.1 - a.1) + 1), .int .i64 ((b.2 - a.2) + 1)]) (ev_pure rfl rfl (fun _ => by kernel_rfl)) rfl rfl rfl ?_
     refine rw_none (op_store (off := 0) (v := .agg #[.int .i64 a.1, .int .i64 a.2, .int .i64 ((b.1 - a.1) + 1), .int .i64 ((b.2 - a.2) + 1)]) (cs' := #[.int .i64 a.1, .int .i64 a.2, .int .i64 ((b.1 - a.1) + 1), .int .i64 ((b.2 - a.2) + 1)]) f34 rfl rfl size_69 rfl (Nat.le_of_ble_eq_true rfl) (one_cons rfl (one_cons rfl (one_cons rfl (one_cons rfl one_nil)))) rfl) rfl rfl ?_
     rintro _ w60 ⟨k61, b62⟩
     replace K0 := Ex.kp_new K0 k61 (fun _ h => h ▸ Nat.le_trans (Nat.le_refl _) hg3)
     replace f33 := f33.kp k61 (fun b h e => Nat.lt_irrefl _ (Nat.lt_of_lt_of_le (show g1 < _ from e ▸ (show b < _ from h)) (Nat.le_trans (Nat.le_refl _) hg3)))
     replace f35 := f35.kp k61 (Nat.ne_of_gt (Nat.lt_of_lt_of_le lg1 (Nat.le_trans zw10 hg17)))
     replace f36 := f36.kp k61 (Nat.ne_of_gt (Nat.lt_of_lt_of_le lg1 (Nat.le_trans (Nat.le_trans zw10 (Nat.le_trans zw16 zw20)) hg25)))
     have zw60 := k61.size
     refine rw_ev (ev_assign rfl) rfl rfl rfl ?_
     refine rw_nil ?_
     refine nw_seq ?_
     refine cw_ret ?_
     refine ret_post (rs := [.cell 2 69, .tmp 3]) (vs := [.agg #[.int .i64 a.1, .int .i64 a.2, .int .i64 ((b.1 - a.1) + 1), .int .i64 ((b.2 - a.2) + 1)], .bool true]) rfl (.cell rfl b62 agg_69 rfl (.tmp rfl .nil)) ?_
     have ha : a = l.foldl loC c13 := by
       have q := (by assumption : a = (l.take i).foldl loC c13)
       rw [q, take_all (by assumption : ¬ (i : Int) < l.length)]
     have hb : b = l.foldl hiC c13 := by
       have q := (by assumption : b = (l.take i).foldl hiC c13)
       rw [q, take_all (by assumption : ¬ (i : Int) < l.length)]
     have hr : rightC l = true := by assumption
     have hk_ : boxC l = ((a.1, a.2, b.1 - a.1 + 1, b.2 - a.2 + 1), true) := by
       rw [ha, hb]
       clear ha hb
       have hc0 := hc14
       have key : ∀ l : List Cell, l[0]? = some c13 → rightC l = true → boxC l = (((l.foldl loC c13).1, (l.foldl loC c13).2, (l.foldl hiC c13).1 - (l.foldl loC c13).1 + 1, (l.foldl hiC c13).2 - (l.foldl loC c13).2 + 1), true) := by
         intro l h0 h1
         cases l with
         | nil => simp at h0
         | cons x t =>
           obtain rfl : x = c13 := by simpa using h0
           simp only [boxC, h1, if_true]
       exact key l hc0 hr
     refine ⟨?_, K0⟩
     · show (.tuple #[.agg #[.int .i64 a.1, .int .i64 a.2, .int .i64 ((b.1 - a.1) + 1), .int .i64 ((b.2 - a.2) + 1)], .bool true] : Value) = _
       simp only [hk_]
   ·
    refine cw_t (b := !(rightC l)) rfl (not_t h12) ?_
    refine cw_seq ?_
    refine cw_region ?_
    refine rw_ev (v := .agg #[.int .i64 0, .int .i64 0, .int .i64 0, .int .i64 0]) (ev_pure rfl rfl (fun _ => by kernel_rfl)) rfl rfl rfl ?_
    refine rw_none (op_store (off := 0) (v := .agg #[.int .i64 0, .int .i64 0, .int .i64 0, .int .i64 0]) (cs' := #[.int .i64 0, .int .i64 0, .int .i64 0, .int .i64 0]) b5 rfl rfl size_69 rfl (Nat.le_of_ble_eq_true rfl) (one_cons rfl (one_cons rfl (one_cons rfl (one_cons rfl one_nil)))) rfl) rfl rfl ?_
    rintro _ w63 ⟨k64, b65⟩
    replace K0 := Ex.kp_new K0 k64 (fun _ h => h ▸ Nat.le_trans (Nat.le_refl _) hg3)
    replace hv := hv.kp k64 (fun b h e => Nat.lt_irrefl _ (Nat.lt_of_lt_of_le (show g1 < _ from e ▸ (show b < _ from h)) (Nat.le_trans (Nat.le_refl _) hg3)))
    have zw63 := k64.size
    refine rw_ev (ev_assign rfl) rfl rfl rfl ?_
    refine rw_nil ?_
    refine nw_seq ?_
    refine cw_ret ?_
    refine ret_post (rs := [.cell 2 69, .tmp 3]) (vs := [.agg #[.int .i64 0, .int .i64 0, .int .i64 0, .int .i64 0], .bool false]) rfl (.cell rfl b65 agg_69 rfl (.tmp rfl .nil)) ?_
    have hk_ : boxC l = ((0, 0, 0, 0), false) := by
      unfold boxC; cases l <;> simp_all <;> omega
    refine ⟨?_, K0⟩
    · show (.tuple #[.agg #[.int .i64 0, .int .i64 0, .int .i64 0, .int .i64 0], .bool false] : Value) = _
      simp only [hk_]

theorem c_cright (w : World) (v : Value) (l : List Cell) (hv : Sl w (fun b => b < w.heap.size) v 2 (l.map encC)) : Fn Try.prog 58 [v] w (fun v w' =>  v = .bool (rightC l) ∧ Ex w w') := by
  have K0 : Ex w w := Kp.refl _ _
  refine fn_enter (n := 33) Try.func58 rfl rfl (Nat.le_of_ble_eq_true rfl) ?_
  show CW _ _ _ _ _ _ [(0, v)] _
  have hlv_ := hv.lenm
  refine cw_seq ?_
  refine cw_region ?_
  refine rw_ev (ev_assign rfl) rfl rfl rfl ?_
  refine rw_nil ?_
  refine nw_seq ?_
  refine cw_seq ?_
  refine cw_seq ?_
  refine cw_region ?_
  refine rw_ev (ev_move rfl) rfl rfl rfl ?_
  refine rw_ev (v := .int .i64 (l.length : Int)) (ev_lenm (l := l) ⟨_, hv⟩ rfl el_46 rfl) rfl rfl rfl ?_
  refine rw_ev (ev_move rfl) rfl rfl rfl ?_
  refine rw_nil ?_
  refine nw_seq ?_
  refine cw_block ?_
  refine cw_loop (σ := Nat) (fun i => [(0, v), (2, .bool false), (5, v), (6, .int .i64 (l.length : Int)), (7, .int .i64 (i : Int))]) (fun i wr => Ex w wr ∧ w.heap.size ≤ wr.heap.size ∧ Sl wr (fun b => b < w.heap.size) v 2 (l.map encC) ∧ (List.range i).all (okAt l) = true ∧ i ≤ l.length) (fun i => l.length - i) 0 (Sub.cons rfl (Sub.cons rfl (Sub.cons rfl (Sub.cons rfl (Sub.int (b := (0 : Int)) rfl (by omega) Sub.nil))))) ⟨K0, (Nat.le_refl _), hv, (by first | omega | rfl), (by first | omega | rfl)⟩ ?_
  rintro i w1 ⟨K0, z2, f3, pr4, pr5⟩
  show CW _ _ _ _ _ _ [(0, v), (2, .bool false), (5, v), (6, .int .i64 (l.length : Int)), (7, .int .i64 (i : Int))] _
  refine cw_seq ?_
  refine cw_region ?_
  refine rw_ev (ev_lss rfl rfl) rfl rfl rfl ?_
  refine rw_nil ?_
  refine nw_seq ?_
  refine cw_seq ?_
  by_cases h6 : (i : Int) < (l.length : Int)
  ·
   refine cw_t (b := decide ((i : Int) < (l.length : Int))) rfl (dec_t h6) ?_
   refine cw_skip ?_
   refine nw_seq ?_
   refine cw_seq ?_
   refine cw_block ?_
   refine cw_seq ?_
   refine cw_region ?_
   refine rw_ev (ev_move rfl) rfl rfl rfl ?_
   obtain ⟨c7, hc8⟩ := get_of (l := l) (i := i) (by omega)
   refine rw_ev (v := elemPtr v i 2 0) (ev_slAt (i := (i : Int)) ⟨_, f3⟩ rfl rfl el_46 (idx_ok (i := (i : Int)) hc8 (by omega))) rfl rfl rfl ?_
   refine rw_ev (v := .agg #[.int .i64 c7.1, .int .i64 c7.2]) (ev_elLoadk (us := [.int .i64 c7.1, .int .i64 c7.2]) (fun _ h => h ▸ f3) ⟨_, rfl⟩ rfl (get_enc hc8) agg_55 (by decide) rfl rfl) rfl rfl rfl ?_
   refine rw_op (op_alloc zero_55) rfl rfl rfl ?_
   rintro _ w10 ⟨g9, rfl, hg11, k12, b13⟩
   replace K0 := Ex.trans K0 k12
   replace f3 := f3.ex k12
   have zw10 := k12.size
   have lg9 := b13.lt
   refine rw_ev (ev_assign rfl) rfl rfl rfl ?_
   refine rw_none (op_store (off := 0) (v := .agg #[.int .i64 c7.1, .int .i64 c7.2]) (cs' := #[.int .i64 c7.1, .int .i64 c7.2]) b13 rfl rfl size_55 rfl (Nat.le_of_ble_eq_true rfl) (one_cons rfl (one_cons rfl one_nil)) rfl) rfl rfl ?_
   rintro _ w14 ⟨k15, b16⟩
   replace K0 := Ex.kp_new K0 k15 (fun _ h => h ▸ Nat.le_trans z2 hg11)
   replace f3 := f3.kp k15 (fun b h e => Nat.lt_irrefl _ (Nat.lt_of_lt_of_le (show g9 < _ from e ▸ (show b < _ from h)) (Nat.le_trans z2 hg11)))
   have zw14 := k15.size
   refine rw_nil ?_
   refine nw_seq ?_
   refine cw_seq ?_
   refine cw_drawn (fun w17 w_ => Ex w17 w_) [] (.take 0 (.one 1 (.take 2 (.take 3 (.take 4 (.take 5 (.take 6 (.take 7 (.take 8 (.take 9 (.take 10 (.take 11 (.take 12 (.one 13 (.take 14 (.take 15 (.take 16 .done))))))))))))))))) mixed (by kernel_rfl) (by kernel_rfl) (Nat.le_of_ble_eq_true (by kernel_rfl)) ?_; intro w17 k18 hs_
   replace K0 := Ex.trans K0 k18
   replace f3 := f3.ex k18
   replace b16 := b16.ex k18
   have zw17 := k18.size
   have hS : (fun w_ => Ex w17 w_) w17 := Kp.refl _ _
   refine rp_take (v := .agg #[.int .i64 c7.1, .int .i64 c7.2]) hs_ hS rfl rfl (ev_lbk (off := 0) (vs := [.int .i64 c7.1, .int .i64 c7.2]) (fun _ h => b16.ex h) rfl agg_55 rfl rfl) rfl rfl rfl ?_
   refine rp_up (up_op rfl (op_fn (xs := [.tmp 12]) ent_100 rfl (c_cin w17 c7)) rfl rfl rfl ?_)
   rintro _ w19 ⟨rfl, k20⟩
   replace K0 := Ex.trans K0 k20
   replace hS := Ex.trans hS k20
   have zw19 := k20.size
   refine ⟨(fun _ => hS), ?_⟩
   refine rp_take hs_ hS rfl rfl (ev_not rfl rfl) rfl rfl rfl ?_
   refine rp_take hs_ hS rfl rfl (ev_move rfl) rfl rfl rfl ?_
   rcases Bool.eq_false_or_eq_true (inC c7) with h21 | h21
   ·
    refine rp_take hs_ hS rfl rfl (ev_move rfl) (gd_ff rfl (not_f h21)) rfl rfl ?_
    refine rp_take hs_ hS rfl rfl (ev_gtr rfl rfl) (gd_ff rfl (not_f h21)) rfl rfl ?_
    refine rp_take hs_ hS rfl rfl (ev_move rfl) (gd_ff rfl (not_f h21)) rfl rfl ?_
    by_cases h22 : (0 : Int) < (i : Int)
    ·
     refine rp_take hs_ hS rfl rfl (ev_move rfl) (gd_tt rfl (dec_t h22)) rfl rfl ?_
     refine rp_take hs_ hS rfl rfl (ev_move rfl) (gd_tt rfl (dec_t h22)) rfl rfl ?_
     refine rp_take hs_ hS rfl rfl (ev_sub rfl rfl (by omega)) (gd_tt rfl (dec_t h22)) rfl rfl ?_
     obtain ⟨c23, hc24⟩ := get_of (l := l) (i := ((i : Int) - 1).toNat) (by omega)
     refine rp_take (v := elemPtr v (((i : Int) - 1).toNat) 2 0) hs_ hS rfl rfl (ev_slAt (i := (i : Int) - 1) ⟨_, (f3.ex hS)⟩ rfl rfl el_46 (idx_ok (i := (i : Int) - 1) hc24 (by omega))) (gd_tt rfl (dec_t h22)) rfl rfl ?_
     refine rp_take (v := .agg #[.int .i64 c23.1, .int .i64 c23.2]) hs_ hS rfl rfl (ev_elLoadk (us := [.int .i64 c23.1, .int .i64 c23.2]) (fun _ h => (f3.ex h)) ⟨_, hS⟩ rfl (get_enc hc24) agg_55 (by decide) rfl rfl) (gd_tt rfl (dec_t h22)) rfl rfl ?_
     refine rp_take (v := .agg #[.int .i64 c7.1, .int .i64 c7.2]) hs_ hS rfl rfl (ev_lbk (off := 0) (vs := [.int .i64 c7.1, .int .i64 c7.2]) (fun _ h => b16.ex h) rfl agg_55 rfl rfl) (gd_tt rfl (dec_t h22)) rfl rfl ?_
     refine rp_up (up_op rfl (op_fn (xs := [.tmp 23, .tmp 24]) ent_103 rfl (c_order w19 c23 c7)) (gd_tt rfl (dec_t h22)) rfl rfl ?_)
     rintro _ w25 ⟨rfl, k26, pr27⟩
     replace K0 := Ex.trans K0 k26
     replace hS := Ex.trans hS k26
     have zw25 := k26.size
     refine ⟨(fun _ => hS), ?_⟩
     refine rp_take hs_ hS rfl rfl (ev_geq rfl rfl) (gd_tt rfl (dec_t h22)) rfl rfl ?_
     refine rp_take hs_ hS rfl rfl (ev_pk_t rfl (dec_t h22) rfl) (gd_ff rfl (not_f h21)) rfl rfl ?_
     refine rp_take hs_ hS rfl rfl (ev_pk_f rfl (not_f h21) rfl) rfl rfl rfl ?_
     refine rp_done ?_
     clear hs_
     replace f3 := f3.ex hS
     replace b16 := b16.ex hS
     refine nw_seq ?_
     by_cases h28 : (0 : Int) ≤ (ordC c23 c7)
     ·
      refine cw_t (b := decide ((0 : Int) ≤ (ordC c23 c7))) rfl (dec_t h28) ?_
      refine cw_seq ?_
      refine cw_region ?_
      refine rw_ev (ev_assign rfl) rfl rfl rfl ?_
      refine rw_nil ?_
      refine nw_seq ?_
      refine cw_ret ?_
      refine ret_post (rs := [.tmp 2]) (vs := [.bool false]) rfl (.tmp rfl .nil) ?_
      refine ⟨?_, K0⟩
      · show (.bool false : Value) = _
        have hz : ((i : Int) - 1).toNat = i - 1 := (by omega)
        refine congrArg Value.bool (Eq.symm ?_); unfold rightC; rw [range_stop (i := i) (by omega) (by simp_all [okAt] <;> omega)]; rfl
     ·
      refine cw_f (b := decide ((0 : Int) ≤ (ordC c23 c7))) rfl (dec_f h28) ?_
      refine cw_skip ?_
      refine nw_block ?_
      refine nw_seq ?_
      refine cw_region ?_
      refine rw_ev (ev_add rfl rfl (by omega)) rfl rfl rfl ?_
      refine rw_ev (ev_move rfl) rfl rfl rfl ?_
      refine rw_nil ?_
      exact nw_round (i + 1) (Sub.cons rfl (Sub.cons rfl (Sub.cons rfl (Sub.cons rfl (Sub.int (b := ((i + 1) : Int)) rfl (by omega) Sub.nil))))) ⟨K0, (Nat.le_trans z2 (Nat.le_trans zw10 (Nat.le_trans zw14 (Nat.le_trans zw17 (Nat.le_trans zw19 zw25))))), f3, (by first | omega | (rw [range_all_succ]; have hz : ((i : Int) - 1).toNat = i - 1 := (by omega); simp_all [okAt])), (by first | omega | (rw [range_all_succ]; have hz : ((i : Int) - 1).toNat = i - 1 := (by omega); simp_all [okAt]))⟩ (by first | omega | (dsimp only; omega))
    ·
     refine rp_skip hs_ hS rfl rfl (gd_tf rfl (dec_f h22)) rfl rfl ?_
     refine rp_skip hs_ hS rfl rfl (gd_tf rfl (dec_f h22)) rfl rfl ?_
     refine rp_skip hs_ hS rfl rfl (gd_tf rfl (dec_f h22)) rfl rfl ?_
     refine rp_skip hs_ hS rfl rfl (gd_tf rfl (dec_f h22)) rfl rfl ?_
     refine rp_skip hs_ hS rfl rfl (gd_tf rfl (dec_f h22)) rfl rfl ?_
     refine rp_skip hs_ hS rfl rfl (gd_tf rfl (dec_f h22)) rfl rfl ?_
     refine rp_up (up_skip rfl (gd_tf rfl (dec_f h22)) rfl rfl (fun _ => hS) ?_)
     refine rp_skip hs_ hS rfl rfl (gd_tf rfl (dec_f h22)) rfl rfl ?_
     refine rp_take hs_ hS rfl rfl (ev_pk_f rfl (dec_f h22) rfl) (gd_ff rfl (not_f h21)) rfl rfl ?_
     refine rp_take hs_ hS rfl rfl (ev_pk_f rfl (not_f h21) rfl) rfl rfl rfl ?_
     refine rp_done ?_
     clear hs_
     replace f3 := f3.ex hS
     replace b16 := b16.ex hS
     refine nw_seq ?_
     refine cw_f (b := false) rfl rfl ?_
     refine cw_skip ?_
     refine nw_block ?_
     refine nw_seq ?_
     refine cw_region ?_
     refine rw_ev (ev_add rfl rfl (by omega)) rfl rfl rfl ?_
     refine rw_ev (ev_move rfl) rfl rfl rfl ?_
     refine rw_nil ?_
     exact nw_round (i + 1) (Sub.cons rfl (Sub.cons rfl (Sub.cons rfl (Sub.cons rfl (Sub.int (b := ((i + 1) : Int)) rfl (by omega) Sub.nil))))) ⟨K0, (Nat.le_trans z2 (Nat.le_trans zw10 (Nat.le_trans zw14 (Nat.le_trans zw17 zw19)))), f3, (by first | omega | (rw [range_all_succ]; have hz : ((i : Int) - 1).toNat = i - 1 := (by omega); simp_all [okAt])), (by first | omega | (rw [range_all_succ]; have hz : ((i : Int) - 1).toNat = i - 1 := (by omega); simp_all [okAt]))⟩ (by first | omega | (dsimp only; omega))
   ·
    refine rp_skip hs_ hS rfl rfl (gd_ft rfl (not_t h21)) rfl rfl ?_
    refine rp_skip hs_ hS rfl rfl (gd_ft rfl (not_t h21)) rfl rfl ?_
    refine rp_skip hs_ hS rfl rfl (gd_ft rfl (not_t h21)) rfl rfl ?_
    refine rp_skip hs_ hS rfl rfl rfl rfl rfl ?_
    refine rp_skip hs_ hS rfl rfl rfl rfl rfl ?_
    refine rp_skip hs_ hS rfl rfl rfl rfl rfl ?_
    refine rp_skip hs_ hS rfl rfl rfl rfl rfl ?_
    refine rp_skip hs_ hS rfl rfl rfl rfl rfl ?_
    refine rp_skip hs_ hS rfl rfl rfl rfl rfl ?_
    refine rp_up (up_skip rfl rfl rfl rfl (fun _ => hS) ?_)
    refine rp_skip hs_ hS rfl rfl rfl rfl rfl ?_
    refine rp_skip hs_ hS rfl rfl (gd_ft rfl (not_t h21)) rfl rfl ?_
    refine rp_take hs_ hS rfl rfl (ev_pk_t rfl (not_t h21) rfl) rfl rfl rfl ?_
    refine rp_done ?_
    clear hs_
    replace f3 := f3.ex hS
    replace b16 := b16.ex hS
    refine nw_seq ?_
    refine cw_t (b := true) rfl rfl ?_
    refine cw_seq ?_
    refine cw_region ?_
    refine rw_ev (ev_assign rfl) rfl rfl rfl ?_
    refine rw_nil ?_
    refine nw_seq ?_
    refine cw_ret ?_
    refine ret_post (rs := [.tmp 2]) (vs := [.bool false]) rfl (.tmp rfl .nil) ?_
    refine ⟨?_, K0⟩
    · show (.bool false : Value) = _
      have hz : ((i : Int) - 1).toNat = i - 1 := (by omega)
      refine congrArg Value.bool (Eq.symm ?_); unfold rightC; rw [range_stop (i := i) (by omega) (by simp_all [okAt] <;> omega)]; rfl
  ·
   refine cw_f (b := decide ((i : Int) < (l.length : Int))) rfl (dec_f h6) ?_
   refine cw_exit ?_
   refine xw_seq ?_
   refine xw_goal ?_
   refine xw_hit ?_
   refine nw_seq ?_
   refine cw_seq ?_
   refine cw_region ?_
   refine rw_ev (ev_move rfl) rfl rfl rfl ?_
   refine rw_ev (v := .int .i64 (l.length : Int)) (ev_lenm (l := l) ⟨_, f3⟩ rfl el_46 rfl) rfl rfl rfl ?_
   refine rw_ev (ev_leq rfl rfl) rfl rfl rfl ?_
   refine rw_ev (ev_assign rfl) rfl rfl rfl ?_
   refine rw_nil ?_
   refine nw_seq ?_
   refine cw_ret ?_
   refine ret_post (rs := [.tmp 2]) (vs := [.bool (decide ((l.length : Int) ≤ 2000))]) rfl (.tmp rfl .nil) ?_
   refine ⟨?_, K0⟩
   · show (.bool (decide ((l.length : Int) ≤ 2000)) : Value) = _
     have ht : (List.range l.length).all (okAt l) = true := by
       have hz := (show i = l.length from Nat.le_antisymm (by assumption) (by omega)); exact hz ▸ (by assumption)
     unfold rightC; rw [ht, Bool.true_and]; exact congrArg Value.bool (decide_eq_decide.2 (by omega))

theorem c_index (w : World) (v : Value) (l : List Cell) (hv : Sl w (fun b => b < w.heap.size) v 2 (l.map encC)) (c : Cell) : Fn Try.prog 149 [v, .agg #[.int .i64 c.1, .int .i64 c.2]] w (fun v w' => ∃ r : Int, v = .int .i64 r ∧ Ex w w' ∧ (0 ≤ r ↔ hasC l c = true)) := by
  have K0 : Ex w w := Kp.refl _ _
  refine fn_enter (n := 19) Try.func149 rfl rfl (Nat.le_of_ble_eq_true rfl) ?_
  show CW _ _ _ _ _ _ [(0, v), (1, .agg #[.int .i64 c.1, .int .i64 c.2])] _
  have hlv_ := hv.lenm
  refine cw_seq ?_
  refine cw_region ?_
  refine rw_op (op_box (v := .agg #[.int .i64 c.1, .int .i64 c.2]) (cs := #[.int .i64 c.1, .int .i64 c.2]) rfl rfl) rfl rfl rfl ?_
  rintro _ w2 ⟨g1, rfl, hg3, k4, b5⟩
  replace K0 := Ex.trans K0 k4
  replace hv := hv.ex k4
  have zw2 := k4.size
  have lg1 := b5.lt
  refine rw_ev (ev_assign rfl) rfl rfl rfl ?_
  refine rw_nil ?_
  refine nw_seq ?_
  refine cw_seq ?_
  refine cw_seq ?_
  refine cw_region ?_
  refine rw_ev (ev_move rfl) rfl rfl rfl ?_
  refine rw_ev (v := .int .i64 (l.length : Int)) (ev_lenm (l := l) ⟨_, hv⟩ rfl el_46 rfl) rfl rfl rfl ?_
  refine rw_ev (ev_move rfl) rfl rfl rfl ?_
  refine rw_nil ?_
  refine nw_seq ?_
  refine cw_block ?_
  refine cw_loop (σ := Nat) (fun i => [(0, v), (3, .pointer (some ⟨g1, 0, none⟩)), (4, .int .i64 0), (7, .int .i64 (l.length : Int)), (8, .int .i64 (i : Int))]) (fun i wr => Ex w wr ∧ w2.heap.size ≤ wr.heap.size ∧ Sl wr (fun b => b < w.heap.size) v 2 (l.map encC) ∧ Bx wr g1 55 #[.int .i64 c.1, .int .i64 c.2] ∧ hasC (l.take i) c = false) (fun i => l.length - i) 0 (Sub.cons rfl (Sub.cons rfl (Sub.cons rfl (Sub.cons rfl (Sub.int (b := (0 : Int)) rfl (by omega) Sub.nil))))) ⟨K0, (Nat.le_refl _), hv, b5, (by simp [hasC])⟩ ?_
  rintro i w6 ⟨K0, z7, f8, f9, pr10⟩
  show CW _ _ _ _ _ _ [(0, v), (3, .pointer (some ⟨g1, 0, none⟩)), (4, .int .i64 0), (7, .int .i64 (l.length : Int)), (8, .int .i64 (i : Int))] _
  refine cw_seq ?_
  refine cw_region ?_
  refine rw_ev (ev_lss rfl rfl) rfl rfl rfl ?_
  refine rw_nil ?_
  refine nw_seq ?_
  refine cw_seq ?_
  by_cases h11 : (i : Int) < (l.length : Int)
  ·
   refine cw_t (b := decide ((i : Int) < (l.length : Int))) rfl (dec_t h11) ?_
   refine cw_skip ?_
   refine nw_seq ?_
   refine cw_seq ?_
   refine cw_block ?_
   refine cw_seq ?_
   refine cw_region ?_
   refine rw_ev (ev_move rfl) rfl rfl rfl ?_
   refine rw_ev (ev_assign rfl) rfl rfl rfl ?_
   refine rw_nil ?_
   refine nw_seq ?_
   refine cw_seq ?_
   refine cw_drawn (fun w12 w_ => Ex w12 w_) [] (.take 0 (.take 1 (.take 2 (.take 3 (.take 4 (.take 5 .done)))))) mixed (by kernel_rfl) (by kernel_rfl) (Nat.le_of_ble_eq_true (by kernel_rfl)) ?_; intro w12 k13 hs_
   replace K0 := Ex.trans K0 k13
   replace f8 := f8.ex k13
   replace f9 := f9.ex k13
   have zw12 := k13.size
   have hS : (fun w_ => Ex w12 w_) w12 := Kp.refl _ _
   refine rp_take (v := .agg #[.int .i64 c.1, .int .i64 c.2]) hs_ hS rfl rfl (ev_lbk (off := 0) (vs := [.int .i64 c.1, .int .i64 c.2]) (fun _ h => f9.ex h) rfl agg_55 rfl rfl) rfl rfl rfl ?_
   refine rp_take hs_ hS rfl rfl (ev_move rfl) rfl rfl rfl ?_
   refine rp_take hs_ hS rfl rfl (ev_move rfl) rfl rfl rfl ?_
   obtain ⟨c14, hc15⟩ := get_of (l := l) (i := i) (by omega)
   refine rp_take (v := elemPtr v i 2 0) hs_ hS rfl rfl (ev_slAt (i := (i : Int)) ⟨_, (f8.ex hS)⟩ rfl rfl el_46 (idx_ok (i := (i : Int)) hc15 (by omega))) rfl rfl rfl ?_
   refine rp_take (v := .agg #[.int .i64 c14.1, .int .i64 c14.2]) hs_ hS rfl rfl (ev_elLoadk (us := [.int .i64 c14.1, .int .i64 c14.2]) (fun _ h => (f8.ex h)) ⟨_, hS⟩ rfl (get_enc hc15) agg_55 (by decide) rfl rfl) rfl rfl rfl ?_
   refine rp_take hs_ hS rfl rfl (ev_eql_55 rfl rfl) rfl rfl rfl ?_
   refine rp_done ?_
   clear hs_
   refine nw_seq ?_
   by_cases h16 : (c : Cell) = c14
   ·
    refine cw_t (b := decide ((c : Cell) = c14)) rfl (dec_t h16) ?_
    refine cw_seq ?_
    refine cw_region ?_
    refine rw_ev (ev_move rfl) rfl rfl rfl ?_
    refine rw_ev (ev_assign rfl) rfl rfl rfl ?_
    refine rw_nil ?_
    refine nw_seq ?_
    refine cw_ret ?_
    refine ret_post (rs := [.tmp 4]) (vs := [.int .i64 (i : Int)]) rfl (.tmp rfl .nil) ?_
    refine ⟨(i : Int), ?_, K0, ?_⟩
    · show (.int .i64 (i : Int) : Value) = _
      rfl
    · have hx := any_stop (p := fun x => decide (x = c)) (by assumption : l[i]? = some _) (by simp [*]); unfold hasC; rw [hx]; constructor <;> intro <;> first | rfl | omega
   ·
    refine cw_f (b := decide ((c : Cell) = c14)) rfl (dec_f h16) ?_
    refine cw_skip ?_
    refine nw_block ?_
    refine nw_seq ?_
    refine cw_region ?_
    refine rw_ev (ev_add rfl rfl (by omega)) rfl rfl rfl ?_
    refine rw_ev (ev_move rfl) rfl rfl rfl ?_
    refine rw_nil ?_
    exact nw_round (i + 1) (Sub.cons rfl (Sub.cons rfl (Sub.cons rfl (Sub.cons rfl (Sub.int (b := ((i + 1) : Int)) rfl (by omega) Sub.nil))))) ⟨K0, (Nat.le_trans z7 zw12), f8, f9, (by have hs := any_succ (p := fun x => decide (x = c)) (by assumption : l[i]? = some _); simp_all [hasC]; intro hh; simp_all)⟩ (by first | omega | (dsimp only; omega))
  ·
   refine cw_f (b := decide ((i : Int) < (l.length : Int))) rfl (dec_f h11) ?_
   refine cw_exit ?_
   refine xw_seq ?_
   refine xw_goal ?_
   refine xw_hit ?_
   refine nw_seq ?_
   refine cw_seq ?_
   refine cw_region ?_
   refine rw_ev (ev_assign rfl) rfl rfl rfl ?_
   refine rw_nil ?_
   refine nw_seq ?_
   refine cw_ret ?_
   refine ret_post (rs := [.tmp 4]) (vs := [.int .i64 (-1)]) rfl (.tmp rfl .nil) ?_
   refine ⟨(-1), ?_, K0, ?_⟩
   · show (.int .i64 (-1) : Value) = _
     rfl
   · have ht := take_all (by assumption : ¬ (i : Int) < l.length); have hh : hasC l c = false := (by rw [← ht]; assumption); simp [hh]

theorem c_contains (w : World) (v : Value) (l : List Cell) (hv : Sl w (fun b => b < w.heap.size) v 2 (l.map encC)) (c : Cell) : Fn Try.prog 109 [v, .agg #[.int .i64 c.1, .int .i64 c.2]] w (fun v w' =>  v = .bool (hasC l c) ∧ Ex w w') := by
  have K0 : Ex w w := Kp.refl _ _
  refine fn_enter (n := 9) Try.func109 rfl rfl (Nat.le_of_ble_eq_true rfl) ?_
  show CW _ _ _ _ _ _ [(0, v), (1, .agg #[.int .i64 c.1, .int .i64 c.2])] _
  have hlv_ := hv.lenm
  refine cw_seq ?_
  refine cw_region ?_
  refine rw_op (op_box (v := .agg #[.int .i64 c.1, .int .i64 c.2]) (cs := #[.int .i64 c.1, .int .i64 c.2]) rfl rfl) rfl rfl rfl ?_
  rintro _ w2 ⟨g1, rfl, hg3, k4, b5⟩
  replace K0 := Ex.trans K0 k4
  replace hv := hv.ex k4
  have zw2 := k4.size
  have lg1 := b5.lt
  refine rw_ev (ev_assign rfl) rfl rfl rfl ?_
  refine rw_nil ?_
  refine nw_seq ?_
  refine cw_seq ?_
  refine cw_region ?_
  refine rw_ev (ev_move rfl) rfl rfl rfl ?_
  refine rw_ev (v := .agg #[.int .i64 c.1, .int .i64 c.2]) (ev_lbk (off := 0) (vs := [.int .i64 c.1, .int .i64 c.2]) (fun _ h => h ▸ b5) rfl agg_55 rfl rfl) rfl rfl rfl ?_
  refine rw_op (op_fn (xs := [.tmp 5, .tmp 6]) ent_149 rfl (c_index w2 v l (Sl.below hv) c)) rfl rfl rfl ?_
  rintro _ w7 ⟨r6, rfl, k8, pr9⟩
  replace K0 := Ex.trans K0 k8
  replace hv := hv.ex k8
  replace b5 := b5.ex k8
  have zw7 := k8.size
  refine rw_ev (ev_geq rfl rfl) rfl rfl rfl ?_
  refine rw_ev (ev_assign rfl) rfl rfl rfl ?_
  refine rw_nil ?_
  refine nw_seq ?_
  refine cw_ret ?_
  refine ret_post (rs := [.tmp 4]) (vs := [.bool (decide ((0 : Int) ≤ r6))]) rfl (.tmp rfl .nil) ?_
  refine ⟨?_, K0⟩
  · show (.bool (decide ((0 : Int) ≤ r6)) : Value) = _
    exact congrArg Value.bool (Bool.eq_iff_iff.2 (by simp only [decide_eq_true_eq]; assumption))

theorem c_chas (w : World) (v : Value) (l : List Cell) (hv : Sl w (fun b => b < w.heap.size) v 2 (l.map encC)) (c : Cell) : Fn Try.prog 63 [v, .agg #[.int .i64 c.1, .int .i64 c.2]] w (fun v w' =>  v = .bool (hasC l c) ∧ Ex w w') := by
  have K0 : Ex w w := Kp.refl _ _
  refine fn_enter (n := 8) Try.func63 rfl rfl (Nat.le_of_ble_eq_true rfl) ?_
  show CW _ _ _ _ _ _ [(0, v), (1, .agg #[.int .i64 c.1, .int .i64 c.2])] _
  have hlv_ := hv.lenm
  refine cw_seq ?_
  refine cw_region ?_
  refine rw_op (op_box (v := .agg #[.int .i64 c.1, .int .i64 c.2]) (cs := #[.int .i64 c.1, .int .i64 c.2]) rfl rfl) rfl rfl rfl ?_
  rintro _ w2 ⟨g1, rfl, hg3, k4, b5⟩
  replace K0 := Ex.trans K0 k4
  replace hv := hv.ex k4
  have zw2 := k4.size
  have lg1 := b5.lt
  refine rw_ev (ev_assign rfl) rfl rfl rfl ?_
  refine rw_nil ?_
  refine nw_seq ?_
  refine cw_seq ?_
  refine cw_region ?_
  refine rw_ev (ev_move rfl) rfl rfl rfl ?_
  refine rw_ev (v := .agg #[.int .i64 c.1, .int .i64 c.2]) (ev_lbk (off := 0) (vs := [.int .i64 c.1, .int .i64 c.2]) (fun _ h => h ▸ b5) rfl agg_55 rfl rfl) rfl rfl rfl ?_
  refine rw_op (op_fn (xs := [.tmp 5, .tmp 6]) ent_109 rfl (c_contains w2 v l (Sl.below hv) c)) rfl rfl rfl ?_
  rintro _ w6 ⟨rfl, k7⟩
  replace K0 := Ex.trans K0 k7
  replace hv := hv.ex k7
  replace b5 := b5.ex k7
  have zw6 := k7.size
  refine rw_ev (ev_assign rfl) rfl rfl rfl ?_
  refine rw_nil ?_
  refine nw_seq ?_
  refine cw_ret ?_
  refine ret_post (rs := [.tmp 4]) (vs := [.bool (hasC l c)]) rfl (.tmp rfl .nil) ?_
  refine ⟨?_, K0⟩
  · show (.bool (hasC l c) : Value) = _
    rfl

end Go.Proofs.Ythpaadmpgdglnaa
