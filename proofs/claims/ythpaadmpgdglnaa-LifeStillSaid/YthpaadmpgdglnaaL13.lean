/- The law LifeStill: it returns true. Its condition: numbers of 64 bits. -/
import Derived.Test.YthpaadmpgdglnaaFk
import Derived.Test.YthpaadmpgdglnaaDi
import Derived.Test.YthpaadmpgdglnaaKe
namespace Go.Proofs.Ythpaadmpgdglnaa
open Go Go.RowKit
set_option linter.unusedVariables false
set_option linter.unusedSimpArgs false
set_option maxRecDepth 100000
set_option maxHeartbeats 4000000

theorem law_LifeStill (w : World) (x : Int) (y : Int) (rv : Value) (raw : List Cell) (hrv : Sl w (fun b => b < w.heap.size) rv 2 (raw.map encC)) (hrvr : RawOk raw) (n : Int) (hx64 : -9223372036854775808 ≤ x ∧ x ≤ 9223372036854775807) (hy64 : -9223372036854775808 ≤ y ∧ y ≤ 9223372036854775807) (hn64 : -9223372036854775808 ≤ n ∧ n ≤ 9223372036854775807) : Fn Try.prog 13 [.int .i64 x, .int .i64 y, rv, .int .i64 n] w (fun v w' =>  v = .bool true ∧ Ex w w') := by
  have K0 : Ex w w := Kp.refl _ _
  refine fn_enter (n := 137) Try.func13 rfl rfl (Nat.le_of_ble_eq_true rfl) ?_
  show CW _ _ _ _ _ _ [(0, .int .i64 x), (1, .int .i64 y), (2, rv), (3, .int .i64 n)] _
  have hlen_ := set_len raw
  have hx_ := pickI_bd x 1000 (by omega)
  have hy_ := pickI_bd y 1000 (by omega)
  have hn_ := pickI_bd n 11 (by omega)
  obtain ⟨hA1_, hA2_, hA3_, hA4_, hA5_⟩ := still_law raw (pickI x 1000) (pickI y 1000) (pickI n 11) (by omega) (by omega) (by omega)
  unfold blockC lineC at *
  refine cw_seq ?_
  refine cw_region ?_
  refine rw_ev (ev_assign rfl) rfl rfl rfl ?_
  refine rw_nil ?_
  refine nw_seq ?_
  refine cw_seq ?_
  refine cw_region ?_
  refine rw_op (op_fn (xs := []) ent_43 rfl (c_awake2 w )) rfl rfl rfl ?_
  rintro _ w1 ⟨rfl, k2⟩
  replace K0 := Ex.trans K0 k2
  replace hrv := hrv.ex k2
  have zw1 := k2.size
  refine rw_ev (ev_assign rfl) rfl rfl rfl ?_
  refine rw_nil ?_
  refine nw_seq ?_
  refine cw_seq ?_
  refine cw_region ?_
  refine rw_ev (ev_move rfl) rfl rfl rfl ?_
  refine rw_op (op_fn (xs := [.tmp 27, .const (.int .i64 1000)]) ent_46 rfl (c_pick46 w1 x (1000 : Int) (by omega) (by omega))) rfl rfl rfl ?_
  rintro _ w3 ⟨rfl, k4, pr5⟩
  replace K0 := Ex.trans K0 k4
  replace hrv := hrv.ex k4
  have zw3 := k4.size
  refine rw_ev (ev_assign rfl) rfl rfl rfl ?_
  refine rw_nil ?_
  refine nw_seq ?_
  refine cw_seq ?_
  refine cw_region ?_
  refine rw_ev (ev_move rfl) rfl rfl rfl ?_
  refine rw_op (op_fn (xs := [.tmp 29, .const (.int .i64 1000)]) ent_46 rfl (c_pick46 w3 y (1000 : Int) (by omega) (by omega))) rfl rfl rfl ?_
  rintro _ w6 ⟨rfl, k7, pr8⟩
  replace K0 := Ex.trans K0 k7
  replace hrv := hrv.ex k7
  have zw6 := k7.size
  refine rw_ev (ev_assign rfl) rfl rfl rfl ?_
  refine rw_nil ?_
  refine nw_seq ?_
  refine cw_seq ?_
  refine cw_region ?_
  refine rw_ev (ev_move rfl) rfl rfl rfl ?_
  refine rw_ev (ev_move rfl) rfl rfl rfl ?_
  refine rw_ev (v := .agg #[.int .i64 (pickI x (1000 : Int)), .int .i64 (pickI y (1000 : Int))]) (ev_pure rfl rfl (fun _ => by kernel_rfl)) rfl rfl rfl ?_
  refine rw_ev (ev_move rfl) rfl rfl rfl ?_
  refine rw_ev (ev_add rfl rfl (by omega)) rfl rfl rfl ?_
  refine rw_ev (ev_move rfl) rfl rfl rfl ?_
  refine rw_ev (v := .agg #[.int .i64 ((pickI x (1000 : Int)) + 1), .int .i64 (pickI y (1000 : Int))]) (ev_pure rfl rfl (fun _ => by kernel_rfl)) rfl rfl rfl ?_
  refine rw_ev (ev_move rfl) rfl rfl rfl ?_
  refine rw_ev (ev_move rfl) rfl rfl rfl ?_
  refine rw_ev (ev_add rfl rfl (by omega)) rfl rfl rfl ?_
  refine rw_ev (v := .agg #[.int .i64 (pickI x (1000 : Int)), .int .i64 ((pickI y (1000 : Int)) + 1)]) (ev_pure rfl rfl (fun _ => by kernel_rfl)) rfl rfl rfl ?_
  refine rw_ev (ev_move rfl) rfl rfl rfl ?_
  refine rw_ev (ev_add rfl rfl (by omega)) rfl rfl rfl ?_
  refine rw_ev (ev_move rfl) rfl rfl rfl ?_
  refine rw_ev (ev_add rfl rfl (by omega)) rfl rfl rfl ?_
  refine rw_ev (v := .agg #[.int .i64 ((pickI x (1000 : Int)) + 1), .int .i64 ((pickI y (1000 : Int)) + 1)]) (ev_pure rfl rfl (fun _ => by kernel_rfl)) rfl rfl rfl ?_
  refine rw_op (op_buildSlice (E := 55) (m := 4) (pv := #[(0, .agg #[.int .i64 (pickI x (1000 : Int)), .int .i64 (pickI y (1000 : Int))]), (1, .agg #[.int .i64 ((pickI x (1000 : Int)) + 1), .int .i64 (pickI y (1000 : Int))]), (2, .agg #[.int .i64 (pickI x (1000 : Int)), .int .i64 ((pickI y (1000 : Int)) + 1)]), (3, .agg #[.int .i64 ((pickI x (1000 : Int)) + 1), .int .i64 ((pickI y (1000 : Int)) + 1)])]) (cs := #[.int .i64 (pickI x (1000 : Int)), .int .i64 (pickI y (1000 : Int)), .int .i64 ((pickI x (1000 : Int)) + 1), .int .i64 (pickI y (1000 : Int)), .int .i64 (pickI x (1000 : Int)), .int .i64 ((pickI y (1000 : Int)) + 1), .int .i64 ((pickI x (1000 : Int)) + 1), .int .i64 ((pickI y (1000 : Int)) + 1)]) rfl (fun _ => by kernel_rfl)) rfl rfl rfl ?_
  rintro _ w10 ⟨g9, rfl, hg11, k12, b13⟩
  replace K0 := Ex.trans K0 k12
  replace hrv := hrv.ex k12
  have zw10 := k12.size
  have lg9 := b13.lt
  refine rw_ev (ev_assign rfl) rfl rfl rfl ?_
  refine rw_nil ?_
  refine nw_seq ?_
  refine cw_seq ?_
  refine cw_region ?_
  refine rw_ev (ev_move rfl) rfl rfl rfl ?_
  refine rw_ev (ev_move rfl) rfl rfl rfl ?_
  refine rw_ev (v := .agg #[.int .i64 (pickI x (1000 : Int)), .int .i64 (pickI y (1000 : Int))]) (ev_pure rfl rfl (fun _ => by kernel_rfl)) rfl rfl rfl ?_
  refine rw_ev (ev_move rfl) rfl rfl rfl ?_
  refine rw_ev (ev_add rfl rfl (by omega)) rfl rfl rfl ?_
  refine rw_ev (ev_move rfl) rfl rfl rfl ?_
  refine rw_ev (v := .agg #[.int .i64 ((pickI x (1000 : Int)) + 1), .int .i64 (pickI y (1000 : Int))]) (ev_pure rfl rfl (fun _ => by kernel_rfl)) rfl rfl rfl ?_
  refine rw_ev (ev_move rfl) rfl rfl rfl ?_
  refine rw_ev (ev_add rfl rfl (by omega)) rfl rfl rfl ?_
  refine rw_ev (ev_move rfl) rfl rfl rfl ?_
  refine rw_ev (v := .agg #[.int .i64 ((pickI x (1000 : Int)) + 2), .int .i64 (pickI y (1000 : Int))]) (ev_pure rfl rfl (fun _ => by kernel_rfl)) rfl rfl rfl ?_
  refine rw_op (op_buildSlice (E := 55) (m := 3) (pv := #[(0, .agg #[.int .i64 (pickI x (1000 : Int)), .int .i64 (pickI y (1000 : Int))]), (1, .agg #[.int .i64 ((pickI x (1000 : Int)) + 1), .int .i64 (pickI y (1000 : Int))]), (2, .agg #[.int .i64 ((pickI x (1000 : Int)) + 2), .int .i64 (pickI y (1000 : Int))])]) (cs := #[.int .i64 (pickI x (1000 : Int)), .int .i64 (pickI y (1000 : Int)), .int .i64 ((pickI x (1000 : Int)) + 1), .int .i64 (pickI y (1000 : Int)), .int .i64 ((pickI x (1000 : Int)) + 2), .int .i64 (pickI y (1000 : Int))]) rfl (fun _ => by kernel_rfl)) rfl rfl rfl ?_
  rintro _ w15 ⟨g14, rfl, hg16, k17, b18⟩
  replace K0 := Ex.trans K0 k17
  replace hrv := hrv.ex k17
  replace b13 := b13.ex k17
  have zw15 := k17.size
  have lg14 := b18.lt
  refine rw_ev (ev_assign rfl) rfl rfl rfl ?_
  refine rw_nil ?_
  refine nw_seq ?_
  refine cw_seq ?_
  refine cw_region ?_
  refine rw_ev (ev_move rfl) rfl rfl rfl ?_
  refine rw_op (op_fn (xs := [.tmp 60, .const (.int .i64 11)]) ent_46 rfl (c_pick46 w15 n (11 : Int) (by omega) (by omega))) rfl rfl rfl ?_
  rintro _ w19 ⟨rfl, k20, pr21⟩
  replace K0 := Ex.trans K0 k20
  replace hrv := hrv.ex k20
  replace b13 := b13.ex k20
  replace b18 := b18.ex k20
  have zw19 := k20.size
  refine rw_ev (ev_assign rfl) rfl rfl rfl ?_
  refine rw_nil ?_
  refine nw_seq ?_
  refine cw_seq ?_
  refine cw_region ?_
  refine rw_ev (ev_move rfl) rfl rfl rfl ?_
  refine rw_ev (ev_move rfl) rfl rfl rfl ?_
  refine rw_op (op_fn (xs := [.tmp 63, .tmp 64]) ent_49 rfl (c_run w19 (.slice (some ⟨g9, 0, none⟩) 4 4) ([(pickI x (1000 : Int), pickI y (1000 : Int)), ((pickI x (1000 : Int)) + 1, pickI y (1000 : Int)), (pickI x (1000 : Int), (pickI y (1000 : Int)) + 1), ((pickI x (1000 : Int)) + 1, (pickI y (1000 : Int)) + 1)]) (Sl.below (Bx.slm (A := fun _ => True) (f := encC) (l := [(pickI x (1000 : Int), pickI y (1000 : Int)), ((pickI x (1000 : Int)) + 1, pickI y (1000 : Int)), (pickI x (1000 : Int), (pickI y (1000 : Int)) + 1), ((pickI x (1000 : Int)) + 1, (pickI y (1000 : Int)) + 1)]) b13 trivial (k := 2) (fun _ => rfl) rfl (Nat.le_of_ble_eq_true rfl))) (pickI n (11 : Int)))) rfl rfl rfl ?_
  rintro _ w23 ⟨u22, rfl, k24, sl25⟩
  replace K0 := Ex.trans K0 k24
  replace hrv := hrv.ex k24
  replace b13 := b13.ex k24
  replace b18 := b18.ex k24
  have zw23 := k24.size
  refine rw_ev (ev_move rfl) rfl rfl rfl ?_
  refine rw_ev (ev_extract (vs := #[u22, .int .i64 ((runC ([(pickI x (1000 : Int), pickI y (1000 : Int)), ((pickI x (1000 : Int)) + 1, pickI y (1000 : Int)), (pickI x (1000 : Int), (pickI y (1000 : Int)) + 1), ((pickI x (1000 : Int)) + 1, (pickI y (1000 : Int)) + 1)]) (pickI n (11 : Int))).2)]) rfl rfl) rfl rfl rfl ?_
  refine rw_ev (ev_extract (vs := #[u22, .int .i64 ((runC ([(pickI x (1000 : Int), pickI y (1000 : Int)), ((pickI x (1000 : Int)) + 1, pickI y (1000 : Int)), (pickI x (1000 : Int), (pickI y (1000 : Int)) + 1), ((pickI x (1000 : Int)) + 1, (pickI y (1000 : Int)) + 1)]) (pickI n (11 : Int))).2)]) rfl rfl) rfl rfl rfl ?_
  refine rw_ev (ev_assign rfl) rfl rfl rfl ?_
  refine rw_ev (ev_assign rfl) rfl rfl rfl ?_
  refine rw_nil ?_
  refine nw_seq ?_
  refine cw_seq ?_
  refine cw_region ?_
  refine rw_ev (ev_move rfl) rfl rfl rfl ?_
  refine rw_ev (ev_move rfl) rfl rfl rfl ?_
  refine rw_ev (ev_mul rfl rfl (by omega)) rfl rfl rfl ?_
  refine rw_op (op_fn (xs := [.tmp 69, .tmp 71]) ent_49 rfl (c_run w23 (.slice (some ⟨g14, 0, none⟩) 3 3) ([(pickI x (1000 : Int), pickI y (1000 : Int)), ((pickI x (1000 : Int)) + 1, pickI y (1000 : Int)), ((pickI x (1000 : Int)) + 2, pickI y (1000 : Int))]) (Sl.below (Bx.slm (A := fun _ => True) (f := encC) (l := [(pickI x (1000 : Int), pickI y (1000 : Int)), ((pickI x (1000 : Int)) + 1, pickI y (1000 : Int)), ((pickI x (1000 : Int)) + 2, pickI y (1000 : Int))]) b18 trivial (k := 2) (fun _ => rfl) rfl (Nat.le_of_ble_eq_true rfl))) ((2 : Int) * (pickI n (11 : Int))))) rfl rfl rfl ?_
  rintro _ w27 ⟨u26, rfl, k28, sl29⟩
  replace K0 := Ex.trans K0 k28
  replace hrv := hrv.ex k28
  replace b13 := b13.ex k28
  replace b18 := b18.ex k28
  replace sl25 := sl25.ex k28
  have zw27 := k28.size
  refine rw_ev (ev_move rfl) rfl rfl rfl ?_
  refine rw_ev (ev_extract (vs := #[u26, .int .i64 ((runC ([(pickI x (1000 : Int), pickI y (1000 : Int)), ((pickI x (1000 : Int)) + 1, pickI y (1000 : Int)), ((pickI x (1000 : Int)) + 2, pickI y (1000 : Int))]) ((2 : Int) * (pickI n (11 : Int)))).2)]) rfl rfl) rfl rfl rfl ?_
  refine rw_ev (ev_extract (vs := #[u26, .int .i64 ((runC ([(pickI x (1000 : Int), pickI y (1000 : Int)), ((pickI x (1000 : Int)) + 1, pickI y (1000 : Int)), ((pickI x (1000 : Int)) + 2, pickI y (1000 : Int))]) ((2 : Int) * (pickI n (11 : Int)))).2)]) rfl rfl) rfl rfl rfl ?_
  refine rw_ev (ev_assign rfl) rfl rfl rfl ?_
  refine rw_ev (ev_assign rfl) rfl rfl rfl ?_
  refine rw_nil ?_
  refine nw_seq ?_
  refine cw_seq ?_
  refine cw_region ?_
  refine rw_ev (ev_move rfl) rfl rfl rfl ?_
  refine rw_op (op_fn (xs := [.tmp 76]) ent_44 rfl (c_set w27 rv raw (Sl.below hrv) (by exact hrvr))) rfl rfl rfl ?_
  rintro u30 w31 ⟨_, rfl, k32, sl33⟩
  replace K0 := Ex.trans K0 k32
  replace hrv := hrv.ex k32
  replace b13 := b13.ex k32
  replace b18 := b18.ex k32
  replace sl25 := sl25.ex k32
  replace sl29 := sl29.ex k32
  have zw31 := k32.size
  refine rw_ev (ev_move rfl) rfl rfl rfl ?_
  refine rw_ev (ev_sub rfl rfl (by omega)) rfl rfl rfl ?_
  refine rw_ev (ev_move rfl) rfl rfl rfl ?_
  refine rw_op (op_fn (xs := [.tmp 77, .tmp 79, .tmp 80]) ent_45 rfl (c_shift w31 u30 (setC raw) (Sl.below sl33) ((pickI x (1000 : Int)) - 60) (pickI y (1000 : Int)))) rfl rfl rfl ?_
  rintro _ w35 ⟨u34, rfl, k36, sl37⟩
  replace K0 := Ex.trans K0 k36
  replace hrv := hrv.ex k36
  replace b13 := b13.ex k36
  replace b18 := b18.ex k36
  replace sl25 := sl25.ex k36
  replace sl29 := sl29.ex k36
  replace sl33 := sl33.ex k36
  have zw35 := k36.size
  refine rw_ev (ev_move rfl) rfl rfl rfl ?_
  refine rw_ev (ev_extract (vs := #[u34, .int .i64 ((shiftC (setC raw) ((pickI x (1000 : Int)) - 60) (pickI y (1000 : Int))).2)]) rfl rfl) rfl rfl rfl ?_
  refine rw_ev (ev_extract (vs := #[u34, .int .i64 ((shiftC (setC raw) ((pickI x (1000 : Int)) - 60) (pickI y (1000 : Int))).2)]) rfl rfl) rfl rfl rfl ?_
  refine rw_ev (ev_assign rfl) rfl rfl rfl ?_
  refine rw_ev (ev_assign rfl) rfl rfl rfl ?_
  refine rw_nil ?_
  refine nw_seq ?_
  refine cw_seq ?_
  refine cw_region ?_
  refine rw_ev (ev_move rfl) rfl rfl rfl ?_
  refine rw_ev (ev_assign rfl) rfl rfl rfl ?_
  refine rw_nil ?_
  refine nw_seq ?_
  refine cw_seq ?_
  refine cw_seq ?_
  refine cw_region ?_
  refine rw_ev (ev_assign rfl) rfl rfl rfl ?_
  refine rw_nil ?_
  refine nw_seq ?_
  refine cw_block ?_
  refine cw_loop (σ := Nat × Value) (fun s_ => match s_ with | (i, va) => [(8, .bool false), (9, .bool true), (12, .slice (some ⟨g9, 0, none⟩) 4 4), (13, .slice (some ⟨g14, 0, none⟩) 3 3), (14, .int .i64 (pickI n (11 : Int))), (15, u22), (16, .int .i64 ((runC ([(pickI x (1000 : Int), pickI y (1000 : Int)), ((pickI x (1000 : Int)) + 1, pickI y (1000 : Int)), (pickI x (1000 : Int), (pickI y (1000 : Int)) + 1), ((pickI x (1000 : Int)) + 1, (pickI y (1000 : Int)) + 1)]) (pickI n (11 : Int))).2)), (17, u26), (18, .int .i64 ((runC ([(pickI x (1000 : Int), pickI y (1000 : Int)), ((pickI x (1000 : Int)) + 1, pickI y (1000 : Int)), ((pickI x (1000 : Int)) + 2, pickI y (1000 : Int))]) ((2 : Int) * (pickI n (11 : Int)))).2)), (19, u34), (21, va), (22, .int .i64 (i : Int))]) (fun s_ wr => match s_ with | (i, va) => Ex w wr ∧ w35.heap.size ≤ wr.heap.size ∧ Bx wr g9 55 #[.int .i64 (pickI x (1000 : Int)), .int .i64 (pickI y (1000 : Int)), .int .i64 ((pickI x (1000 : Int)) + 1), .int .i64 (pickI y (1000 : Int)), .int .i64 (pickI x (1000 : Int)), .int .i64 ((pickI y (1000 : Int)) + 1), .int .i64 ((pickI x (1000 : Int)) + 1), .int .i64 ((pickI y (1000 : Int)) + 1)] ∧ Bx wr g14 55 #[.int .i64 (pickI x (1000 : Int)), .int .i64 (pickI y (1000 : Int)), .int .i64 ((pickI x (1000 : Int)) + 1), .int .i64 (pickI y (1000 : Int)), .int .i64 ((pickI x (1000 : Int)) + 2), .int .i64 (pickI y (1000 : Int))] ∧ Sl wr (fun b => w19.heap.size ≤ b ∧ b < w23.heap.size) u22 2 (((runC ([(pickI x (1000 : Int), pickI y (1000 : Int)), ((pickI x (1000 : Int)) + 1, pickI y (1000 : Int)), (pickI x (1000 : Int), (pickI y (1000 : Int)) + 1), ((pickI x (1000 : Int)) + 1, (pickI y (1000 : Int)) + 1)]) (pickI n (11 : Int))).1).map encC) ∧ Sl wr (fun b => w23.heap.size ≤ b ∧ b < w27.heap.size) u26 2 (((runC ([(pickI x (1000 : Int), pickI y (1000 : Int)), ((pickI x (1000 : Int)) + 1, pickI y (1000 : Int)), ((pickI x (1000 : Int)) + 2, pickI y (1000 : Int))]) ((2 : Int) * (pickI n (11 : Int)))).1).map encC) ∧ Sl wr (fun b => w31.heap.size ≤ b ∧ b < w35.heap.size) u34 2 (((shiftC (setC raw) ((pickI x (1000 : Int)) - 60) (pickI y (1000 : Int))).1).map encC) ∧ Sl wr (fun _ => True) va 2 (((((shiftC (setC raw) ((pickI x 1000) - 60) (pickI y 1000)).1).take i).foldl putC [((pickI x 1000), (pickI y 1000)), ((pickI x 1000) + 1, (pickI y 1000)), ((pickI x 1000), (pickI y 1000) + 1), ((pickI x 1000) + 1, (pickI y 1000) + 1)]).map encC) ∧ i ≤ ((shiftC (setC raw) ((pickI x 1000) - 60) (pickI y 1000)).1).length) (fun s_ => match s_ with | (i, va) => ((shiftC (setC raw) ((pickI x 1000) - 60) (pickI y 1000)).1).length - i) (0, .slice (some ⟨g9, 0, none⟩) 4 4) (Sub.cons rfl (Sub.cons rfl (Sub.cons rfl (Sub.cons rfl (Sub.cons rfl (Sub.cons rfl (Sub.cons rfl (Sub.cons rfl (Sub.cons rfl (Sub.cons rfl (Sub.cons rfl (Sub.int (b := (0 : Int)) rfl (by omega) Sub.nil)))))))))))) ⟨K0, (Nat.le_refl _), b13, b18, sl25, sl29, sl37, (by have hq := (Bx.slm (A := fun _ => True) (f := encC) (l := [((pickI x 1000), (pickI y 1000)), ((pickI x 1000) + 1, (pickI y 1000)), ((pickI x 1000), (pickI y 1000) + 1), ((pickI x 1000) + 1, (pickI y 1000) + 1)]) b13 trivial (k := 2) (fun _ => rfl) rfl (Nat.le_of_ble_eq_true rfl)); first | exact hq | (rw [take_succ_fold (by assumption : ((shiftC (setC raw) ((pickI x 1000) - 60) (pickI y 1000)).1)[i]? = some _)]; exact hq)), (by omega)⟩ ?_
  rintro ⟨i, va⟩ w38 ⟨K0, z39, f40, f41, f42, f43, f44, f45, pr46⟩
  show CW _ _ _ _ _ _ [(8, .bool false), (9, .bool true), (12, .slice (some ⟨g9, 0, none⟩) 4 4), (13, .slice (some ⟨g14, 0, none⟩) 3 3), (14, .int .i64 (pickI n (11 : Int))), (15, u22), (16, .int .i64 ((runC ([(pickI x (1000 : Int), pickI y (1000 : Int)), ((pickI x (1000 : Int)) + 1, pickI y (1000 : Int)), (pickI x (1000 : Int), (pickI y (1000 : Int)) + 1), ((pickI x (1000 : Int)) + 1, (pickI y (1000 : Int)) + 1)]) (pickI n (11 : Int))).2)), (17, u26), (18, .int .i64 ((runC ([(pickI x (1000 : Int), pickI y (1000 : Int)), ((pickI x (1000 : Int)) + 1, pickI y (1000 : Int)), ((pickI x (1000 : Int)) + 2, pickI y (1000 : Int))]) ((2 : Int) * (pickI n (11 : Int)))).2)), (19, u34), (21, va), (22, .int .i64 (i : Int))] _
  refine cw_seq ?_
  refine cw_seq ?_
  refine cw_region ?_
  refine rw_ev (ev_move rfl) rfl rfl rfl ?_
  refine rw_ev (ev_move rfl) rfl rfl rfl ?_
  refine rw_ev (v := .int .i64 (((shiftC (setC raw) ((pickI x (1000 : Int)) - 60) (pickI y (1000 : Int))).1).length : Int)) (ev_lenm (l := (shiftC (setC raw) ((pickI x (1000 : Int)) - 60) (pickI y (1000 : Int))).1) ⟨_, f44⟩ rfl el_46 rfl) rfl rfl rfl ?_
  refine rw_ev (ev_lss (q := (((shiftC (setC raw) ((pickI x (1000 : Int)) - 60) (pickI y (1000 : Int))).1).length : Int)) rfl rfl) rfl rfl rfl ?_
  refine rw_nil ?_
  refine nw_seq ?_
  by_cases h47 : (i : Int) < (((shiftC (setC raw) ((pickI x (1000 : Int)) - 60) (pickI y (1000 : Int))).1).length : Int)
  ·
   refine cw_t (b := decide ((i : Int) < (((shiftC (setC raw) ((pickI x (1000 : Int)) - 60) (pickI y (1000 : Int))).1).length : Int))) rfl (dec_t h47) ?_
   refine cw_skip ?_
   refine nw_seq ?_
   refine cw_seq ?_
   refine cw_block ?_
   refine cw_region ?_
   refine rw_ev (ev_move rfl) rfl rfl rfl ?_
   refine rw_ev (ev_move rfl) rfl rfl rfl ?_
   refine rw_ev (ev_move rfl) rfl rfl rfl ?_
   obtain ⟨c48, hc49⟩ := get_of (l := (shiftC (setC raw) ((pickI x (1000 : Int)) - 60) (pickI y (1000 : Int))).1) (i := i) (by omega)
   refine rw_ev (v := elemPtr u34 i 2 0) (ev_slAt (i := (i : Int)) ⟨_, f44⟩ rfl rfl el_46 (idx_ok (i := (i : Int)) hc49 (by omega))) rfl rfl rfl ?_
   refine rw_ev (v := .agg #[.int .i64 c48.1, .int .i64 c48.2]) (ev_elLoadk (us := [.int .i64 c48.1, .int .i64 c48.2]) (fun _ h => h ▸ f44) ⟨_, rfl⟩ rfl (get_enc (f := encC) hc49) agg_55 (by decide) rfl rfl) rfl rfl rfl ?_
   refine rw_op (op_fn (xs := [.tmp 91, .tmp 95]) ent_41 rfl (c_put w38 va ((((shiftC (setC raw) ((pickI x 1000) - 60) (pickI y 1000)).1).take i).foldl putC [((pickI x 1000), (pickI y 1000)), ((pickI x 1000) + 1, (pickI y 1000)), ((pickI x 1000), (pickI y 1000) + 1), ((pickI x 1000) + 1, (pickI y 1000) + 1)]) (Sl.below f45) c48 (by have hp_ := putAll_len (((shiftC (setC raw) ((pickI x 1000) - 60) (pickI y 1000)).1).take i) [((pickI x 1000), (pickI y 1000)), ((pickI x 1000) + 1, (pickI y 1000)), ((pickI x 1000), (pickI y 1000) + 1), ((pickI x 1000) + 1, (pickI y 1000) + 1)]; simp only [List.length_take, List.length_cons, List.length_nil] at hp_; omega))) rfl rfl rfl ?_
   rintro u50 w51 ⟨_, rfl, k52, sl53⟩
   replace K0 := Ex.trans K0 k52
   replace f40 := f40.ex k52
   replace f41 := f41.ex k52
   replace f42 := f42.ex k52
   replace f43 := f43.ex k52
   replace f44 := f44.ex k52
   replace f45 := f45.ex k52
   have zw51 := k52.size
   refine rw_ev (ev_assign rfl) rfl rfl rfl ?_
   refine rw_nil ?_
   refine nw_block ?_
   refine nw_seq ?_
   refine cw_region ?_
   refine rw_ev (ev_move rfl) rfl rfl rfl ?_
   refine rw_ev (ev_add rfl rfl (by omega)) rfl rfl rfl ?_
   refine rw_ev (ev_assign rfl) rfl rfl rfl ?_
   refine rw_nil ?_
   exact nw_round ((i + 1), u50) (Sub.cons rfl (Sub.cons rfl (Sub.cons rfl (Sub.cons rfl (Sub.cons rfl (Sub.cons rfl (Sub.cons rfl (Sub.cons rfl (Sub.cons rfl (Sub.cons rfl (Sub.cons rfl (Sub.int (b := ((i + 1) : Int)) rfl (by omega) Sub.nil)))))))))))) ⟨K0, (Nat.le_trans z39 zw51), f40, f41, f42, f43, f44, (by have hq := (Sl.mono (A' := fun _ => True) sl53 (fun _ _ _ => trivial)); first | exact hq | (rw [take_succ_fold (by assumption : ((shiftC (setC raw) ((pickI x 1000) - 60) (pickI y 1000)).1)[i]? = some _)]; exact hq)), (by omega)⟩ (by first | omega | (dsimp only; omega))
  ·
   refine cw_f (b := decide ((i : Int) < (((shiftC (setC raw) ((pickI x (1000 : Int)) - 60) (pickI y (1000 : Int))).1).length : Int))) rfl (dec_f h47) ?_
   refine cw_exit ?_
   refine xw_seq ?_
   refine xw_goal ?_
   refine xw_hit ?_
   refine nw_seq ?_
   refine cw_seq ?_
   refine cw_region ?_
   refine rw_ev (ev_move rfl) rfl rfl rfl ?_
   refine rw_ev (ev_move rfl) rfl rfl rfl ?_
   refine rw_op (op_fn (xs := [.tmp 98, .tmp 99]) ent_49 rfl (c_run w38 va ((((shiftC (setC raw) ((pickI x 1000) - 60) (pickI y 1000)).1).take i).foldl putC [((pickI x 1000), (pickI y 1000)), ((pickI x 1000) + 1, (pickI y 1000)), ((pickI x 1000), (pickI y 1000) + 1), ((pickI x 1000) + 1, (pickI y 1000) + 1)]) (Sl.below f45) (pickI n (11 : Int)))) rfl rfl rfl ?_
   rintro _ w55 ⟨u54, rfl, k56, sl57⟩
   replace K0 := Ex.trans K0 k56
   replace f40 := f40.ex k56
   replace f41 := f41.ex k56
   replace f42 := f42.ex k56
   replace f43 := f43.ex k56
   replace f45 := f45.ex k56
   have zw55 := k56.size
   refine rw_ev (ev_move rfl) rfl rfl rfl ?_
   refine rw_ev (ev_extract (vs := #[u54, .int .i64 ((runC ((((shiftC (setC raw) ((pickI x 1000) - 60) (pickI y 1000)).1).take i).foldl putC [((pickI x 1000), (pickI y 1000)), ((pickI x 1000) + 1, (pickI y 1000)), ((pickI x 1000), (pickI y 1000) + 1), ((pickI x 1000) + 1, (pickI y 1000) + 1)]) (pickI n (11 : Int))).2)]) rfl rfl) rfl rfl rfl ?_
   refine rw_ev (ev_extract (vs := #[u54, .int .i64 ((runC ((((shiftC (setC raw) ((pickI x 1000) - 60) (pickI y 1000)).1).take i).foldl putC [((pickI x 1000), (pickI y 1000)), ((pickI x 1000) + 1, (pickI y 1000)), ((pickI x 1000), (pickI y 1000) + 1), ((pickI x 1000) + 1, (pickI y 1000) + 1)]) (pickI n (11 : Int))).2)]) rfl rfl) rfl rfl rfl ?_
   refine rw_ev (ev_assign rfl) rfl rfl rfl ?_
   refine rw_ev (ev_assign rfl) rfl rfl rfl ?_
   refine rw_nil ?_
   refine nw_seq ?_
   refine cw_seq ?_
   refine cw_seq ?_
   refine cw_region ?_
   refine rw_ev (ev_assign rfl) rfl rfl rfl ?_
   refine rw_nil ?_
   refine nw_seq ?_
   refine cw_block ?_
   refine cw_rounds 4 ?_
   refine cw_seq ?_
   refine cw_seq ?_
   refine cw_region ?_
   refine rw_ev (ev_move rfl) rfl rfl rfl ?_
   refine rw_ev (v := .bool true) (ev_lss (p := 0) (q := 4) rfl rfl) rfl rfl rfl ?_
   refine rw_nil ?_
   refine nw_seq ?_
   refine cw_t (b := true) rfl rfl ?_
   refine cw_skip ?_
   refine nw_seq ?_
   refine cw_seq ?_
   refine cw_block ?_
   refine cw_seq ?_
   refine cw_region ?_
   refine rw_ev (ev_move rfl) rfl rfl rfl ?_
   refine rw_ev (ev_move rfl) rfl rfl rfl ?_
   refine rw_ev (ev_move rfl) rfl rfl rfl ?_
   refine rw_ev (v := .pointer (some ⟨g9, 0, none⟩)) (ev_litAt (i := 0) rfl rfl el_46 (by decide) 0 rfl) rfl rfl rfl ?_
   refine rw_ev (v := .agg #[.int .i64 (pickI x (1000 : Int)), .int .i64 (pickI y (1000 : Int))]) (ev_lbk (off := 0) (vs := [.int .i64 (pickI x (1000 : Int)), .int .i64 (pickI y (1000 : Int))]) (fun _ h => h ▸ f40) rfl agg_55 rfl rfl) rfl rfl rfl ?_
   refine rw_op (op_fn (xs := [.tmp 107, .tmp 111]) ent_55 rfl (c_has w55 u54 ((runC ((((shiftC (setC raw) ((pickI x 1000) - 60) (pickI y 1000)).1).take i).foldl putC [((pickI x 1000), (pickI y 1000)), ((pickI x 1000) + 1, (pickI y 1000)), ((pickI x 1000), (pickI y 1000) + 1), ((pickI x 1000) + 1, (pickI y 1000) + 1)]) (pickI n (11 : Int))).1) (Sl.below sl57) (pickI x (1000 : Int), pickI y (1000 : Int)))) rfl rfl rfl ?_
   rintro _ w58 ⟨rfl, k59⟩
   replace K0 := Ex.trans K0 k59
   replace f40 := f40.ex k59
   replace f41 := f41.ex k59
   replace f42 := f42.ex k59
   replace f43 := f43.ex k59
   replace sl57 := sl57.ex k59
   have zw58 := k59.size
   refine rw_ev (ev_not (b := hasC ((runC ((((shiftC (setC raw) ((pickI x 1000) - 60) (pickI y 1000)).1).take i).foldl putC [((pickI x 1000), (pickI y 1000)), ((pickI x 1000) + 1, (pickI y 1000)), ((pickI x 1000), (pickI y 1000) + 1), ((pickI x 1000) + 1, (pickI y 1000) + 1)]) (pickI n (11 : Int))).1) (pickI x (1000 : Int), pickI y (1000 : Int))) rfl rfl) rfl rfl rfl ?_
   refine rw_nil ?_
   refine nw_seq ?_
   refine cw_f (b := !(hasC ((runC ((((shiftC (setC raw) ((pickI x 1000) - 60) (pickI y 1000)).1).take i).foldl putC [((pickI x 1000), (pickI y 1000)), ((pickI x 1000) + 1, (pickI y 1000)), ((pickI x 1000), (pickI y 1000) + 1), ((pickI x 1000) + 1, (pickI y 1000) + 1)]) (pickI n (11 : Int))).1) (pickI x (1000 : Int), pickI y (1000 : Int)))) rfl (not_f (by rw [take_all (by assumption : ¬ (i : Int) < (((shiftC (setC raw) ((pickI x 1000) - 60) (pickI y 1000)).1).length : Int))]; exact hA5_ _ (by simp))) ?_
   refine cw_skip ?_
   refine nw_block ?_
   refine nw_seq ?_
   refine cw_region ?_
   refine rw_ev (ev_move rfl) rfl rfl rfl ?_
   refine rw_ev (v := .int .i64 1) (ev_add (p := 0) (q := 1) rfl rfl (by decide)) rfl rfl rfl ?_
   refine rw_ev (v := .int .i64 1) (ev_assign rfl) rfl rfl rfl ?_
   refine rw_nil ?_
   refine nw_again ?_
   refine cw_sub (e' := [(8, .bool false), (9, .bool true), (12, .slice (some ⟨g9, 0, none⟩) 4 4), (13, .slice (some ⟨g14, 0, none⟩) 3 3), (15, u22), (16, .int .i64 ((runC ([(pickI x (1000 : Int), pickI y (1000 : Int)), ((pickI x (1000 : Int)) + 1, pickI y (1000 : Int)), (pickI x (1000 : Int), (pickI y (1000 : Int)) + 1), ((pickI x (1000 : Int)) + 1, (pickI y (1000 : Int)) + 1)]) (pickI n (11 : Int))).2)), (17, u26), (18, .int .i64 ((runC ([(pickI x (1000 : Int), pickI y (1000 : Int)), ((pickI x (1000 : Int)) + 1, pickI y (1000 : Int)), ((pickI x (1000 : Int)) + 2, pickI y (1000 : Int))]) ((2 : Int) * (pickI n (11 : Int)))).2)), (23, u54), (24, .int .i64 ((runC ((((shiftC (setC raw) ((pickI x 1000) - 60) (pickI y 1000)).1).take i).foldl putC [((pickI x 1000), (pickI y 1000)), ((pickI x 1000) + 1, (pickI y 1000)), ((pickI x 1000), (pickI y 1000) + 1), ((pickI x 1000) + 1, (pickI y 1000) + 1)]) (pickI n (11 : Int))).2)), (25, .int .i64 1)]) (Sub.cons rfl (Sub.cons rfl (Sub.cons rfl (Sub.cons rfl (Sub.cons rfl (Sub.cons rfl (Sub.cons rfl (Sub.cons rfl (Sub.cons rfl (Sub.cons rfl (Sub.cons rfl Sub.nil))))))))))) ?_
   refine cw_seq ?_
   refine cw_seq ?_
   refine cw_region ?_
   refine rw_ev (v := .int .i64 1) (ev_move rfl) rfl rfl rfl ?_
   refine rw_ev (v := .bool true) (ev_lss (p := 1) (q := 4) rfl rfl) rfl rfl rfl ?_
   refine rw_nil ?_
   refine nw_seq ?_
   refine cw_t (b := true) rfl rfl ?_
   refine cw_skip ?_
   refine nw_seq ?_
   refine cw_seq ?_
   refine cw_block ?_
   refine cw_seq ?_
   refine cw_region ?_
   refine rw_ev (ev_move rfl) rfl rfl rfl ?_
   refine rw_ev (ev_move rfl) rfl rfl rfl ?_
   refine rw_ev (v := .int .i64 1) (ev_move rfl) rfl rfl rfl ?_
   refine rw_ev (v := .pointer (some ⟨g9, 2, none⟩)) (ev_litAt (i := 1) rfl rfl el_46 (by decide) 2 rfl) rfl rfl rfl ?_
   refine rw_ev (v := .agg #[.int .i64 ((pickI x (1000 : Int)) + 1), .int .i64 (pickI y (1000 : Int))]) (ev_lbk (off := 2) (vs := [.int .i64 ((pickI x (1000 : Int)) + 1), .int .i64 (pickI y (1000 : Int))]) (fun _ h => h ▸ f40) rfl agg_55 rfl rfl) rfl rfl rfl ?_
   refine rw_op (op_fn (xs := [.tmp 107, .tmp 111]) ent_55 rfl (c_has w58 u54 ((runC ((((shiftC (setC raw) ((pickI x 1000) - 60) (pickI y 1000)).1).take i).foldl putC [((pickI x 1000), (pickI y 1000)), ((pickI x 1000) + 1, (pickI y 1000)), ((pickI x 1000), (pickI y 1000) + 1), ((pickI x 1000) + 1, (pickI y 1000) + 1)]) (pickI n (11 : Int))).1) (Sl.below sl57) ((pickI x (1000 : Int)) + 1, pickI y (1000 : Int)))) rfl rfl rfl ?_
   rintro _ w60 ⟨rfl, k61⟩
   replace K0 := Ex.trans K0 k61
   replace f40 := f40.ex k61
   replace f41 := f41.ex k61
   replace f42 := f42.ex k61
   replace f43 := f43.ex k61
   replace sl57 := sl57.ex k61
   have zw60 := k61.size
   refine rw_ev (ev_not (b := hasC ((runC ((((shiftC (setC raw) ((pickI x 1000) - 60) (pickI y 1000)).1).take i).foldl putC [((pickI x 1000), (pickI y 1000)), ((pickI x 1000) + 1, (pickI y 1000)), ((pickI x 1000), (pickI y 1000) + 1), ((pickI x 1000) + 1, (pickI y 1000) + 1)]) (pickI n (11 : Int))).1) ((pickI x (1000 : Int)) + 1, pickI y (1000 : Int))) rfl rfl) rfl rfl rfl ?_
   refine rw_nil ?_
   refine nw_seq ?_
   refine cw_f (b := !(hasC ((runC ((((shiftC (setC raw) ((pickI x 1000) - 60) (pickI y 1000)).1).take i).foldl putC [((pickI x 1000), (pickI y 1000)), ((pickI x 1000) + 1, (pickI y 1000)), ((pickI x 1000), (pickI y 1000) + 1), ((pickI x 1000) + 1, (pickI y 1000) + 1)]) (pickI n (11 : Int))).1) ((pickI x (1000 : Int)) + 1, pickI y (1000 : Int)))) rfl (not_f (by rw [take_all (by assumption : ¬ (i : Int) < (((shiftC (setC raw) ((pickI x 1000) - 60) (pickI y 1000)).1).length : Int))]; exact hA5_ _ (by simp))) ?_
   refine cw_skip ?_
   refine nw_block ?_
   refine nw_seq ?_
   refine cw_region ?_
   refine rw_ev (v := .int .i64 1) (ev_move rfl) rfl rfl rfl ?_
   refine rw_ev (v := .int .i64 2) (ev_add (p := 1) (q := 1) rfl rfl (by decide)) rfl rfl rfl ?_
   refine rw_ev (v := .int .i64 2) (ev_assign rfl) rfl rfl rfl ?_
   refine rw_nil ?_
   refine nw_again ?_
   refine cw_sub (e' := [(8, .bool false), (9, .bool true), (12, .slice (some ⟨g9, 0, none⟩) 4 4), (13, .slice (some ⟨g14, 0, none⟩) 3 3), (15, u22), (16, .int .i64 ((runC ([(pickI x (1000 : Int), pickI y (1000 : Int)), ((pickI x (1000 : Int)) + 1, pickI y (1000 : Int)), (pickI x (1000 : Int), (pickI y (1000 : Int)) + 1), ((pickI x (1000 : Int)) + 1, (pickI y (1000 : Int)) + 1)]) (pickI n (11 : Int))).2)), (17, u26), (18, .int .i64 ((runC ([(pickI x (1000 : Int), pickI y (1000 : Int)), ((pickI x (1000 : Int)) + 1, pickI y (1000 : Int)), ((pickI x (1000 : Int)) + 2, pickI y (1000 : Int))]) ((2 : Int) * (pickI n (11 : Int)))).2)), (23, u54), (24, .int .i64 ((runC ((((shiftC (setC raw) ((pickI x 1000) - 60) (pickI y 1000)).1).take i).foldl putC [((pickI x 1000), (pickI y 1000)), ((pickI x 1000) + 1, (pickI y 1000)), ((pickI x 1000), (pickI y 1000) + 1), ((pickI x 1000) + 1, (pickI y 1000) + 1)]) (pickI n (11 : Int))).2)), (25, .int .i64 2)]) (Sub.cons rfl (Sub.cons rfl (Sub.cons rfl (Sub.cons rfl (Sub.cons rfl (Sub.cons rfl (Sub.cons rfl (Sub.cons rfl (Sub.cons rfl (Sub.cons rfl (Sub.cons rfl Sub.nil))))))))))) ?_
   refine cw_seq ?_
   refine cw_seq ?_
   refine cw_region ?_
   refine rw_ev (v := .int .i64 2) (ev_move rfl) rfl rfl rfl ?_
   refine rw_ev (v := .bool true) (ev_lss (p := 2) (q := 4) rfl rfl) rfl rfl rfl ?_
   refine rw_nil ?_
   refine nw_seq ?_
   refine cw_t (b := true) rfl rfl ?_
   refine cw_skip ?_
   refine nw_seq ?_
   refine cw_seq ?_
   refine cw_block ?_
   refine cw_seq ?_
   refine cw_region ?_
   refine rw_ev (ev_move rfl) rfl rfl rfl ?_
   refine rw_ev (ev_move rfl) rfl rfl rfl ?_
   refine rw_ev (v := .int .i64 2) (ev_move rfl) rfl rfl rfl ?_
   refine rw_ev (v := .pointer (some ⟨g9, 4, none⟩)) (ev_litAt (i := 2) rfl rfl el_46 (by decide) 4 rfl) rfl rfl rfl ?_
   refine rw_ev (v := .agg #[.int .i64 (pickI x (1000 : Int)), .int .i64 ((pickI y (1000 : Int)) + 1)]) (ev_lbk (off := 4) (vs := [.int .i64 (pickI x (1000 : Int)), .int .i64 ((pickI y (1000 : Int)) + 1)]) (fun _ h => h ▸ f40) rfl agg_55 rfl rfl) rfl rfl rfl ?_
   refine rw_op (op_fn (xs := [.tmp 107, .tmp 111]) ent_55 rfl (c_has w60 u54 ((runC ((((shiftC (setC raw) ((pickI x 1000) - 60) (pickI y 1000)).1).take i).foldl putC [((pickI x 1000), (pickI y 1000)), ((pickI x 1000) + 1, (pickI y 1000)), ((pickI x 1000), (pickI y 1000) + 1), ((pickI x 1000) + 1, (pickI y 1000) + 1)]) (pickI n (11 : Int))).1) (Sl.below sl57) (pickI x (1000 : Int), (pickI y (1000 : Int)) + 1))) rfl rfl rfl ?_
   rintro _ w62 ⟨rfl, k63⟩
   replace K0 := Ex.trans K0 k63
   replace f40 := f40.ex k63
   replace f41 := f41.ex k63
   replace f42 := f42.ex k63
   replace f43 := f43.ex k63
   replace sl57 := sl57.ex k63
   have zw62 := k63.size
   refine rw_ev (ev_not (b := hasC ((runC ((((shiftC (setC raw) ((pickI x 1000) - 60) (pickI y 1000)).1).take i).foldl putC [((pickI x 1000), (pickI y 1000)), ((pickI x 1000) + 1, (pickI y 1000)), ((pickI x 1000), (pickI y 1000) + 1), ((pickI x 1000) + 1, (pickI y 1000) + 1)]) (pickI n (11 : Int))).1) (pickI x (1000 : Int), (pickI y (1000 : Int)) + 1)) rfl rfl) rfl rfl rfl ?_
   refine rw_nil ?_
   refine nw_seq ?_
   refine cw_f (b := !(hasC ((runC ((((shiftC (setC raw) ((pickI x 1000) - 60) (pickI y 1000)).1).take i).foldl putC [((pickI x 1000), (pickI y 1000)), ((pickI x 1000) + 1, (pickI y 1000)), ((pickI x 1000), (pickI y 1000) + 1), ((pickI x 1000) + 1, (pickI y 1000) + 1)]) (pickI n (11 : Int))).1) (pickI x (1000 : Int), (pickI y (1000 : Int)) + 1))) rfl (not_f (by rw [take_all (by assumption : ¬ (i : Int) < (((shiftC (setC raw) ((pickI x 1000) - 60) (pickI y 1000)).1).length : Int))]; exact hA5_ _ (by simp))) ?_
   refine cw_skip ?_
   refine nw_block ?_
   refine nw_seq ?_
   refine cw_region ?_
   refine rw_ev (v := .int .i64 2) (ev_move rfl) rfl rfl rfl ?_
   refine rw_ev (v := .int .i64 3) (ev_add (p := 2) (q := 1) rfl rfl (by decide)) rfl rfl rfl ?_
   refine rw_ev (v := .int .i64 3) (ev_assign rfl) rfl rfl rfl ?_
   refine rw_nil ?_
   refine nw_again ?_
   refine cw_sub (e' := [(8, .bool false), (9, .bool true), (12, .slice (some ⟨g9, 0, none⟩) 4 4), (13, .slice (some ⟨g14, 0, none⟩) 3 3), (15, u22), (16, .int .i64 ((runC ([(pickI x (1000 : Int), pickI y (1000 : Int)), ((pickI x (1000 : Int)) + 1, pickI y (1000 : Int)), (pickI x (1000 : Int), (pickI y (1000 : Int)) + 1), ((pickI x (1000 : Int)) + 1, (pickI y (1000 : Int)) + 1)]) (pickI n (11 : Int))).2)), (17, u26), (18, .int .i64 ((runC ([(pickI x (1000 : Int), pickI y (1000 : Int)), ((pickI x (1000 : Int)) + 1, pickI y (1000 : Int)), ((pickI x (1000 : Int)) + 2, pickI y (1000 : Int))]) ((2 : Int) * (pickI n (11 : Int)))).2)), (23, u54), (24, .int .i64 ((runC ((((shiftC (setC raw) ((pickI x 1000) - 60) (pickI y 1000)).1).take i).foldl putC [((pickI x 1000), (pickI y 1000)), ((pickI x 1000) + 1, (pickI y 1000)), ((pickI x 1000), (pickI y 1000) + 1), ((pickI x 1000) + 1, (pickI y 1000) + 1)]) (pickI n (11 : Int))).2)), (25, .int .i64 3)]) (Sub.cons rfl (Sub.cons rfl (Sub.cons rfl (Sub.cons rfl (Sub.cons rfl (Sub.cons rfl (Sub.cons rfl (Sub.cons rfl (Sub.cons rfl (Sub.cons rfl (Sub.cons rfl Sub.nil))))))))))) ?_
   refine cw_seq ?_
   refine cw_seq ?_
   refine cw_region ?_
   refine rw_ev (v := .int .i64 3) (ev_move rfl) rfl rfl rfl ?_
   refine rw_ev (v := .bool true) (ev_lss (p := 3) (q := 4) rfl rfl) rfl rfl rfl ?_
   refine rw_nil ?_
   refine nw_seq ?_
   refine cw_t (b := true) rfl rfl ?_
   refine cw_skip ?_
   refine nw_seq ?_
   refine cw_seq ?_
   refine cw_block ?_
   refine cw_seq ?_
   refine cw_region ?_
   refine rw_ev (ev_move rfl) rfl rfl rfl ?_
   refine rw_ev (ev_move rfl) rfl rfl rfl ?_
   refine rw_ev (v := .int .i64 3) (ev_move rfl) rfl rfl rfl ?_
   refine rw_ev (v := .pointer (some ⟨g9, 6, none⟩)) (ev_litAt (i := 3) rfl rfl el_46 (by decide) 6 rfl) rfl rfl rfl ?_
   refine rw_ev (v := .agg #[.int .i64 ((pickI x (1000 : Int)) + 1), .int .i64 ((pickI y (1000 : Int)) + 1)]) (ev_lbk (off := 6) (vs := [.int .i64 ((pickI x (1000 : Int)) + 1), .int .i64 ((pickI y (1000 : Int)) + 1)]) (fun _ h => h ▸ f40) rfl agg_55 rfl rfl) rfl rfl rfl ?_
   refine rw_op (op_fn (xs := [.tmp 107, .tmp 111]) ent_55 rfl (c_has w62 u54 ((runC ((((shiftC (setC raw) ((pickI x 1000) - 60) (pickI y 1000)).1).take i).foldl putC [((pickI x 1000), (pickI y 1000)), ((pickI x 1000) + 1, (pickI y 1000)), ((pickI x 1000), (pickI y 1000) + 1), ((pickI x 1000) + 1, (pickI y 1000) + 1)]) (pickI n (11 : Int))).1) (Sl.below sl57) ((pickI x (1000 : Int)) + 1, (pickI y (1000 : Int)) + 1))) rfl rfl rfl ?_
   rintro _ w64 ⟨rfl, k65⟩
   replace K0 := Ex.trans K0 k65
   replace f40 := f40.ex k65
   replace f41 := f41.ex k65
   replace f42 := f42.ex k65
   replace f43 := f43.ex k65
   replace sl57 := sl57.ex k65
   have zw64 := k65.size
   refine rw_ev (ev_not (b := hasC ((runC ((((shiftC (setC raw) ((pickI x 1000) - 60) (pickI y 1000)).1).take i).foldl putC [((pickI x 1000), (pickI y 1000)), ((pickI x 1000) + 1, (pickI y 1000)), ((pickI x 1000), (pickI y 1000) + 1), ((pickI x 1000) + 1, (pickI y 1000) + 1)]) (pickI n (11 : Int))).1) ((pickI x (1000 : Int)) + 1, (pickI y (1000 : Int)) + 1)) rfl rfl) rfl rfl rfl ?_
   refine rw_nil ?_
   refine nw_seq ?_
   refine cw_f (b := !(hasC ((runC ((((shiftC (setC raw) ((pickI x 1000) - 60) (pickI y 1000)).1).take i).foldl putC [((pickI x 1000), (pickI y 1000)), ((pickI x 1000) + 1, (pickI y 1000)), ((pickI x 1000), (pickI y 1000) + 1), ((pickI x 1000) + 1, (pickI y 1000) + 1)]) (pickI n (11 : Int))).1) ((pickI x (1000 : Int)) + 1, (pickI y (1000 : Int)) + 1))) rfl (not_f (by rw [take_all (by assumption : ¬ (i : Int) < (((shiftC (setC raw) ((pickI x 1000) - 60) (pickI y 1000)).1).length : Int))]; exact hA5_ _ (by simp))) ?_
   refine cw_skip ?_
   refine nw_block ?_
   refine nw_seq ?_
   refine cw_region ?_
   refine rw_ev (v := .int .i64 3) (ev_move rfl) rfl rfl rfl ?_
   refine rw_ev (v := .int .i64 4) (ev_add (p := 3) (q := 1) rfl rfl (by decide)) rfl rfl rfl ?_
   refine rw_ev (v := .int .i64 4) (ev_assign rfl) rfl rfl rfl ?_
   refine rw_nil ?_
   refine nw_again ?_
   refine cw_sub (e' := [(8, .bool false), (9, .bool true), (12, .slice (some ⟨g9, 0, none⟩) 4 4), (13, .slice (some ⟨g14, 0, none⟩) 3 3), (15, u22), (16, .int .i64 ((runC ([(pickI x (1000 : Int), pickI y (1000 : Int)), ((pickI x (1000 : Int)) + 1, pickI y (1000 : Int)), (pickI x (1000 : Int), (pickI y (1000 : Int)) + 1), ((pickI x (1000 : Int)) + 1, (pickI y (1000 : Int)) + 1)]) (pickI n (11 : Int))).2)), (17, u26), (18, .int .i64 ((runC ([(pickI x (1000 : Int), pickI y (1000 : Int)), ((pickI x (1000 : Int)) + 1, pickI y (1000 : Int)), ((pickI x (1000 : Int)) + 2, pickI y (1000 : Int))]) ((2 : Int) * (pickI n (11 : Int)))).2)), (23, u54), (24, .int .i64 ((runC ((((shiftC (setC raw) ((pickI x 1000) - 60) (pickI y 1000)).1).take i).foldl putC [((pickI x 1000), (pickI y 1000)), ((pickI x 1000) + 1, (pickI y 1000)), ((pickI x 1000), (pickI y 1000) + 1), ((pickI x 1000) + 1, (pickI y 1000) + 1)]) (pickI n (11 : Int))).2)), (25, .int .i64 4)]) (Sub.cons rfl (Sub.cons rfl (Sub.cons rfl (Sub.cons rfl (Sub.cons rfl (Sub.cons rfl (Sub.cons rfl (Sub.cons rfl (Sub.cons rfl (Sub.cons rfl (Sub.cons rfl Sub.nil))))))))))) ?_
   refine cw_seq ?_
   refine cw_seq ?_
   refine cw_region ?_
   refine rw_ev (v := .int .i64 4) (ev_move rfl) rfl rfl rfl ?_
   refine rw_ev (v := .bool false) (ev_lss (p := 4) (q := 4) rfl rfl) rfl rfl rfl ?_
   refine rw_nil ?_
   refine nw_seq ?_
   refine cw_f (b := false) rfl rfl ?_
   refine cw_exit ?_
   refine xw_seq ?_
   refine xw_again ?_
   refine xw_hit ?_
   refine nw_seq ?_
   refine cw_seq ?_
   refine cw_region ?_
   refine rw_ev (ev_move rfl) rfl rfl rfl ?_
   refine rw_ev (ev_move rfl) rfl rfl rfl ?_
   refine rw_ev (ev_move rfl) rfl rfl rfl ?_
   refine rw_ev (ev_eq (p := (runC ([(pickI x (1000 : Int), pickI y (1000 : Int)), ((pickI x (1000 : Int)) + 1, pickI y (1000 : Int)), (pickI x (1000 : Int), (pickI y (1000 : Int)) + 1), ((pickI x (1000 : Int)) + 1, (pickI y (1000 : Int)) + 1)]) (pickI n (11 : Int))).2) (q := 0) rfl rfl) rfl rfl rfl ?_
   refine rw_ev (ev_pk_t rfl rfl rfl) rfl rfl rfl ?_
   refine rw_ev (ev_move rfl) rfl rfl rfl ?_
   refine rw_ev (ev_move rfl) (gd_tt rfl (dec_t (by first | rw [hA1_] | rw [hA2_]))) rfl rfl ?_
   refine rw_ev (ev_eq (p := (runC ([(pickI x (1000 : Int), pickI y (1000 : Int)), ((pickI x (1000 : Int)) + 1, pickI y (1000 : Int)), ((pickI x (1000 : Int)) + 2, pickI y (1000 : Int))]) ((2 : Int) * (pickI n (11 : Int)))).2) (q := 0) rfl rfl) (gd_tt rfl (dec_t (by first | rw [hA1_] | rw [hA2_]))) rfl rfl ?_
   refine rw_ev (ev_pk_t (b := decide (((runC ([(pickI x (1000 : Int), pickI y (1000 : Int)), ((pickI x (1000 : Int)) + 1, pickI y (1000 : Int)), (pickI x (1000 : Int), (pickI y (1000 : Int)) + 1), ((pickI x (1000 : Int)) + 1, (pickI y (1000 : Int)) + 1)]) (pickI n (11 : Int))).2) = 0)) rfl (dec_t (by first | rw [hA1_] | rw [hA2_])) rfl) rfl rfl rfl ?_
   refine rw_ev (ev_move rfl) rfl rfl rfl ?_
   refine rw_ev (ev_move rfl) (gd_tt rfl (dec_t (by first | rw [hA1_] | rw [hA2_]))) rfl rfl ?_
   refine rw_ev (ev_eq (p := (runC ((((shiftC (setC raw) ((pickI x 1000) - 60) (pickI y 1000)).1).take i).foldl putC [((pickI x 1000), (pickI y 1000)), ((pickI x 1000) + 1, (pickI y 1000)), ((pickI x 1000), (pickI y 1000) + 1), ((pickI x 1000) + 1, (pickI y 1000) + 1)]) (pickI n (11 : Int))).2) (q := 0) rfl rfl) (gd_tt rfl (dec_t (by first | rw [hA1_] | rw [hA2_]))) rfl rfl ?_
   refine rw_ev (ev_pk_t (b := decide (((runC ([(pickI x (1000 : Int), pickI y (1000 : Int)), ((pickI x (1000 : Int)) + 1, pickI y (1000 : Int)), ((pickI x (1000 : Int)) + 2, pickI y (1000 : Int))]) ((2 : Int) * (pickI n (11 : Int)))).2) = 0)) rfl (dec_t (by first | rw [hA1_] | rw [hA2_])) rfl) rfl rfl rfl ?_
   refine rw_ev (ev_move rfl) rfl rfl rfl ?_
   refine rw_ev (ev_move rfl) (gd_tt rfl (dec_t (by rw [take_all (by assumption : ¬ (i : Int) < (((shiftC (setC raw) ((pickI x 1000) - 60) (pickI y 1000)).1).length : Int))]; exact hA4_))) rfl rfl ?_
   refine rw_ev (ev_move rfl) (gd_tt rfl (dec_t (by rw [take_all (by assumption : ¬ (i : Int) < (((shiftC (setC raw) ((pickI x 1000) - 60) (pickI y 1000)).1).length : Int))]; exact hA4_))) rfl rfl ?_
   refine rw_op (op_fn (xs := [.tmp 128, .tmp 129]) ent_37 rfl (c_same w64 u22 ((runC ([(pickI x (1000 : Int), pickI y (1000 : Int)), ((pickI x (1000 : Int)) + 1, pickI y (1000 : Int)), (pickI x (1000 : Int), (pickI y (1000 : Int)) + 1), ((pickI x (1000 : Int)) + 1, (pickI y (1000 : Int)) + 1)]) (pickI n (11 : Int))).1) (Sl.below f42) (.slice (some ⟨g9, 0, none⟩) 4 4) ([(pickI x (1000 : Int), pickI y (1000 : Int)), ((pickI x (1000 : Int)) + 1, pickI y (1000 : Int)), (pickI x (1000 : Int), (pickI y (1000 : Int)) + 1), ((pickI x (1000 : Int)) + 1, (pickI y (1000 : Int)) + 1)]) (Sl.below (Bx.slm (A := fun _ => True) (f := encC) (l := [(pickI x (1000 : Int), pickI y (1000 : Int)), ((pickI x (1000 : Int)) + 1, pickI y (1000 : Int)), (pickI x (1000 : Int), (pickI y (1000 : Int)) + 1), ((pickI x (1000 : Int)) + 1, (pickI y (1000 : Int)) + 1)]) f40 trivial (k := 2) (fun _ => rfl) rfl (Nat.le_of_ble_eq_true rfl))))) (gd_tt rfl (dec_t (by rw [take_all (by assumption : ¬ (i : Int) < (((shiftC (setC raw) ((pickI x 1000) - 60) (pickI y 1000)).1).length : Int))]; exact hA4_))) rfl rfl ?_
   rintro _ w66 ⟨rfl, k67⟩
   replace K0 := Ex.trans K0 k67
   replace f40 := f40.ex k67
   replace f41 := f41.ex k67
   replace f42 := f42.ex k67
   replace f43 := f43.ex k67
   have zw66 := k67.size
   refine rw_ev (ev_pk_t (b := decide (((runC ((((shiftC (setC raw) ((pickI x 1000) - 60) (pickI y 1000)).1).take i).foldl putC [((pickI x 1000), (pickI y 1000)), ((pickI x 1000) + 1, (pickI y 1000)), ((pickI x 1000), (pickI y 1000) + 1), ((pickI x 1000) + 1, (pickI y 1000) + 1)]) (pickI n (11 : Int))).2) = 0)) rfl (dec_t (by rw [take_all (by assumption : ¬ (i : Int) < (((shiftC (setC raw) ((pickI x 1000) - 60) (pickI y 1000)).1).length : Int))]; exact hA4_)) rfl) rfl rfl rfl ?_
   refine rw_ev (ev_move rfl) rfl rfl rfl ?_
   refine rw_ev (ev_move rfl) (gd_tt rfl (by rw [hA1_]; exact same_self _)) rfl rfl ?_
   refine rw_ev (ev_move rfl) (gd_tt rfl (by rw [hA1_]; exact same_self _)) rfl rfl ?_
   refine rw_op (op_fn (xs := [.tmp 133, .tmp 134]) ent_37 rfl (c_same w66 u26 ((runC ([(pickI x (1000 : Int), pickI y (1000 : Int)), ((pickI x (1000 : Int)) + 1, pickI y (1000 : Int)), ((pickI x (1000 : Int)) + 2, pickI y (1000 : Int))]) ((2 : Int) * (pickI n (11 : Int)))).1) (Sl.below f43) (.slice (some ⟨g14, 0, none⟩) 3 3) ([(pickI x (1000 : Int), pickI y (1000 : Int)), ((pickI x (1000 : Int)) + 1, pickI y (1000 : Int)), ((pickI x (1000 : Int)) + 2, pickI y (1000 : Int))]) (Sl.below (Bx.slm (A := fun _ => True) (f := encC) (l := [(pickI x (1000 : Int), pickI y (1000 : Int)), ((pickI x (1000 : Int)) + 1, pickI y (1000 : Int)), ((pickI x (1000 : Int)) + 2, pickI y (1000 : Int))]) f41 trivial (k := 2) (fun _ => rfl) rfl (Nat.le_of_ble_eq_true rfl))))) (gd_tt rfl (by rw [hA1_]; exact same_self _)) rfl rfl ?_
   rintro _ w68 ⟨rfl, k69⟩
   replace K0 := Ex.trans K0 k69
   replace f40 := f40.ex k69
   replace f41 := f41.ex k69
   replace f42 := f42.ex k69
   replace f43 := f43.ex k69
   have zw68 := k69.size
   refine rw_ev (ev_pk_t (b := sameC ((runC ([(pickI x (1000 : Int), pickI y (1000 : Int)), ((pickI x (1000 : Int)) + 1, pickI y (1000 : Int)), (pickI x (1000 : Int), (pickI y (1000 : Int)) + 1), ((pickI x (1000 : Int)) + 1, (pickI y (1000 : Int)) + 1)]) (pickI n (11 : Int))).1) ([(pickI x (1000 : Int), pickI y (1000 : Int)), ((pickI x (1000 : Int)) + 1, pickI y (1000 : Int)), (pickI x (1000 : Int), (pickI y (1000 : Int)) + 1), ((pickI x (1000 : Int)) + 1, (pickI y (1000 : Int)) + 1)])) rfl (by rw [hA1_]; exact same_self _) rfl) rfl rfl rfl ?_
   refine rw_ev (ev_assign rfl) rfl rfl rfl ?_
   refine rw_nil ?_
   refine nw_seq ?_
   refine cw_ret ?_
   refine ret_post (rs := [.tmp 8]) (vs := [.bool (sameC ((runC ([(pickI x (1000 : Int), pickI y (1000 : Int)), ((pickI x (1000 : Int)) + 1, pickI y (1000 : Int)), ((pickI x (1000 : Int)) + 2, pickI y (1000 : Int))]) ((2 : Int) * (pickI n (11 : Int)))).1) ([(pickI x (1000 : Int), pickI y (1000 : Int)), ((pickI x (1000 : Int)) + 1, pickI y (1000 : Int)), ((pickI x (1000 : Int)) + 2, pickI y (1000 : Int))]))]) rfl (.tmp rfl .nil) ?_
   refine ⟨?_, K0⟩
   · show (.bool (sameC ((runC ([(pickI x (1000 : Int), pickI y (1000 : Int)), ((pickI x (1000 : Int)) + 1, pickI y (1000 : Int)), ((pickI x (1000 : Int)) + 2, pickI y (1000 : Int))]) ((2 : Int) * (pickI n (11 : Int)))).1) ([(pickI x (1000 : Int), pickI y (1000 : Int)), ((pickI x (1000 : Int)) + 1, pickI y (1000 : Int)), ((pickI x (1000 : Int)) + 2, pickI y (1000 : Int))])) : Value) = _
     refine congrArg Value.bool ?_
     first | rfl | (rw [hA2_]; exact same_self _)

end Go.Proofs.Ythpaadmpgdglnaa
