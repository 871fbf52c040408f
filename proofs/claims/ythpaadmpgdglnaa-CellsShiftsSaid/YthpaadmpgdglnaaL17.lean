/- The law CellsShifts: it returns true. Its condition: numbers of 64 bits. -/
import Derived.Test.YthpaadmpgdglnaaFg
import Derived.Test.YthpaadmpgdglnaaD9
namespace Go.Proofs.Ythpaadmpgdglnaa
open Go Go.RowKit
set_option linter.unusedVariables false
set_option linter.unusedSimpArgs false
set_option maxRecDepth 100000
set_option maxHeartbeats 4000000

theorem law_CellsShifts (w : World) (rv : Value) (raw : List Cell) (hrv : Sl w (fun b => b < w.heap.size) rv 2 (raw.map encC)) (hrvr : RawOk raw) (dx : Int) (dy : Int) (ex : Int) (ey : Int) (hdx64 : -9223372036854775808 ≤ dx ∧ dx ≤ 9223372036854775807) (hdy64 : -9223372036854775808 ≤ dy ∧ dy ≤ 9223372036854775807) (hex64 : -9223372036854775808 ≤ ex ∧ ex ≤ 9223372036854775807) (hey64 : -9223372036854775808 ≤ ey ∧ ey ≤ 9223372036854775807) : Fn Try.prog 17 [rv, .int .i64 dx, .int .i64 dy, .int .i64 ex, .int .i64 ey] w (fun v w' =>  v = .bool true ∧ Ex w w') := by
  have K0 : Ex w w := Kp.refl _ _
  refine fn_enter (n := 145) Try.func17 rfl rfl (Nat.le_of_ble_eq_true rfl) ?_
  show CW _ _ _ _ _ _ [(0, rv), (1, .int .i64 dx), (2, .int .i64 dy), (3, .int .i64 ex), (4, .int .i64 ey)] _
  have hlen_ := set_len raw
  have hbx_ := set_box raw
  simp only [bX, bY, bW, bH] at hbx_
  obtain ⟨⟨_, _⟩, ⟨_, _⟩, ⟨_, _⟩, ⟨_, _⟩⟩ := hbx_
  have hp_ := pickI_bd dx 549755813888 (by omega)
  have hq_ := pickI_bd dy 549755813888 (by omega)
  have hx_ := pickI_bd ex 1000 (by omega)
  have hy_ := pickI_bd ey 1000 (by omega)
  obtain ⟨⟨hS1_, hS2_, hS3_, hS4_⟩, ⟨hS5_, hS6_, hS7_⟩, ⟨hS8_, hS9_⟩, hSa_⟩ := shifts_law raw (pickI dx 549755813888) (-(pickI dy 549755813888)) (pickI ex 1000) (pickI ey 1000) (by omega) (by omega) (by omega) (by omega)
  simp only [bX, bY, bW, bH] at hSa_
  refine cw_seq ?_
  refine cw_region ?_
  refine rw_ev (ev_assign rfl) rfl rfl rfl ?_
  refine rw_nil ?_
  refine nw_seq ?_
  refine cw_seq ?_
  refine cw_region ?_
  refine rw_op (op_fn (xs := []) ent_56 rfl (c_awake1 w )) rfl rfl rfl ?_
  rintro _ w1 ⟨rfl, k2⟩
  replace K0 := Ex.trans K0 k2
  replace hrv := hrv.ex k2
  have zw1 := k2.size
  refine rw_ev (ev_assign rfl) rfl rfl rfl ?_
  refine rw_nil ?_
  refine nw_seq ?_
  refine cw_seq ?_
  refine cw_region ?_
  refine rw_ev (ev_move rfl) rfl rfl rfl ?_
  refine rw_op (op_fn (xs := [.tmp 28]) ent_44 rfl (c_set w1 rv raw (Sl.below hrv) (by exact hrvr))) rfl rfl rfl ?_
  rintro u3 w4 ⟨_, rfl, k5, sl6⟩
  replace K0 := Ex.trans K0 k5
  replace hrv := hrv.ex k5
  have zw4 := k5.size
  refine rw_ev (ev_assign rfl) rfl rfl rfl ?_
  refine rw_nil ?_
  refine nw_seq ?_
  refine cw_seq ?_
  refine cw_region ?_
  refine rw_ev (ev_move rfl) rfl rfl rfl ?_
  refine rw_op (op_fn (xs := [.tmp 30, .const (.int .i64 549755813888)]) ent_60 rfl (c_pick60 w4 dx (549755813888 : Int) (by omega) (by omega))) rfl rfl rfl ?_
  rintro _ w7 ⟨rfl, k8, pr9⟩
  replace K0 := Ex.trans K0 k8
  replace hrv := hrv.ex k8
  replace sl6 := sl6.ex k8
  have zw7 := k8.size
  refine rw_ev (ev_assign rfl) rfl rfl rfl ?_
  refine rw_nil ?_
  refine nw_seq ?_
  refine cw_seq ?_
  refine cw_region ?_
  refine rw_ev (ev_move rfl) rfl rfl rfl ?_
  refine rw_op (op_fn (xs := [.tmp 32, .const (.int .i64 549755813888)]) ent_60 rfl (c_pick60 w7 dy (549755813888 : Int) (by omega) (by omega))) rfl rfl rfl ?_
  rintro _ w10 ⟨rfl, k11, pr12⟩
  replace K0 := Ex.trans K0 k11
  replace hrv := hrv.ex k11
  replace sl6 := sl6.ex k11
  have zw10 := k11.size
  refine rw_ev (ev_neg rfl (by omega)) rfl rfl rfl ?_
  refine rw_ev (ev_assign rfl) rfl rfl rfl ?_
  refine rw_nil ?_
  refine nw_seq ?_
  refine cw_seq ?_
  refine cw_region ?_
  refine rw_ev (ev_move rfl) rfl rfl rfl ?_
  refine rw_ev (ev_move rfl) rfl rfl rfl ?_
  refine rw_ev (ev_move rfl) rfl rfl rfl ?_
  refine rw_op (op_fn (xs := [.tmp 36, .tmp 37, .tmp 38]) ent_64 rfl (c_cshift w10 u3 (setC raw) (Sl.below sl6) (pickI dx (549755813888 : Int)) (-(pickI dy (549755813888 : Int))) (by omega) (by omega))) rfl rfl rfl ?_
  rintro _ w14 ⟨u13, rfl, k15, sl16⟩
  replace K0 := Ex.trans K0 k15
  replace hrv := hrv.ex k15
  replace sl6 := sl6.ex k15
  have zw14 := k15.size
  refine rw_ev (ev_move rfl) rfl rfl rfl ?_
  refine rw_ev (ev_extract (vs := #[u13, .int .i64 ((shiftC (setC raw) (pickI dx (549755813888 : Int)) (-(pickI dy (549755813888 : Int)))).2)]) rfl rfl) rfl rfl rfl ?_
  refine rw_ev (ev_extract (vs := #[u13, .int .i64 ((shiftC (setC raw) (pickI dx (549755813888 : Int)) (-(pickI dy (549755813888 : Int)))).2)]) rfl rfl) rfl rfl rfl ?_
  refine rw_ev (ev_assign rfl) rfl rfl rfl ?_
  refine rw_ev (ev_assign rfl) rfl rfl rfl ?_
  refine rw_nil ?_
  refine nw_seq ?_
  refine cw_seq ?_
  refine cw_region ?_
  refine rw_ev (ev_move rfl) rfl rfl rfl ?_
  refine rw_ev (ev_move rfl) rfl rfl rfl ?_
  refine rw_ev (ev_neg rfl (by omega)) rfl rfl rfl ?_
  refine rw_ev (ev_move rfl) rfl rfl rfl ?_
  refine rw_ev (ev_neg rfl (by omega)) rfl rfl rfl ?_
  refine rw_op (op_fn (xs := [.tmp 43, .tmp 45, .tmp 47]) ent_64 rfl (c_cshift w14 u13 ((shiftC (setC raw) (pickI dx (549755813888 : Int)) (-(pickI dy (549755813888 : Int)))).1) (Sl.below sl16) (-(pickI dx (549755813888 : Int))) (-(-(pickI dy (549755813888 : Int)))) (by omega) (by omega))) rfl rfl rfl ?_
  rintro _ w18 ⟨u17, rfl, k19, sl20⟩
  replace K0 := Ex.trans K0 k19
  replace hrv := hrv.ex k19
  replace sl6 := sl6.ex k19
  replace sl16 := sl16.ex k19
  have zw18 := k19.size
  refine rw_ev (ev_move rfl) rfl rfl rfl ?_
  refine rw_ev (ev_extract (vs := #[u17, .int .i64 ((shiftC ((shiftC (setC raw) (pickI dx (549755813888 : Int)) (-(pickI dy (549755813888 : Int)))).1) (-(pickI dx (549755813888 : Int))) (-(-(pickI dy (549755813888 : Int))))).2)]) rfl rfl) rfl rfl rfl ?_
  refine rw_ev (ev_extract (vs := #[u17, .int .i64 ((shiftC ((shiftC (setC raw) (pickI dx (549755813888 : Int)) (-(pickI dy (549755813888 : Int)))).1) (-(pickI dx (549755813888 : Int))) (-(-(pickI dy (549755813888 : Int))))).2)]) rfl rfl) rfl rfl rfl ?_
  refine rw_ev (ev_assign rfl) rfl rfl rfl ?_
  refine rw_ev (ev_assign rfl) rfl rfl rfl ?_
  refine rw_nil ?_
  refine nw_seq ?_
  refine cw_seq ?_
  refine cw_region ?_
  refine rw_ev (ev_move rfl) rfl rfl rfl ?_
  refine rw_ev (ev_move rfl) rfl rfl rfl ?_
  refine rw_op (op_fn (xs := [.tmp 53, .const (.int .i64 1000)]) ent_60 rfl (c_pick60 w18 ex (1000 : Int) (by omega) (by omega))) rfl rfl rfl ?_
  rintro _ w21 ⟨rfl, k22, pr23⟩
  replace K0 := Ex.trans K0 k22
  replace hrv := hrv.ex k22
  replace sl6 := sl6.ex k22
  replace sl16 := sl16.ex k22
  replace sl20 := sl20.ex k22
  have zw21 := k22.size
  refine rw_ev (ev_move rfl) rfl rfl rfl ?_
  refine rw_op (op_fn (xs := [.tmp 55, .const (.int .i64 1000)]) ent_60 rfl (c_pick60 w21 ey (1000 : Int) (by omega) (by omega))) rfl rfl rfl ?_
  rintro _ w24 ⟨rfl, k25, pr26⟩
  replace K0 := Ex.trans K0 k25
  replace hrv := hrv.ex k25
  replace sl6 := sl6.ex k25
  replace sl16 := sl16.ex k25
  replace sl20 := sl20.ex k25
  have zw24 := k25.size
  refine rw_op (op_fn (xs := [.tmp 52, .tmp 54, .tmp 56]) ent_64 rfl (c_cshift w24 u13 ((shiftC (setC raw) (pickI dx (549755813888 : Int)) (-(pickI dy (549755813888 : Int)))).1) (Sl.below sl16) (pickI ex (1000 : Int)) (pickI ey (1000 : Int)) (by omega) (by omega))) rfl rfl rfl ?_
  rintro _ w28 ⟨u27, rfl, k29, sl30⟩
  replace K0 := Ex.trans K0 k29
  replace hrv := hrv.ex k29
  replace sl6 := sl6.ex k29
  replace sl16 := sl16.ex k29
  replace sl20 := sl20.ex k29
  have zw28 := k29.size
  refine rw_ev (ev_move rfl) rfl rfl rfl ?_
  refine rw_ev (ev_extract (vs := #[u27, .int .i64 ((shiftC ((shiftC (setC raw) (pickI dx (549755813888 : Int)) (-(pickI dy (549755813888 : Int)))).1) (pickI ex (1000 : Int)) (pickI ey (1000 : Int))).2)]) rfl rfl) rfl rfl rfl ?_
  refine rw_ev (ev_extract (vs := #[u27, .int .i64 ((shiftC ((shiftC (setC raw) (pickI dx (549755813888 : Int)) (-(pickI dy (549755813888 : Int)))).1) (pickI ex (1000 : Int)) (pickI ey (1000 : Int))).2)]) rfl rfl) rfl rfl rfl ?_
  refine rw_ev (ev_assign rfl) rfl rfl rfl ?_
  refine rw_ev (ev_assign rfl) rfl rfl rfl ?_
  refine rw_nil ?_
  refine nw_seq ?_
  refine cw_seq ?_
  refine cw_region ?_
  refine rw_ev (ev_move rfl) rfl rfl rfl ?_
  refine rw_ev (ev_move rfl) rfl rfl rfl ?_
  refine rw_ev (ev_move rfl) rfl rfl rfl ?_
  refine rw_op (op_fn (xs := [.tmp 63, .const (.int .i64 1000)]) ent_60 rfl (c_pick60 w28 ex (1000 : Int) (by omega) (by omega))) rfl rfl rfl ?_
  rintro _ w31 ⟨rfl, k32, pr33⟩
  replace K0 := Ex.trans K0 k32
  replace hrv := hrv.ex k32
  replace sl6 := sl6.ex k32
  replace sl16 := sl16.ex k32
  replace sl20 := sl20.ex k32
  replace sl30 := sl30.ex k32
  have zw31 := k32.size
  refine rw_ev (ev_add rfl rfl (by omega)) rfl rfl rfl ?_
  refine rw_ev (ev_move rfl) rfl rfl rfl ?_
  refine rw_ev (ev_move rfl) rfl rfl rfl ?_
  refine rw_op (op_fn (xs := [.tmp 67, .const (.int .i64 1000)]) ent_60 rfl (c_pick60 w31 ey (1000 : Int) (by omega) (by omega))) rfl rfl rfl ?_
  rintro _ w34 ⟨rfl, k35, pr36⟩
  replace K0 := Ex.trans K0 k35
  replace hrv := hrv.ex k35
  replace sl6 := sl6.ex k35
  replace sl16 := sl16.ex k35
  replace sl20 := sl20.ex k35
  replace sl30 := sl30.ex k35
  have zw34 := k35.size
  refine rw_ev (ev_add rfl rfl (by omega)) rfl rfl rfl ?_
  refine rw_op (op_fn (xs := [.tmp 61, .tmp 65, .tmp 69]) ent_64 rfl (c_cshift w34 u3 (setC raw) (Sl.below sl6) ((pickI dx (549755813888 : Int)) + (pickI ex (1000 : Int))) ((-(pickI dy (549755813888 : Int))) + (pickI ey (1000 : Int))) (by omega) (by omega))) rfl rfl rfl ?_
  rintro _ w38 ⟨u37, rfl, k39, sl40⟩
  replace K0 := Ex.trans K0 k39
  replace hrv := hrv.ex k39
  replace sl6 := sl6.ex k39
  replace sl16 := sl16.ex k39
  replace sl20 := sl20.ex k39
  replace sl30 := sl30.ex k39
  have zw38 := k39.size
  refine rw_ev (ev_move rfl) rfl rfl rfl ?_
  refine rw_ev (ev_extract (vs := #[u37, .int .i64 ((shiftC (setC raw) ((pickI dx (549755813888 : Int)) + (pickI ex (1000 : Int))) ((-(pickI dy (549755813888 : Int))) + (pickI ey (1000 : Int)))).2)]) rfl rfl) rfl rfl rfl ?_
  refine rw_ev (ev_extract (vs := #[u37, .int .i64 ((shiftC (setC raw) ((pickI dx (549755813888 : Int)) + (pickI ex (1000 : Int))) ((-(pickI dy (549755813888 : Int))) + (pickI ey (1000 : Int)))).2)]) rfl rfl) rfl rfl rfl ?_
  refine rw_ev (ev_assign rfl) rfl rfl rfl ?_
  refine rw_ev (ev_assign rfl) rfl rfl rfl ?_
  refine rw_nil ?_
  refine nw_seq ?_
  refine cw_seq ?_
  refine cw_region ?_
  refine rw_ev (ev_move rfl) rfl rfl rfl ?_
  refine rw_op (op_fn (xs := [.tmp 74]) ent_59 rfl (c_cbox w38 u3 (setC raw) (Sl.below sl6))) rfl rfl rfl ?_
  rintro _ w41 ⟨rfl, k42⟩
  replace K0 := Ex.trans K0 k42
  replace hrv := hrv.ex k42
  replace sl6 := sl6.ex k42
  replace sl16 := sl16.ex k42
  replace sl20 := sl20.ex k42
  replace sl30 := sl30.ex k42
  replace sl40 := sl40.ex k42
  have zw41 := k42.size
  refine rw_ev (ev_move rfl) rfl rfl rfl ?_
  refine rw_ev (ev_extract rfl rfl) rfl rfl rfl ?_
  refine rw_ev (ev_extract rfl rfl) rfl rfl rfl ?_
  refine rw_op (op_alloc zero_69) rfl rfl rfl ?_
  rintro _ w44 ⟨g43, rfl, hg45, k46, b47⟩
  replace K0 := Ex.trans K0 k46
  replace hrv := hrv.ex k46
  replace sl6 := sl6.ex k46
  replace sl16 := sl16.ex k46
  replace sl20 := sl20.ex k46
  replace sl30 := sl30.ex k46
  replace sl40 := sl40.ex k46
  have zw44 := k46.size
  have lg43 := b47.lt
  refine rw_none (op_store (off := 0) (v := .agg #[.int .i64 ((boxC (setC raw)).1.1), .int .i64 ((boxC (setC raw)).1.2.1), .int .i64 ((boxC (setC raw)).1.2.2.1), .int .i64 ((boxC (setC raw)).1.2.2.2)]) (cs' := #[.int .i64 ((boxC (setC raw)).1.1), .int .i64 ((boxC (setC raw)).1.2.1), .int .i64 ((boxC (setC raw)).1.2.2.1), .int .i64 ((boxC (setC raw)).1.2.2.2)]) b47 rfl rfl size_69 rfl (Nat.le_of_ble_eq_true rfl) (one_cons rfl (one_cons rfl (one_cons rfl (one_cons rfl one_nil)))) rfl) rfl rfl ?_
  rintro _ w48 ⟨k49, b50⟩
  replace K0 := Ex.kp_new K0 k49 (fun _ h => h ▸ Nat.le_trans (Nat.le_trans zw1 (Nat.le_trans zw4 (Nat.le_trans zw7 (Nat.le_trans zw10 (Nat.le_trans zw14 (Nat.le_trans zw18 (Nat.le_trans zw21 (Nat.le_trans zw24 (Nat.le_trans zw28 (Nat.le_trans zw31 (Nat.le_trans zw34 (Nat.le_trans zw38 zw41)))))))))))) hg45)
  replace hrv := hrv.kp k49 (fun b h e => Nat.lt_irrefl _ (Nat.lt_of_lt_of_le (show g43 < _ from e ▸ (show b < _ from h)) (Nat.le_trans (Nat.le_trans zw1 (Nat.le_trans zw4 (Nat.le_trans zw7 (Nat.le_trans zw10 (Nat.le_trans zw14 (Nat.le_trans zw18 (Nat.le_trans zw21 (Nat.le_trans zw24 (Nat.le_trans zw28 (Nat.le_trans zw31 (Nat.le_trans zw34 (Nat.le_trans zw38 zw41)))))))))))) hg45)))
  replace sl6 := sl6.kp k49 (fun b h e => Nat.lt_irrefl _ (Nat.lt_of_lt_of_le (show g43 < _ from e ▸ (show b < _ from h.2)) (Nat.le_trans (Nat.le_trans zw7 (Nat.le_trans zw10 (Nat.le_trans zw14 (Nat.le_trans zw18 (Nat.le_trans zw21 (Nat.le_trans zw24 (Nat.le_trans zw28 (Nat.le_trans zw31 (Nat.le_trans zw34 (Nat.le_trans zw38 zw41)))))))))) hg45)))
  replace sl16 := sl16.kp k49 (fun b h e => Nat.lt_irrefl _ (Nat.lt_of_lt_of_le (show g43 < _ from e ▸ (show b < _ from h.2)) (Nat.le_trans (Nat.le_trans zw18 (Nat.le_trans zw21 (Nat.le_trans zw24 (Nat.le_trans zw28 (Nat.le_trans zw31 (Nat.le_trans zw34 (Nat.le_trans zw38 zw41))))))) hg45)))
  replace sl20 := sl20.kp k49 (fun b h e => Nat.lt_irrefl _ (Nat.lt_of_lt_of_le (show g43 < _ from e ▸ (show b < _ from h.2)) (Nat.le_trans (Nat.le_trans zw21 (Nat.le_trans zw24 (Nat.le_trans zw28 (Nat.le_trans zw31 (Nat.le_trans zw34 (Nat.le_trans zw38 zw41)))))) hg45)))
  replace sl30 := sl30.kp k49 (fun b h e => Nat.lt_irrefl _ (Nat.lt_of_lt_of_le (show g43 < _ from e ▸ (show b < _ from h.2)) (Nat.le_trans (Nat.le_trans zw31 (Nat.le_trans zw34 (Nat.le_trans zw38 zw41))) hg45)))
  replace sl40 := sl40.kp k49 (fun b h e => Nat.lt_irrefl _ (Nat.lt_of_lt_of_le (show g43 < _ from e ▸ (show b < _ from h.2)) (Nat.le_trans zw41 hg45)))
  have zw48 := k49.size
  refine rw_ev (ev_assign rfl) rfl rfl rfl ?_
  refine rw_nil ?_
  refine nw_seq ?_
  refine cw_seq ?_
  refine cw_region ?_
  refine rw_ev (ev_move rfl) rfl rfl rfl ?_
  refine rw_op (op_fn (xs := [.tmp 79]) ent_59 rfl (c_cbox w48 u13 ((shiftC (setC raw) (pickI dx (549755813888 : Int)) (-(pickI dy (549755813888 : Int)))).1) (Sl.below sl16))) rfl rfl rfl ?_
  rintro _ w51 ⟨rfl, k52⟩
  replace K0 := Ex.trans K0 k52
  replace hrv := hrv.ex k52
  replace sl6 := sl6.ex k52
  replace sl16 := sl16.ex k52
  replace sl20 := sl20.ex k52
  replace sl30 := sl30.ex k52
  replace sl40 := sl40.ex k52
  replace b50 := b50.ex k52
  have zw51 := k52.size
  refine rw_ev (ev_move rfl) rfl rfl rfl ?_
  refine rw_ev (ev_extract (vs := #[.agg #[.int .i64 ((boxC ((shiftC (setC raw) (pickI dx (549755813888 : Int)) (-(pickI dy (549755813888 : Int)))).1)).1.1), .int .i64 ((boxC ((shiftC (setC raw) (pickI dx (549755813888 : Int)) (-(pickI dy (549755813888 : Int)))).1)).1.2.1), .int .i64 ((boxC ((shiftC (setC raw) (pickI dx (549755813888 : Int)) (-(pickI dy (549755813888 : Int)))).1)).1.2.2.1), .int .i64 ((boxC ((shiftC (setC raw) (pickI dx (549755813888 : Int)) (-(pickI dy (549755813888 : Int)))).1)).1.2.2.2)], .bool ((boxC ((shiftC (setC raw) (pickI dx (549755813888 : Int)) (-(pickI dy (549755813888 : Int)))).1)).2)]) rfl rfl) rfl rfl rfl ?_
  refine rw_ev (ev_extract (vs := #[.agg #[.int .i64 ((boxC ((shiftC (setC raw) (pickI dx (549755813888 : Int)) (-(pickI dy (549755813888 : Int)))).1)).1.1), .int .i64 ((boxC ((shiftC (setC raw) (pickI dx (549755813888 : Int)) (-(pickI dy (549755813888 : Int)))).1)).1.2.1), .int .i64 ((boxC ((shiftC (setC raw) (pickI dx (549755813888 : Int)) (-(pickI dy (549755813888 : Int)))).1)).1.2.2.1), .int .i64 ((boxC ((shiftC (setC raw) (pickI dx (549755813888 : Int)) (-(pickI dy (549755813888 : Int)))).1)).1.2.2.2)], .bool ((boxC ((shiftC (setC raw) (pickI dx (549755813888 : Int)) (-(pickI dy (549755813888 : Int)))).1)).2)]) rfl rfl) rfl rfl rfl ?_
  refine rw_op (op_alloc zero_69) rfl rfl rfl ?_
  rintro _ w54 ⟨g53, rfl, hg55, k56, b57⟩
  replace K0 := Ex.trans K0 k56
  replace hrv := hrv.ex k56
  replace sl6 := sl6.ex k56
  replace sl16 := sl16.ex k56
  replace sl20 := sl20.ex k56
  replace sl30 := sl30.ex k56
  replace sl40 := sl40.ex k56
  replace b50 := b50.ex k56
  have zw54 := k56.size
  have lg53 := b57.lt
  refine rw_none (op_store (off := 0) (v := .agg #[.int .i64 ((boxC ((shiftC (setC raw) (pickI dx (549755813888 : Int)) (-(pickI dy (549755813888 : Int)))).1)).1.1), .int .i64 ((boxC ((shiftC (setC raw) (pickI dx (549755813888 : Int)) (-(pickI dy (549755813888 : Int)))).1)).1.2.1), .int .i64 ((boxC ((shiftC (setC raw) (pickI dx (549755813888 : Int)) (-(pickI dy (549755813888 : Int)))).1)).1.2.2.1), .int .i64 ((boxC ((shiftC (setC raw) (pickI dx (549755813888 : Int)) (-(pickI dy (549755813888 : Int)))).1)).1.2.2.2)]) (cs' := #[.int .i64 ((boxC ((shiftC (setC raw) (pickI dx (549755813888 : Int)) (-(pickI dy (549755813888 : Int)))).1)).1.1), .int .i64 ((boxC ((shiftC (setC raw) (pickI dx (549755813888 : Int)) (-(pickI dy (549755813888 : Int)))).1)).1.2.1), .int .i64 ((boxC ((shiftC (setC raw) (pickI dx (549755813888 : Int)) (-(pickI dy (549755813888 : Int)))).1)).1.2.2.1), .int .i64 ((boxC ((shiftC (setC raw) (pickI dx (549755813888 : Int)) (-(pickI dy (549755813888 : Int)))).1)).1.2.2.2)]) b57 rfl rfl size_69 rfl (Nat.le_of_ble_eq_true rfl) (one_cons rfl (one_cons rfl (one_cons rfl (one_cons rfl one_nil)))) rfl) rfl rfl ?_
  rintro _ w58 ⟨k59, b60⟩
  replace K0 := Ex.kp_new K0 k59 (fun _ h => h ▸ Nat.le_trans (Nat.le_trans zw1 (Nat.le_trans zw4 (Nat.le_trans zw7 (Nat.le_trans zw10 (Nat.le_trans zw14 (Nat.le_trans zw18 (Nat.le_trans zw21 (Nat.le_trans zw24 (Nat.le_trans zw28 (Nat.le_trans zw31 (Nat.le_trans zw34 (Nat.le_trans zw38 (Nat.le_trans zw41 (Nat.le_trans zw44 (Nat.le_trans zw48 zw51))))))))))))))) hg55)
  replace hrv := hrv.kp k59 (fun b h e => Nat.lt_irrefl _ (Nat.lt_of_lt_of_le (show g53 < _ from e ▸ (show b < _ from h)) (Nat.le_trans (Nat.le_trans zw1 (Nat.le_trans zw4 (Nat.le_trans zw7 (Nat.le_trans zw10 (Nat.le_trans zw14 (Nat.le_trans zw18 (Nat.le_trans zw21 (Nat.le_trans zw24 (Nat.le_trans zw28 (Nat.le_trans zw31 (Nat.le_trans zw34 (Nat.le_trans zw38 (Nat.le_trans zw41 (Nat.le_trans zw44 (Nat.le_trans zw48 zw51))))))))))))))) hg55)))
  replace sl6 := sl6.kp k59 (fun b h e => Nat.lt_irrefl _ (Nat.lt_of_lt_of_le (show g53 < _ from e ▸ (show b < _ from h.2)) (Nat.le_trans (Nat.le_trans zw7 (Nat.le_trans zw10 (Nat.le_trans zw14 (Nat.le_trans zw18 (Nat.le_trans zw21 (Nat.le_trans zw24 (Nat.le_trans zw28 (Nat.le_trans zw31 (Nat.le_trans zw34 (Nat.le_trans zw38 (Nat.le_trans zw41 (Nat.le_trans zw44 (Nat.le_trans zw48 zw51))))))))))))) hg55)))
  replace sl16 := sl16.kp k59 (fun b h e => Nat.lt_irrefl _ (Nat.lt_of_lt_of_le (show g53 < _ from e ▸ (show b < _ from h.2)) (Nat.le_trans (Nat.le_trans zw18 (Nat.le_trans zw21 (Nat.le_trans zw24 (Nat.le_trans zw28 (Nat.le_trans zw31 (Nat.le_trans zw34 (Nat.le_trans zw38 (Nat.le_trans zw41 (Nat.le_trans zw44 (Nat.le_trans zw48 zw51)))))))))) hg55)))
  replace sl20 := sl20.kp k59 (fun b h e => Nat.lt_irrefl _ (Nat.lt_of_lt_of_le (show g53 < _ from e ▸ (show b < _ from h.2)) (Nat.le_trans (Nat.le_trans zw21 (Nat.le_trans zw24 (Nat.le_trans zw28 (Nat.le_trans zw31 (Nat.le_trans zw34 (Nat.le_trans zw38 (Nat.le_trans zw41 (Nat.le_trans zw44 (Nat.le_trans zw48 zw51))))))))) hg55)))
  replace sl30 := sl30.kp k59 (fun b h e => Nat.lt_irrefl _ (Nat.lt_of_lt_of_le (show g53 < _ from e ▸ (show b < _ from h.2)) (Nat.le_trans (Nat.le_trans zw31 (Nat.le_trans zw34 (Nat.le_trans zw38 (Nat.le_trans zw41 (Nat.le_trans zw44 (Nat.le_trans zw48 zw51)))))) hg55)))
  replace sl40 := sl40.kp k59 (fun b h e => Nat.lt_irrefl _ (Nat.lt_of_lt_of_le (show g53 < _ from e ▸ (show b < _ from h.2)) (Nat.le_trans (Nat.le_trans zw41 (Nat.le_trans zw44 (Nat.le_trans zw48 zw51))) hg55)))
  replace b50 := b50.kp k59 (Nat.ne_of_lt (Nat.lt_of_lt_of_le lg43 (Nat.le_trans (Nat.le_trans zw48 zw51) hg55)))
  have zw58 := k59.size
  refine rw_ev (ev_assign rfl) rfl rfl rfl ?_
  refine rw_nil ?_
  refine nw_seq ?_
  refine cw_seq ?_
  refine cw_region ?_
  refine rw_ev (v := .pointer (some ⟨g43, 0, none⟩)) (ev_field (o := 0) rfl foff_69_0) rfl rfl rfl ?_
  refine rw_ev (v := .int .i64 ((boxC (setC raw)).1.1)) (ev_lb1 (off := 0) (fun _ h => h ▸ b50) rfl one_3 rfl) rfl rfl rfl ?_
  refine rw_ev (ev_move rfl) rfl rfl rfl ?_
  refine rw_ev (ev_add rfl rfl (by omega)) rfl rfl rfl ?_
  refine rw_ev (v := .pointer (some ⟨g43, 0, none⟩)) (ev_field (o := 0) rfl foff_69_0) rfl rfl rfl ?_
  refine rw_none (op_store (off := 0) (v := .int .i64 (((boxC (setC raw)).1.1) + (pickI dx (549755813888 : Int)))) (cs' := #[.int .i64 (((boxC (setC raw)).1.1) + (pickI dx (549755813888 : Int))), .int .i64 ((boxC (setC raw)).1.2.1), .int .i64 ((boxC (setC raw)).1.2.2.1), .int .i64 ((boxC (setC raw)).1.2.2.2)]) b50 rfl rfl size_3 rfl (Nat.le_of_ble_eq_true rfl) (one_cons rfl one_nil) rfl) rfl rfl ?_
  rintro _ w61 ⟨k62, b63⟩
  replace K0 := Ex.kp_new K0 k62 (fun _ h => h ▸ Nat.le_trans (Nat.le_trans zw1 (Nat.le_trans zw4 (Nat.le_trans zw7 (Nat.le_trans zw10 (Nat.le_trans zw14 (Nat.le_trans zw18 (Nat.le_trans zw21 (Nat.le_trans zw24 (Nat.le_trans zw28 (Nat.le_trans zw31 (Nat.le_trans zw34 (Nat.le_trans zw38 zw41)))))))))))) hg45)
  replace hrv := hrv.kp k62 (fun b h e => Nat.lt_irrefl _ (Nat.lt_of_lt_of_le (show g43 < _ from e ▸ (show b < _ from h)) (Nat.le_trans (Nat.le_trans zw1 (Nat.le_trans zw4 (Nat.le_trans zw7 (Nat.le_trans zw10 (Nat.le_trans zw14 (Nat.le_trans zw18 (Nat.le_trans zw21 (Nat.le_trans zw24 (Nat.le_trans zw28 (Nat.le_trans zw31 (Nat.le_trans zw34 (Nat.le_trans zw38 zw41)))))))))))) hg45)))
  replace sl6 := sl6.kp k62 (fun b h e => Nat.lt_irrefl _ (Nat.lt_of_lt_of_le (show g43 < _ from e ▸ (show b < _ from h.2)) (Nat.le_trans (Nat.le_trans zw7 (Nat.le_trans zw10 (Nat.le_trans zw14 (Nat.le_trans zw18 (Nat.le_trans zw21 (Nat.le_trans zw24 (Nat.le_trans zw28 (Nat.le_trans zw31 (Nat.le_trans zw34 (Nat.le_trans zw38 zw41)))))))))) hg45)))
  replace sl16 := sl16.kp k62 (fun b h e => Nat.lt_irrefl _ (Nat.lt_of_lt_of_le (show g43 < _ from e ▸ (show b < _ from h.2)) (Nat.le_trans (Nat.le_trans zw18 (Nat.le_trans zw21 (Nat.le_trans zw24 (Nat.le_trans zw28 (Nat.le_trans zw31 (Nat.le_trans zw34 (Nat.le_trans zw38 zw41))))))) hg45)))
  replace sl20 := sl20.kp k62 (fun b h e => Nat.lt_irrefl _ (Nat.lt_of_lt_of_le (show g43 < _ from e ▸ (show b < _ from h.2)) (Nat.le_trans (Nat.le_trans zw21 (Nat.le_trans zw24 (Nat.le_trans zw28 (Nat.le_trans zw31 (Nat.le_trans zw34 (Nat.le_trans zw38 zw41)))))) hg45)))
  replace sl30 := sl30.kp k62 (fun b h e => Nat.lt_irrefl _ (Nat.lt_of_lt_of_le (show g43 < _ from e ▸ (show b < _ from h.2)) (Nat.le_trans (Nat.le_trans zw31 (Nat.le_trans zw34 (Nat.le_trans zw38 zw41))) hg45)))
  replace sl40 := sl40.kp k62 (fun b h e => Nat.lt_irrefl _ (Nat.lt_of_lt_of_le (show g43 < _ from e ▸ (show b < _ from h.2)) (Nat.le_trans zw41 hg45)))
  replace b60 := b60.kp k62 (Nat.ne_of_gt (Nat.lt_of_lt_of_le lg43 (Nat.le_trans (Nat.le_trans zw48 zw51) hg55)))
  have zw61 := k62.size
  refine rw_nil ?_
  refine nw_seq ?_
  refine cw_seq ?_
  refine cw_region ?_
  refine rw_ev (v := .pointer (some ⟨g43, 1, none⟩)) (ev_field (o := 1) rfl foff_69_1) rfl rfl rfl ?_
  refine rw_ev (v := .int .i64 ((boxC (setC raw)).1.2.1)) (ev_lb1 (off := 1) (fun _ h => h ▸ b63) rfl one_3 rfl) rfl rfl rfl ?_
  refine rw_ev (ev_move rfl) rfl rfl rfl ?_
  refine rw_ev (ev_add rfl rfl (by omega)) rfl rfl rfl ?_
  refine rw_ev (v := .pointer (some ⟨g43, 1, none⟩)) (ev_field (o := 1) rfl foff_69_1) rfl rfl rfl ?_
  refine rw_none (op_store (off := 1) (v := .int .i64 (((boxC (setC raw)).1.2.1) + (-(pickI dy (549755813888 : Int))))) (cs' := #[.int .i64 (((boxC (setC raw)).1.1) + (pickI dx (549755813888 : Int))), .int .i64 (((boxC (setC raw)).1.2.1) + (-(pickI dy (549755813888 : Int)))), .int .i64 ((boxC (setC raw)).1.2.2.1), .int .i64 ((boxC (setC raw)).1.2.2.2)]) b63 rfl rfl size_3 rfl (Nat.le_of_ble_eq_true rfl) (one_cons rfl one_nil) rfl) rfl rfl ?_
  rintro _ w64 ⟨k65, b66⟩
  replace K0 := Ex.kp_new K0 k65 (fun _ h => h ▸ Nat.le_trans (Nat.le_trans zw1 (Nat.le_trans zw4 (Nat.le_trans zw7 (Nat.le_trans zw10 (Nat.le_trans zw14 (Nat.le_trans zw18 (Nat.le_trans zw21 (Nat.le_trans zw24 (Nat.le_trans zw28 (Nat.le_trans zw31 (Nat.le_trans zw34 (Nat.le_trans zw38 zw41)))))))))))) hg45)
  replace hrv := hrv.kp k65 (fun b h e => Nat.lt_irrefl _ (Nat.lt_of_lt_of_le (show g43 < _ from e ▸ (show b < _ from h)) (Nat.le_trans (Nat.le_trans zw1 (Nat.le_trans zw4 (Nat.le_trans zw7 (Nat.le_trans zw10 (Nat.le_trans zw14 (Nat.le_trans zw18 (Nat.le_trans zw21 (Nat.le_trans zw24 (Nat.le_trans zw28 (Nat.le_trans zw31 (Nat.le_trans zw34 (Nat.le_trans zw38 zw41)))))))))))) hg45)))
  replace sl6 := sl6.kp k65 (fun b h e => Nat.lt_irrefl _ (Nat.lt_of_lt_of_le (show g43 < _ from e ▸ (show b < _ from h.2)) (Nat.le_trans (Nat.le_trans zw7 (Nat.le_trans zw10 (Nat.le_trans zw14 (Nat.le_trans zw18 (Nat.le_trans zw21 (Nat.le_trans zw24 (Nat.le_trans zw28 (Nat.le_trans zw31 (Nat.le_trans zw34 (Nat.le_trans zw38 zw41)))))))))) hg45)))
  replace sl16 := sl16.kp k65 (fun b h e => Nat.lt_irrefl _ (Nat.lt_of_lt_of_le (show g43 < _ from e ▸ (show b < _ from h.2)) (Nat.le_trans (Nat.le_trans zw18 (Nat.le_trans zw21 (Nat.le_trans zw24 (Nat.le_trans zw28 (Nat.le_trans zw31 (Nat.le_trans zw34 (Nat.le_trans zw38 zw41))))))) hg45)))
  replace sl20 := sl20.kp k65 (fun b h e => Nat.lt_irrefl _ (Nat.lt_of_lt_of_le (show g43 < _ from e ▸ (show b < _ from h.2)) (Nat.le_trans (Nat.le_trans zw21 (Nat.le_trans zw24 (Nat.le_trans zw28 (Nat.le_trans zw31 (Nat.le_trans zw34 (Nat.le_trans zw38 zw41)))))) hg45)))
  replace sl30 := sl30.kp k65 (fun b h e => Nat.lt_irrefl _ (Nat.lt_of_lt_of_le (show g43 < _ from e ▸ (show b < _ from h.2)) (Nat.le_trans (Nat.le_trans zw31 (Nat.le_trans zw34 (Nat.le_trans zw38 zw41))) hg45)))
  replace sl40 := sl40.kp k65 (fun b h e => Nat.lt_irrefl _ (Nat.lt_of_lt_of_le (show g43 < _ from e ▸ (show b < _ from h.2)) (Nat.le_trans zw41 hg45)))
  replace b60 := b60.kp k65 (Nat.ne_of_gt (Nat.lt_of_lt_of_le lg43 (Nat.le_trans (Nat.le_trans zw48 zw51) hg55)))
  have zw64 := k65.size
  refine rw_nil ?_
  refine nw_seq ?_
  refine cw_seq ?_
  refine cw_region ?_
  refine rw_ev (ev_move rfl) rfl rfl rfl ?_
  refine rw_ev (ev_move rfl) rfl rfl rfl ?_
  refine rw_ev (ev_move rfl) rfl rfl rfl ?_
  refine rw_ev (ev_eq rfl rfl) rfl rfl rfl ?_
  refine rw_ev (ev_pk_t rfl rfl rfl) rfl rfl rfl ?_
  refine rw_ev (ev_move rfl) rfl rfl rfl ?_
  refine rw_ev (ev_move rfl) (gd_tt rfl (dec_t (by first | exact hS1_ | exact hS2_ | exact hS3_ | exact hS4_))) rfl rfl ?_
  refine rw_ev (ev_eq (p := (shiftC ((shiftC (setC raw) (pickI dx (549755813888 : Int)) (-(pickI dy (549755813888 : Int)))).1) (-(pickI dx (549755813888 : Int))) (-(-(pickI dy (549755813888 : Int))))).2) (q := 0) rfl rfl) (gd_tt rfl (dec_t (by first | exact hS1_ | exact hS2_ | exact hS3_ | exact hS4_))) rfl rfl ?_
  refine rw_ev (ev_pk_t (b := decide (((shiftC (setC raw) (pickI dx (549755813888 : Int)) (-(pickI dy (549755813888 : Int)))).2) = 0)) rfl (dec_t (by first | exact hS1_ | exact hS2_ | exact hS3_ | exact hS4_)) rfl) rfl rfl rfl ?_
  refine rw_ev (ev_move rfl) rfl rfl rfl ?_
  refine rw_ev (ev_move rfl) (gd_tt rfl (dec_t (by first | exact hS1_ | exact hS2_ | exact hS3_ | exact hS4_))) rfl rfl ?_
  refine rw_ev (ev_eq (p := (shiftC ((shiftC (setC raw) (pickI dx (549755813888 : Int)) (-(pickI dy (549755813888 : Int)))).1) (pickI ex (1000 : Int)) (pickI ey (1000 : Int))).2) (q := 0) rfl rfl) (gd_tt rfl (dec_t (by first | exact hS1_ | exact hS2_ | exact hS3_ | exact hS4_))) rfl rfl ?_
  refine rw_ev (ev_pk_t (b := decide (((shiftC ((shiftC (setC raw) (pickI dx (549755813888 : Int)) (-(pickI dy (549755813888 : Int)))).1) (-(pickI dx (549755813888 : Int))) (-(-(pickI dy (549755813888 : Int))))).2) = 0)) rfl (dec_t (by first | exact hS1_ | exact hS2_ | exact hS3_ | exact hS4_)) rfl) rfl rfl rfl ?_
  refine rw_ev (ev_move rfl) rfl rfl rfl ?_
  refine rw_ev (ev_move rfl) (gd_tt rfl (dec_t (by first | exact hS1_ | exact hS2_ | exact hS3_ | exact hS4_))) rfl rfl ?_
  refine rw_ev (ev_eq (p := (shiftC (setC raw) ((pickI dx (549755813888 : Int)) + (pickI ex (1000 : Int))) ((-(pickI dy (549755813888 : Int))) + (pickI ey (1000 : Int)))).2) (q := 0) rfl rfl) (gd_tt rfl (dec_t (by first | exact hS1_ | exact hS2_ | exact hS3_ | exact hS4_))) rfl rfl ?_
  refine rw_ev (ev_pk_t (b := decide (((shiftC ((shiftC (setC raw) (pickI dx (549755813888 : Int)) (-(pickI dy (549755813888 : Int)))).1) (pickI ex (1000 : Int)) (pickI ey (1000 : Int))).2) = 0)) rfl (dec_t (by first | exact hS1_ | exact hS2_ | exact hS3_ | exact hS4_)) rfl) rfl rfl rfl ?_
  refine rw_ev (ev_move rfl) rfl rfl rfl ?_
  refine rw_ev (ev_move rfl) (gd_tt rfl (dec_t (by first | exact hS1_ | exact hS2_ | exact hS3_ | exact hS4_))) rfl rfl ?_
  refine rw_ev (ev_move rfl) (gd_tt rfl (dec_t (by first | exact hS1_ | exact hS2_ | exact hS3_ | exact hS4_))) rfl rfl ?_
  refine rw_op (op_fn (xs := [.tmp 111, .tmp 112]) ent_37 rfl (c_same w64 u17 ((shiftC ((shiftC (setC raw) (pickI dx (549755813888 : Int)) (-(pickI dy (549755813888 : Int)))).1) (-(pickI dx (549755813888 : Int))) (-(-(pickI dy (549755813888 : Int))))).1) (Sl.below sl20) u3 (setC raw) (Sl.below sl6))) (gd_tt rfl (dec_t (by first | exact hS1_ | exact hS2_ | exact hS3_ | exact hS4_))) rfl rfl ?_
  rintro _ w67 ⟨rfl, k68⟩
  replace K0 := Ex.trans K0 k68
  replace hrv := hrv.ex k68
  replace sl6 := sl6.ex k68
  replace sl16 := sl16.ex k68
  replace sl20 := sl20.ex k68
  replace sl30 := sl30.ex k68
  replace sl40 := sl40.ex k68
  replace b60 := b60.ex k68
  replace b66 := b66.ex k68
  have zw67 := k68.size
  refine rw_ev (ev_pk_t (b := decide (((shiftC (setC raw) ((pickI dx (549755813888 : Int)) + (pickI ex (1000 : Int))) ((-(pickI dy (549755813888 : Int))) + (pickI ey (1000 : Int)))).2) = 0)) rfl (dec_t (by first | exact hS1_ | exact hS2_ | exact hS3_ | exact hS4_)) rfl) rfl rfl rfl ?_
  refine rw_ev (ev_move rfl) rfl rfl rfl ?_
  refine rw_ev (ev_move rfl) (gd_tt rfl (by first | exact hS5_ | exact hS6_)) rfl rfl ?_
  refine rw_ev (ev_move rfl) (gd_tt rfl (by first | exact hS5_ | exact hS6_)) rfl rfl ?_
  refine rw_op (op_fn (xs := [.tmp 116, .tmp 117]) ent_37 rfl (c_same w67 u27 ((shiftC ((shiftC (setC raw) (pickI dx (549755813888 : Int)) (-(pickI dy (549755813888 : Int)))).1) (pickI ex (1000 : Int)) (pickI ey (1000 : Int))).1) (Sl.below sl30) u37 ((shiftC (setC raw) ((pickI dx (549755813888 : Int)) + (pickI ex (1000 : Int))) ((-(pickI dy (549755813888 : Int))) + (pickI ey (1000 : Int)))).1) (Sl.below sl40))) (gd_tt rfl (by first | exact hS5_ | exact hS6_)) rfl rfl ?_
  rintro _ w69 ⟨rfl, k70⟩
  replace K0 := Ex.trans K0 k70
  replace hrv := hrv.ex k70
  replace sl6 := sl6.ex k70
  replace sl16 := sl16.ex k70
  replace sl20 := sl20.ex k70
  replace sl30 := sl30.ex k70
  replace sl40 := sl40.ex k70
  replace b60 := b60.ex k70
  replace b66 := b66.ex k70
  have zw69 := k70.size
  refine rw_ev (ev_pk_t (b := sameC ((shiftC ((shiftC (setC raw) (pickI dx (549755813888 : Int)) (-(pickI dy (549755813888 : Int)))).1) (-(pickI dx (549755813888 : Int))) (-(-(pickI dy (549755813888 : Int))))).1) (setC raw)) rfl (by first | exact hS5_ | exact hS6_) rfl) rfl rfl rfl ?_
  refine rw_ev (ev_move rfl) rfl rfl rfl ?_
  refine rw_ev (ev_move rfl) (gd_tt rfl (by first | exact hS5_ | exact hS6_)) rfl rfl ?_
  refine rw_op (op_fn (xs := [.tmp 121]) ent_58 rfl (c_cright w69 u13 ((shiftC (setC raw) (pickI dx (549755813888 : Int)) (-(pickI dy (549755813888 : Int)))).1) (Sl.below sl16))) (gd_tt rfl (by first | exact hS5_ | exact hS6_)) rfl rfl ?_
  rintro _ w71 ⟨rfl, k72⟩
  replace K0 := Ex.trans K0 k72
  replace hrv := hrv.ex k72
  replace sl6 := sl6.ex k72
  replace sl16 := sl16.ex k72
  replace sl20 := sl20.ex k72
  replace sl30 := sl30.ex k72
  replace sl40 := sl40.ex k72
  replace b60 := b60.ex k72
  replace b66 := b66.ex k72
  have zw71 := k72.size
  refine rw_ev (ev_pk_t (b := sameC ((shiftC ((shiftC (setC raw) (pickI dx (549755813888 : Int)) (-(pickI dy (549755813888 : Int)))).1) (pickI ex (1000 : Int)) (pickI ey (1000 : Int))).1) ((shiftC (setC raw) ((pickI dx (549755813888 : Int)) + (pickI ex (1000 : Int))) ((-(pickI dy (549755813888 : Int))) + (pickI ey (1000 : Int)))).1)) rfl (by first | exact hS5_ | exact hS6_) rfl) rfl rfl rfl ?_
  refine rw_ev (ev_move rfl) rfl rfl rfl ?_
  refine rw_ev (ev_move rfl) (gd_tt rfl (by exact hS7_)) rfl rfl ?_
  refine rw_ev (ev_move rfl) (gd_tt rfl (by exact hS7_)) rfl rfl ?_
  refine rw_ev (ev_eqb (q := (boxC ((shiftC (setC raw) (pickI dx (549755813888 : Int)) (-(pickI dy (549755813888 : Int)))).1)).2) bool_4 rfl rfl) (gd_tt rfl (by exact hS7_)) rfl rfl ?_
  refine rw_ev (ev_pk_t (b := rightC ((shiftC (setC raw) (pickI dx (549755813888 : Int)) (-(pickI dy (549755813888 : Int)))).1)) rfl (by exact hS7_) rfl) rfl rfl rfl ?_
  refine rw_ev (ev_move rfl) rfl rfl rfl ?_
  by_cases h73 : ((boxC (setC raw)).2) = ((boxC ((shiftC (setC raw) (pickI dx (549755813888 : Int)) (-(pickI dy (549755813888 : Int)))).1)).2)
  ·
   refine rw_ev (ev_move rfl) (gd_tt rfl (dec_t h73)) rfl rfl ?_
   refine rw_ev (ev_move rfl) (gd_tt rfl (dec_t h73)) rfl rfl ?_
   refine rw_ev (v := .int .i64 ((setC raw).length : Int)) (ev_lenm (l := setC raw) ⟨_, sl6⟩ rfl el_46 rfl) (gd_tt rfl (dec_t h73)) rfl rfl ?_
   refine rw_ev (ev_gtr rfl rfl) (gd_tt rfl (dec_t h73)) rfl rfl ?_
   refine rw_ev (ev_eqb bool_4 rfl rfl) (gd_tt rfl (dec_t h73)) rfl rfl ?_
   refine rw_ev (ev_pk_t (b := decide (((boxC (setC raw)).2) = ((boxC ((shiftC (setC raw) (pickI dx (549755813888 : Int)) (-(pickI dy (549755813888 : Int)))).1)).2))) rfl (dec_t h73) rfl) rfl rfl rfl ?_
   refine rw_ev (ev_move rfl) rfl rfl rfl ?_
   by_cases h74 : ((boxC (setC raw)).2) = (decide ((0 : Int) < ((setC raw).length : Int)))
   ·
    refine rw_ev (ev_move rfl) (gd_tt rfl (dec_t h74)) rfl rfl ?_
    refine rw_ev (ev_not rfl rfl) (gd_tt rfl (dec_t h74)) rfl rfl ?_
    refine rw_ev (ev_move rfl) (gd_tt rfl (dec_t h74)) rfl rfl ?_
    rcases Bool.eq_false_or_eq_true ((boxC (setC raw)).2) with h75 | h75
    ·
     refine rw_ev (v := .agg #[.int .i64 (((boxC (setC raw)).1.1) + (pickI dx (549755813888 : Int))), .int .i64 (((boxC (setC raw)).1.2.1) + (-(pickI dy (549755813888 : Int)))), .int .i64 ((boxC (setC raw)).1.2.2.1), .int .i64 ((boxC (setC raw)).1.2.2.2)]) (ev_lbk (off := 0) (vs := [.int .i64 (((boxC (setC raw)).1.1) + (pickI dx (549755813888 : Int))), .int .i64 (((boxC (setC raw)).1.2.1) + (-(pickI dy (549755813888 : Int)))), .int .i64 ((boxC (setC raw)).1.2.2.1), .int .i64 ((boxC (setC raw)).1.2.2.2)]) (fun _ h => h ▸ b66) rfl agg_69 rfl rfl) (gd_ff rfl (not_f h75)) rfl rfl ?_
     refine rw_ev (v := .agg #[.int .i64 ((boxC ((shiftC (setC raw) (pickI dx (549755813888 : Int)) (-(pickI dy (549755813888 : Int)))).1)).1.1), .int .i64 ((boxC ((shiftC (setC raw) (pickI dx (549755813888 : Int)) (-(pickI dy (549755813888 : Int)))).1)).1.2.1), .int .i64 ((boxC ((shiftC (setC raw) (pickI dx (549755813888 : Int)) (-(pickI dy (549755813888 : Int)))).1)).1.2.2.1), .int .i64 ((boxC ((shiftC (setC raw) (pickI dx (549755813888 : Int)) (-(pickI dy (549755813888 : Int)))).1)).1.2.2.2)]) (ev_lbk (off := 0) (vs := [.int .i64 ((boxC ((shiftC (setC raw) (pickI dx (549755813888 : Int)) (-(pickI dy (549755813888 : Int)))).1)).1.1), .int .i64 ((boxC ((shiftC (setC raw) (pickI dx (549755813888 : Int)) (-(pickI dy (549755813888 : Int)))).1)).1.2.1), .int .i64 ((boxC ((shiftC (setC raw) (pickI dx (549755813888 : Int)) (-(pickI dy (549755813888 : Int)))).1)).1.2.2.1), .int .i64 ((boxC ((shiftC (setC raw) (pickI dx (549755813888 : Int)) (-(pickI dy (549755813888 : Int)))).1)).1.2.2.2)]) (fun _ h => h ▸ b60) rfl agg_69 rfl rfl) (gd_ff rfl (not_f h75)) rfl rfl ?_
     refine rw_ev (ev_eql_69 rfl rfl) (gd_ff rfl (not_f h75)) rfl rfl ?_
     refine rw_ev (ev_pk_f rfl (not_f h75) rfl) (gd_tt rfl (dec_t h74)) rfl rfl ?_
     refine rw_ev (ev_pk_t (b := decide (((boxC (setC raw)).2) = (decide ((0 : Int) < ((setC raw).length : Int))))) rfl (dec_t h74) rfl) rfl rfl rfl ?_
     refine rw_ev (ev_assign rfl) rfl rfl rfl ?_
     refine rw_nil ?_
     refine nw_seq ?_
     refine cw_ret ?_
     refine ret_post (rs := [.tmp 10]) (vs := [.bool (decide ((((boxC (setC raw)).1.1) + (pickI dx (549755813888 : Int)), ((boxC (setC raw)).1.2.1) + (-(pickI dy (549755813888 : Int))), (boxC (setC raw)).1.2.2.1, (boxC (setC raw)).1.2.2.2) = ((boxC ((shiftC (setC raw) (pickI dx (549755813888 : Int)) (-(pickI dy (549755813888 : Int)))).1)).1.1, (boxC ((shiftC (setC raw) (pickI dx (549755813888 : Int)) (-(pickI dy (549755813888 : Int)))).1)).1.2.1, (boxC ((shiftC (setC raw) (pickI dx (549755813888 : Int)) (-(pickI dy (549755813888 : Int)))).1)).1.2.2.1, (boxC ((shiftC (setC raw) (pickI dx (549755813888 : Int)) (-(pickI dy (549755813888 : Int)))).1)).1.2.2.2)))]) rfl (.tmp rfl .nil) ?_
     refine ⟨?_, K0⟩
     · show (.bool (decide ((((boxC (setC raw)).1.1) + (pickI dx (549755813888 : Int)), ((boxC (setC raw)).1.2.1) + (-(pickI dy (549755813888 : Int))), (boxC (setC raw)).1.2.2.1, (boxC (setC raw)).1.2.2.2) = ((boxC ((shiftC (setC raw) (pickI dx (549755813888 : Int)) (-(pickI dy (549755813888 : Int)))).1)).1.1, (boxC ((shiftC (setC raw) (pickI dx (549755813888 : Int)) (-(pickI dy (549755813888 : Int)))).1)).1.2.1, (boxC ((shiftC (setC raw) (pickI dx (549755813888 : Int)) (-(pickI dy (549755813888 : Int)))).1)).1.2.2.1, (boxC ((shiftC (setC raw) (pickI dx (549755813888 : Int)) (-(pickI dy (549755813888 : Int)))).1)).1.2.2.2))) : Value) = _
       refine congrArg Value.bool ?_
       first | rfl | (simp_all; done) | (exfalso; simp_all; done) | (simp_all; omega) | (exfalso; simp_all; omega)
    ·
     refine rw_skip (gd_ft rfl (not_t h75)) rfl rfl ?_
     refine rw_skip (gd_ft rfl (not_t h75)) rfl rfl ?_
     refine rw_skip (gd_ft rfl (not_t h75)) rfl rfl ?_
     refine rw_ev (ev_pk_t rfl (not_t h75) rfl) (gd_tt rfl (dec_t h74)) rfl rfl ?_
     refine rw_ev (ev_pk_t (b := decide (((boxC (setC raw)).2) = (decide ((0 : Int) < ((setC raw).length : Int))))) rfl (dec_t h74) rfl) rfl rfl rfl ?_
     refine rw_ev (ev_assign rfl) rfl rfl rfl ?_
     refine rw_nil ?_
     refine nw_seq ?_
     refine cw_ret ?_
     refine ret_post (rs := [.tmp 10]) (vs := [.bool true]) rfl (.tmp rfl .nil) ?_
     refine ⟨?_, K0⟩
     · show (.bool true : Value) = _
       refine congrArg Value.bool ?_
       first | rfl | (simp_all; done) | (exfalso; simp_all; done) | (simp_all; omega) | (exfalso; simp_all; omega)
   ·
    refine rw_skip (gd_tf rfl (dec_f h74)) rfl rfl ?_
    refine rw_skip (gd_tf rfl (dec_f h74)) rfl rfl ?_
    refine rw_skip (gd_tf rfl (dec_f h74)) rfl rfl ?_
    refine rw_skip rfl rfl rfl ?_
    refine rw_skip rfl rfl rfl ?_
    refine rw_skip rfl rfl rfl ?_
    refine rw_skip (gd_tf rfl (dec_f h74)) rfl rfl ?_
    refine rw_ev (ev_pk_f (b := decide (((boxC (setC raw)).2) = (decide ((0 : Int) < ((setC raw).length : Int))))) rfl (dec_f h74) rfl) rfl rfl rfl ?_
    refine rw_ev (ev_assign rfl) rfl rfl rfl ?_
    refine rw_nil ?_
    refine nw_seq ?_
    refine cw_ret ?_
    refine ret_post (rs := [.tmp 10]) (vs := [.bool false]) rfl (.tmp rfl .nil) ?_
    refine ⟨?_, K0⟩
    · show (.bool false : Value) = _
      refine congrArg Value.bool ?_
      first | rfl | (simp_all; done) | (exfalso; simp_all; done) | (simp_all; omega) | (exfalso; simp_all; omega)
  ·
   refine rw_skip (gd_tf rfl (dec_f h73)) rfl rfl ?_
   refine rw_skip (gd_tf rfl (dec_f h73)) rfl rfl ?_
   refine rw_skip (gd_tf rfl (dec_f h73)) rfl rfl ?_
   refine rw_skip (gd_tf rfl (dec_f h73)) rfl rfl ?_
   refine rw_skip (gd_tf rfl (dec_f h73)) rfl rfl ?_
   refine rw_ev (ev_pk_f (b := decide (((boxC (setC raw)).2) = ((boxC ((shiftC (setC raw) (pickI dx (549755813888 : Int)) (-(pickI dy (549755813888 : Int)))).1)).2))) rfl (dec_f h73) rfl) rfl rfl rfl ?_
   refine rw_ev (ev_move rfl) rfl rfl rfl ?_
   refine rw_skip rfl rfl rfl ?_
   refine rw_skip rfl rfl rfl ?_
   refine rw_skip rfl rfl rfl ?_
   refine rw_skip rfl rfl rfl ?_
   refine rw_skip rfl rfl rfl ?_
   refine rw_skip rfl rfl rfl ?_
   refine rw_skip rfl rfl rfl ?_
   refine rw_ev (ev_pk_f rfl rfl rfl) rfl rfl rfl ?_
   refine rw_ev (ev_assign rfl) rfl rfl rfl ?_
   refine rw_nil ?_
   refine nw_seq ?_
   refine cw_ret ?_
   refine ret_post (rs := [.tmp 10]) (vs := [.bool false]) rfl (.tmp rfl .nil) ?_
   refine ⟨?_, K0⟩
   · show (.bool false : Value) = _
     refine congrArg Value.bool ?_
     first | rfl | (simp_all; done) | (exfalso; simp_all; done) | (simp_all; omega) | (exfalso; simp_all; omega)

end Go.Proofs.Ythpaadmpgdglnaa
