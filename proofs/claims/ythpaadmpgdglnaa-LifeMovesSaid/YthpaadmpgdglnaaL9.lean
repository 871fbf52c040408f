/- The law LifeMoves: it returns true. Its condition: numbers of 64 bits. -/
import Derived.Test.YthpaadmpgdglnaaFl
namespace Go.Proofs.Ythpaadmpgdglnaa
open Go Go.RowKit
set_option linter.unusedVariables false
set_option linter.unusedSimpArgs false
set_option maxRecDepth 100000
set_option maxHeartbeats 4000000

theorem law_LifeMoves (w : World) (rv : Value) (raw : List Cell) (hrv : Sl w (fun b => b < w.heap.size) rv 2 (raw.map encC)) (hrvr : RawOk raw) (way : Int) (dx : Int) (dy : Int) (n : Int) (hway64 : -9223372036854775808 ≤ way ∧ way ≤ 9223372036854775807) (hdx64 : -9223372036854775808 ≤ dx ∧ dx ≤ 9223372036854775807) (hdy64 : -9223372036854775808 ≤ dy ∧ dy ≤ 9223372036854775807) (hn64 : -9223372036854775808 ≤ n ∧ n ≤ 9223372036854775807) : Fn Try.prog 9 [rv, .int .i64 way, .int .i64 dx, .int .i64 dy, .int .i64 n] w (fun v w' =>  v = .bool true ∧ Ex w w') := by
  have K0 : Ex w w := Kp.refl _ _
  refine fn_enter (n := 78) Try.func9 rfl rfl (Nat.le_of_ble_eq_true rfl) ?_
  show CW _ _ _ _ _ _ [(0, rv), (1, .int .i64 way), (2, .int .i64 dx), (3, .int .i64 dy), (4, .int .i64 n)] _
  have hlen_ := set_len raw
  have hn_ := pickI_bd n 13 (by omega)
  have hp_ := pickI_bd dx 549755813888 (by omega)
  have hq_ := pickI_bd dy 549755813888 (by omega)
  obtain ⟨hM1_, hM2_, hM3_, hM4_, hM5_⟩ := moves_law raw way (pickI dx 549755813888) (-(pickI dy 549755813888)) (pickI n 13) (by omega) (by omega) (by omega)
  have hT1_ : ∀ c ∈ setC raw, Small 1099511627776 c := fun c hc => by have := set_bd hc; unfold Small; omega
  have hT2_ : ∀ c ∈ (runC (setC raw) (pickI n 13)).1, Small 1099511627776 c := fun c hc => by have := hM4_ c hc; unfold Small at *; omega
  refine cw_seq ?_
  refine cw_region ?_
  refine rw_ev (ev_assign rfl) rfl rfl rfl ?_
  refine rw_nil ?_
  refine nw_seq ?_
  refine cw_seq ?_
  refine cw_region ?_
  refine rw_op (op_fn (xs := []) ent_43 rfl (c_awake2 w )) rfl rfl rfl ?_
  rintro _ w1 ⟨rfl, k2⟩
  replace K0 := Ex.trans K0 k2
  replace hrv := hrv.ex k2
  have zw1 := k2.size
  refine rw_ev (ev_assign rfl) rfl rfl rfl ?_
  refine rw_nil ?_
  refine nw_seq ?_
  refine cw_seq ?_
  refine cw_region ?_
  refine rw_ev (ev_move rfl) rfl rfl rfl ?_
  refine rw_op (op_fn (xs := [.tmp 25]) ent_44 rfl (c_set w1 rv raw (Sl.below hrv) (by exact hrvr))) rfl rfl rfl ?_
  rintro u3 w4 ⟨_, rfl, k5, sl6⟩
  replace K0 := Ex.trans K0 k5
  replace hrv := hrv.ex k5
  have zw4 := k5.size
  refine rw_ev (ev_assign rfl) rfl rfl rfl ?_
  refine rw_nil ?_
  refine nw_seq ?_
  refine cw_seq ?_
  refine cw_region ?_
  refine rw_ev (ev_move rfl) rfl rfl rfl ?_
  refine rw_op (op_fn (xs := [.tmp 27, .const (.int .i64 13)]) ent_46 rfl (c_pick46 w4 n (13 : Int) (by omega) (by omega))) rfl rfl rfl ?_
  rintro _ w7 ⟨rfl, k8, pr9⟩
  replace K0 := Ex.trans K0 k8
  replace sl6 := sl6.ex k8
  have zw7 := k8.size
  refine rw_ev (ev_assign rfl) rfl rfl rfl ?_
  refine rw_nil ?_
  refine nw_seq ?_
  refine cw_seq ?_
  refine cw_region ?_
  refine rw_ev (ev_move rfl) rfl rfl rfl ?_
  refine rw_op (op_fn (xs := [.tmp 29, .const (.int .i64 549755813888)]) ent_46 rfl (c_pick46 w7 dx (549755813888 : Int) (by omega) (by omega))) rfl rfl rfl ?_
  rintro _ w10 ⟨rfl, k11, pr12⟩
  replace K0 := Ex.trans K0 k11
  replace sl6 := sl6.ex k11
  have zw10 := k11.size
  refine rw_ev (ev_assign rfl) rfl rfl rfl ?_
  refine rw_nil ?_
  refine nw_seq ?_
  refine cw_seq ?_
  refine cw_region ?_
  refine rw_ev (ev_move rfl) rfl rfl rfl ?_
  refine rw_op (op_fn (xs := [.tmp 31, .const (.int .i64 549755813888)]) ent_46 rfl (c_pick46 w10 dy (549755813888 : Int) (by omega) (by omega))) rfl rfl rfl ?_
  rintro _ w13 ⟨rfl, k14, pr15⟩
  replace K0 := Ex.trans K0 k14
  replace sl6 := sl6.ex k14
  have zw13 := k14.size
  refine rw_ev (ev_neg rfl (by omega)) rfl rfl rfl ?_
  refine rw_ev (ev_assign rfl) rfl rfl rfl ?_
  refine rw_nil ?_
  refine nw_seq ?_
  refine cw_seq ?_
  refine cw_region ?_
  refine rw_ev (ev_move rfl) rfl rfl rfl ?_
  refine rw_ev (ev_move rfl) rfl rfl rfl ?_
  refine rw_op (op_fn (xs := [.tmp 35, .tmp 36]) ent_52 rfl (c_turned w13 u3 (setC raw) (Sl.below sl6) way (by first | exact hT1_ | exact hT2_) (by omega) (by omega))) rfl rfl rfl ?_
  rintro u16 w17 ⟨_, rfl, k18, sl19⟩
  replace K0 := Ex.trans K0 k18
  replace sl6 := sl6.ex k18
  have zw17 := k18.size
  refine rw_ev (ev_move rfl) rfl rfl rfl ?_
  refine rw_ev (ev_move rfl) rfl rfl rfl ?_
  refine rw_op (op_fn (xs := [.tmp 37, .tmp 38, .tmp 39]) ent_45 rfl (c_shift w17 u16 (turnedC (setC raw) way) (Sl.below sl19) (pickI dx (549755813888 : Int)) (-(pickI dy (549755813888 : Int))))) rfl rfl rfl ?_
  rintro _ w21 ⟨u20, rfl, k22, sl23⟩
  replace K0 := Ex.trans K0 k22
  replace sl6 := sl6.ex k22
  replace sl19 := sl19.ex k22
  have zw21 := k22.size
  refine rw_ev (ev_move rfl) rfl rfl rfl ?_
  refine rw_ev (ev_extract (vs := #[u20, .int .i64 ((shiftC (turnedC (setC raw) way) (pickI dx (549755813888 : Int)) (-(pickI dy (549755813888 : Int)))).2)]) rfl rfl) rfl rfl rfl ?_
  refine rw_ev (ev_extract (vs := #[u20, .int .i64 ((shiftC (turnedC (setC raw) way) (pickI dx (549755813888 : Int)) (-(pickI dy (549755813888 : Int)))).2)]) rfl rfl) rfl rfl rfl ?_
  refine rw_ev (ev_assign rfl) rfl rfl rfl ?_
  refine rw_ev (ev_assign rfl) rfl rfl rfl ?_
  refine rw_nil ?_
  refine nw_seq ?_
  refine cw_seq ?_
  refine cw_region ?_
  refine rw_ev (ev_move rfl) rfl rfl rfl ?_
  refine rw_ev (ev_move rfl) rfl rfl rfl ?_
  refine rw_op (op_fn (xs := [.tmp 44, .tmp 45]) ent_49 rfl (c_run w21 u3 (setC raw) (Sl.below sl6) (pickI n (13 : Int)))) rfl rfl rfl ?_
  rintro _ w25 ⟨u24, rfl, k26, sl27⟩
  replace K0 := Ex.trans K0 k26
  replace sl6 := sl6.ex k26
  replace sl23 := sl23.ex k26
  have zw25 := k26.size
  refine rw_ev (ev_move rfl) rfl rfl rfl ?_
  refine rw_ev (ev_extract rfl rfl) rfl rfl rfl ?_
  refine rw_ev (ev_extract rfl rfl) rfl rfl rfl ?_
  refine rw_ev (ev_assign rfl) rfl rfl rfl ?_
  refine rw_ev (ev_assign rfl) rfl rfl rfl ?_
  refine rw_nil ?_
  refine nw_seq ?_
  refine cw_seq ?_
  refine cw_region ?_
  refine rw_ev (ev_move rfl) rfl rfl rfl ?_
  refine rw_ev (ev_move rfl) rfl rfl rfl ?_
  refine rw_op (op_fn (xs := [.tmp 50, .tmp 51]) ent_49 rfl (c_run w25 u20 ((shiftC (turnedC (setC raw) way) (pickI dx (549755813888 : Int)) (-(pickI dy (549755813888 : Int)))).1) (Sl.below sl23) (pickI n (13 : Int)))) rfl rfl rfl ?_
  rintro _ w29 ⟨u28, rfl, k30, sl31⟩
  replace K0 := Ex.trans K0 k30
  replace sl23 := sl23.ex k30
  replace sl27 := sl27.ex k30
  have zw29 := k30.size
  refine rw_ev (ev_move rfl) rfl rfl rfl ?_
  refine rw_ev (ev_extract (vs := #[u28, .int .i64 ((runC ((shiftC (turnedC (setC raw) way) (pickI dx (549755813888 : Int)) (-(pickI dy (549755813888 : Int)))).1) (pickI n (13 : Int))).2)]) rfl rfl) rfl rfl rfl ?_
  refine rw_ev (ev_extract (vs := #[u28, .int .i64 ((runC ((shiftC (turnedC (setC raw) way) (pickI dx (549755813888 : Int)) (-(pickI dy (549755813888 : Int)))).1) (pickI n (13 : Int))).2)]) rfl rfl) rfl rfl rfl ?_
  refine rw_ev (ev_assign rfl) rfl rfl rfl ?_
  refine rw_ev (ev_assign rfl) rfl rfl rfl ?_
  refine rw_nil ?_
  refine nw_seq ?_
  refine cw_seq ?_
  refine cw_region ?_
  refine rw_ev (ev_move rfl) rfl rfl rfl ?_
  refine rw_ev (ev_move rfl) rfl rfl rfl ?_
  refine rw_op (op_fn (xs := [.tmp 56, .tmp 57]) ent_52 rfl (c_turned w29 u24 ((runC (setC raw) (pickI n (13 : Int))).1) (Sl.below sl27) way (by first | exact hT1_ | exact hT2_) (by omega) (by omega))) rfl rfl rfl ?_
  rintro u32 w33 ⟨_, rfl, k34, sl35⟩
  replace K0 := Ex.trans K0 k34
  replace sl27 := sl27.ex k34
  replace sl31 := sl31.ex k34
  have zw33 := k34.size
  refine rw_ev (ev_move rfl) rfl rfl rfl ?_
  refine rw_ev (ev_move rfl) rfl rfl rfl ?_
  refine rw_op (op_fn (xs := [.tmp 58, .tmp 59, .tmp 60]) ent_45 rfl (c_shift w33 u32 (turnedC ((runC (setC raw) (pickI n (13 : Int))).1) way) (Sl.below sl35) (pickI dx (549755813888 : Int)) (-(pickI dy (549755813888 : Int))))) rfl rfl rfl ?_
  rintro _ w37 ⟨u36, rfl, k38, sl39⟩
  replace K0 := Ex.trans K0 k38
  replace sl27 := sl27.ex k38
  replace sl31 := sl31.ex k38
  replace sl35 := sl35.ex k38
  have zw37 := k38.size
  refine rw_ev (ev_move rfl) rfl rfl rfl ?_
  refine rw_ev (ev_extract (vs := #[u36, .int .i64 ((shiftC (turnedC ((runC (setC raw) (pickI n (13 : Int))).1) way) (pickI dx (549755813888 : Int)) (-(pickI dy (549755813888 : Int)))).2)]) rfl rfl) rfl rfl rfl ?_
  refine rw_ev (ev_extract (vs := #[u36, .int .i64 ((shiftC (turnedC ((runC (setC raw) (pickI n (13 : Int))).1) way) (pickI dx (549755813888 : Int)) (-(pickI dy (549755813888 : Int)))).2)]) rfl rfl) rfl rfl rfl ?_
  refine rw_ev (ev_assign rfl) rfl rfl rfl ?_
  refine rw_ev (ev_assign rfl) rfl rfl rfl ?_
  refine rw_nil ?_
  refine nw_seq ?_
  refine cw_seq ?_
  refine cw_region ?_
  refine rw_ev (ev_move rfl) rfl rfl rfl ?_
  refine rw_ev (ev_move rfl) rfl rfl rfl ?_
  refine rw_ev (ev_move rfl) rfl rfl rfl ?_
  refine rw_ev (ev_eq rfl rfl) rfl rfl rfl ?_
  refine rw_ev (ev_pk_t rfl rfl rfl) rfl rfl rfl ?_
  refine rw_ev (ev_move rfl) rfl rfl rfl ?_
  refine rw_ev (ev_move rfl) (gd_tt rfl (dec_t (by first | exact hM1_ | exact hM2_))) rfl rfl ?_
  refine rw_ev (ev_eq (p := (runC ((shiftC (turnedC (setC raw) way) (pickI dx (549755813888 : Int)) (-(pickI dy (549755813888 : Int)))).1) (pickI n (13 : Int))).2) (q := 0) rfl rfl) (gd_tt rfl (dec_t (by first | exact hM1_ | exact hM2_))) rfl rfl ?_
  refine rw_ev (ev_pk_t (b := decide (((runC (setC raw) (pickI n (13 : Int))).2) = 0)) rfl (dec_t (by first | exact hM1_ | exact hM2_)) rfl) rfl rfl rfl ?_
  refine rw_ev (ev_move rfl) rfl rfl rfl ?_
  refine rw_ev (ev_move rfl) (gd_tt rfl (dec_t (by first | exact hM1_ | exact hM2_))) rfl rfl ?_
  refine rw_ev (ev_move rfl) (gd_tt rfl (dec_t (by first | exact hM1_ | exact hM2_))) rfl rfl ?_
  refine rw_op (op_fn (xs := [.tmp 74, .tmp 75]) ent_37 rfl (c_same w37 u28 ((runC ((shiftC (turnedC (setC raw) way) (pickI dx (549755813888 : Int)) (-(pickI dy (549755813888 : Int)))).1) (pickI n (13 : Int))).1) (Sl.below sl31) u36 ((shiftC (turnedC ((runC (setC raw) (pickI n (13 : Int))).1) way) (pickI dx (549755813888 : Int)) (-(pickI dy (549755813888 : Int)))).1) (Sl.below sl39))) (gd_tt rfl (dec_t (by first | exact hM1_ | exact hM2_))) rfl rfl ?_
  rintro _ w40 ⟨rfl, k41⟩
  replace K0 := Ex.trans K0 k41
  replace sl31 := sl31.ex k41
  replace sl39 := sl39.ex k41
  have zw40 := k41.size
  refine rw_ev (ev_pk_t (b := decide (((runC ((shiftC (turnedC (setC raw) way) (pickI dx (549755813888 : Int)) (-(pickI dy (549755813888 : Int)))).1) (pickI n (13 : Int))).2) = 0)) rfl (dec_t (by first | exact hM1_ | exact hM2_)) rfl) rfl rfl rfl ?_
  refine rw_ev (ev_assign rfl) rfl rfl rfl ?_
  refine rw_nil ?_
  refine nw_seq ?_
  refine cw_ret ?_
  refine ret_post (rs := [.tmp 10]) (vs := [.bool (sameC ((runC ((shiftC (turnedC (setC raw) way) (pickI dx (549755813888 : Int)) (-(pickI dy (549755813888 : Int)))).1) (pickI n (13 : Int))).1) ((shiftC (turnedC ((runC (setC raw) (pickI n (13 : Int))).1) way) (pickI dx (549755813888 : Int)) (-(pickI dy (549755813888 : Int)))).1))]) rfl (.tmp rfl .nil) ?_
  refine ⟨?_, K0⟩
  · show (.bool (sameC ((runC ((shiftC (turnedC (setC raw) way) (pickI dx (549755813888 : Int)) (-(pickI dy (549755813888 : Int)))).1) (pickI n (13 : Int))).1) ((shiftC (turnedC ((runC (setC raw) (pickI n (13 : Int))).1) way) (pickI dx (549755813888 : Int)) (-(pickI dy (549755813888 : Int)))).1)) : Value) = _
    refine congrArg Value.bool ?_
    first | rfl | exact hM3_

end Go.Proofs.Ythpaadmpgdglnaa
