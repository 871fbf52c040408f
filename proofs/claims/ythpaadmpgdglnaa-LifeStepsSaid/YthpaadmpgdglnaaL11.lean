/- The law LifeSteps: it returns true. Its condition: numbers of 64 bits. -/
import Derived.Test.YthpaadmpgdglnaaFk
import Derived.Test.YthpaadmpgdglnaaDf
namespace Go.Proofs.Ythpaadmpgdglnaa
open Go Go.RowKit
set_option linter.unusedVariables false
set_option linter.unusedSimpArgs false
set_option maxRecDepth 100000
set_option maxHeartbeats 4000000

theorem law_LifeSteps (w : World) (rv : Value) (raw : List Cell) (hrv : Sl w (fun b => b < w.heap.size) rv 2 (raw.map encC)) (hrvr : RawOk raw) (n : Int) (m : Int) (hn64 : -9223372036854775808 ≤ n ∧ n ≤ 9223372036854775807) (hm64 : -9223372036854775808 ≤ m ∧ m ≤ 9223372036854775807) : Fn Try.prog 11 [rv, .int .i64 n, .int .i64 m] w (fun v w' =>  v = .bool true ∧ Ex w w') := by
  have K0 : Ex w w := Kp.refl _ _
  refine fn_enter (n := 135) Try.func11 rfl rfl (Nat.le_of_ble_eq_true rfl) ?_
  show CW _ _ _ _ _ _ [(0, rv), (1, .int .i64 n), (2, .int .i64 m)] _
  have hlen_ := set_len raw
  have hbx_ := set_box raw
  simp only [bX, bY, bW, bH] at hbx_
  obtain ⟨⟨_, _⟩, ⟨_, _⟩, ⟨_, _⟩, ⟨_, _⟩⟩ := hbx_
  have hn_ := pickI_bd n 8 (by omega)
  have hm_ := pickI_bd m 8 (by omega)
  obtain ⟨hS1_, hS2_, hS3_, hS4_, hS5_⟩ := steps_law raw (pickI n 8) (pickI m 8) (by omega) (by omega)
  obtain ⟨⟨⟨_, _⟩, ⟨_, _⟩, ⟨_, _⟩, ⟨_, _⟩⟩, hX_⟩ := steps_box raw
  simp only [bX, bY, bW, bH] at *
  refine cw_seq ?_
  refine cw_region ?_
  refine rw_ev (ev_assign rfl) rfl rfl rfl ?_
  refine rw_nil ?_
  refine nw_seq ?_
  refine cw_seq ?_
  refine cw_region ?_
  refine rw_op (op_fn (xs := []) ent_43 rfl (c_awake2 w )) rfl rfl rfl ?_
  rintro _ w1 ⟨rfl, k2⟩
  replace K0 := Ex.trans K0 k2
  replace hrv := hrv.ex k2
  have zw1 := k2.size
  refine rw_ev (ev_assign rfl) rfl rfl rfl ?_
  refine rw_nil ?_
  refine nw_seq ?_
  refine cw_seq ?_
  refine cw_region ?_
  refine rw_ev (ev_move rfl) rfl rfl rfl ?_
  refine rw_op (op_fn (xs := [.tmp 22]) ent_44 rfl (c_set w1 rv raw (Sl.below hrv) (by exact hrvr))) rfl rfl rfl ?_
  rintro u3 w4 ⟨_, rfl, k5, sl6⟩
  replace K0 := Ex.trans K0 k5
  replace hrv := hrv.ex k5
  have zw4 := k5.size
  refine rw_ev (ev_assign rfl) rfl rfl rfl ?_
  refine rw_nil ?_
  refine nw_seq ?_
  refine cw_seq ?_
  refine cw_region ?_
  refine rw_ev (ev_move rfl) rfl rfl rfl ?_
  refine rw_ev (ev_move rfl) rfl rfl rfl ?_
  refine rw_op (op_fn (xs := [.tmp 26, .const (.int .i64 8)]) ent_46 rfl (c_pick46 w4 n (8 : Int) (by omega) (by omega))) rfl rfl rfl ?_
  rintro _ w7 ⟨rfl, k8, pr9⟩
  replace K0 := Ex.trans K0 k8
  replace sl6 := sl6.ex k8
  have zw7 := k8.size
  refine rw_op (op_fn (xs := [.tmp 25, .tmp 27]) ent_49 rfl (c_run w7 u3 (setC raw) (Sl.below sl6) (pickI n (8 : Int)))) rfl rfl rfl ?_
  rintro _ w11 ⟨u10, rfl, k12, sl13⟩
  replace K0 := Ex.trans K0 k12
  replace sl6 := sl6.ex k12
  have zw11 := k12.size
  refine rw_ev (ev_move rfl) rfl rfl rfl ?_
  refine rw_ev (ev_extract rfl rfl) rfl rfl rfl ?_
  refine rw_ev (ev_extract rfl rfl) rfl rfl rfl ?_
  refine rw_ev (ev_assign rfl) rfl rfl rfl ?_
  refine rw_ev (ev_assign rfl) rfl rfl rfl ?_
  refine rw_nil ?_
  refine nw_seq ?_
  refine cw_seq ?_
  refine cw_region ?_
  refine rw_ev (ev_move rfl) rfl rfl rfl ?_
  refine rw_ev (ev_move rfl) rfl rfl rfl ?_
  refine rw_op (op_fn (xs := [.tmp 33, .const (.int .i64 8)]) ent_46 rfl (c_pick46 w11 m (8 : Int) (by omega) (by omega))) rfl rfl rfl ?_
  rintro _ w14 ⟨rfl, k15, pr16⟩
  replace K0 := Ex.trans K0 k15
  replace sl6 := sl6.ex k15
  replace sl13 := sl13.ex k15
  have zw14 := k15.size
  refine rw_op (op_fn (xs := [.tmp 32, .tmp 34]) ent_49 rfl (c_run w14 u10 ((runC (setC raw) (pickI n (8 : Int))).1) (Sl.below sl13) (pickI m (8 : Int)))) rfl rfl rfl ?_
  rintro _ w18 ⟨u17, rfl, k19, sl20⟩
  replace K0 := Ex.trans K0 k19
  replace sl6 := sl6.ex k19
  replace sl13 := sl13.ex k19
  have zw18 := k19.size
  refine rw_ev (ev_move rfl) rfl rfl rfl ?_
  refine rw_ev (ev_extract (vs := #[u17, .int .i64 ((runC ((runC (setC raw) (pickI n (8 : Int))).1) (pickI m (8 : Int))).2)]) rfl rfl) rfl rfl rfl ?_
  refine rw_ev (ev_extract (vs := #[u17, .int .i64 ((runC ((runC (setC raw) (pickI n (8 : Int))).1) (pickI m (8 : Int))).2)]) rfl rfl) rfl rfl rfl ?_
  refine rw_ev (ev_assign rfl) rfl rfl rfl ?_
  refine rw_ev (ev_assign rfl) rfl rfl rfl ?_
  refine rw_nil ?_
  refine nw_seq ?_
  refine cw_seq ?_
  refine cw_region ?_
  refine rw_ev (ev_move rfl) rfl rfl rfl ?_
  refine rw_ev (ev_move rfl) rfl rfl rfl ?_
  refine rw_op (op_fn (xs := [.tmp 40, .const (.int .i64 8)]) ent_46 rfl (c_pick46 w18 n (8 : Int) (by omega) (by omega))) rfl rfl rfl ?_
  rintro _ w21 ⟨rfl, k22, pr23⟩
  replace K0 := Ex.trans K0 k22
  replace sl6 := sl6.ex k22
  replace sl20 := sl20.ex k22
  have zw21 := k22.size
  refine rw_ev (ev_move rfl) rfl rfl rfl ?_
  refine rw_op (op_fn (xs := [.tmp 42, .const (.int .i64 8)]) ent_46 rfl (c_pick46 w21 m (8 : Int) (by omega) (by omega))) rfl rfl rfl ?_
  rintro _ w24 ⟨rfl, k25, pr26⟩
  replace K0 := Ex.trans K0 k25
  replace sl6 := sl6.ex k25
  replace sl20 := sl20.ex k25
  have zw24 := k25.size
  refine rw_ev (ev_add rfl rfl (by omega)) rfl rfl rfl ?_
  refine rw_op (op_fn (xs := [.tmp 39, .tmp 44]) ent_49 rfl (c_run w24 u3 (setC raw) (Sl.below sl6) ((pickI n (8 : Int)) + (pickI m (8 : Int))))) rfl rfl rfl ?_
  rintro _ w28 ⟨u27, rfl, k29, sl30⟩
  replace K0 := Ex.trans K0 k29
  replace sl6 := sl6.ex k29
  replace sl20 := sl20.ex k29
  have zw28 := k29.size
  refine rw_ev (ev_move rfl) rfl rfl rfl ?_
  refine rw_ev (ev_extract (vs := #[u27, .int .i64 ((runC (setC raw) ((pickI n (8 : Int)) + (pickI m (8 : Int)))).2)]) rfl rfl) rfl rfl rfl ?_
  refine rw_ev (ev_extract (vs := #[u27, .int .i64 ((runC (setC raw) ((pickI n (8 : Int)) + (pickI m (8 : Int)))).2)]) rfl rfl) rfl rfl rfl ?_
  refine rw_ev (ev_assign rfl) rfl rfl rfl ?_
  refine rw_ev (ev_assign rfl) rfl rfl rfl ?_
  refine rw_nil ?_
  refine nw_seq ?_
  refine cw_seq ?_
  refine cw_region ?_
  refine rw_ev (ev_move rfl) rfl rfl rfl ?_
  refine rw_op (op_fn (xs := [.tmp 49]) ent_47 rfl (c_next w28 u3 (setC raw) (Sl.below sl6))) rfl rfl rfl ?_
  rintro _ w32 ⟨u31, rfl, k33, sl34⟩
  replace K0 := Ex.trans K0 k33
  replace sl6 := sl6.ex k33
  replace sl20 := sl20.ex k33
  replace sl30 := sl30.ex k33
  have zw32 := k33.size
  refine rw_ev (ev_move rfl) rfl rfl rfl ?_
  refine rw_ev (ev_extract rfl rfl) rfl rfl rfl ?_
  refine rw_ev (ev_extract rfl rfl) rfl rfl rfl ?_
  refine rw_ev (ev_assign rfl) rfl rfl rfl ?_
  refine rw_ev (ev_assign rfl) rfl rfl rfl ?_
  refine rw_nil ?_
  refine nw_seq ?_
  refine cw_seq ?_
  refine cw_region ?_
  refine rw_ev (ev_move rfl) rfl rfl rfl ?_
  refine rw_op (op_fn (xs := [.tmp 54]) ent_53 rfl (c_box w32 u3 (setC raw) (Sl.below sl6))) rfl rfl rfl ?_
  rintro _ w35 ⟨rfl, k36⟩
  replace K0 := Ex.trans K0 k36
  replace sl6 := sl6.ex k36
  replace sl20 := sl20.ex k36
  replace sl30 := sl30.ex k36
  replace sl34 := sl34.ex k36
  have zw35 := k36.size
  refine rw_ev (ev_move rfl) rfl rfl rfl ?_
  refine rw_ev (ev_extract rfl rfl) rfl rfl rfl ?_
  refine rw_ev (ev_extract rfl rfl) rfl rfl rfl ?_
  refine rw_op (op_alloc zero_69) rfl rfl rfl ?_
  rintro _ w38 ⟨g37, rfl, hg39, k40, b41⟩
  replace K0 := Ex.trans K0 k40
  replace sl6 := sl6.ex k40
  replace sl20 := sl20.ex k40
  replace sl30 := sl30.ex k40
  replace sl34 := sl34.ex k40
  have zw38 := k40.size
  have lg37 := b41.lt
  refine rw_none (op_store (off := 0) (v := .agg #[.int .i64 ((boxC (setC raw)).1.1), .int .i64 ((boxC (setC raw)).1.2.1), .int .i64 ((boxC (setC raw)).1.2.2.1), .int .i64 ((boxC (setC raw)).1.2.2.2)]) (cs' := #[.int .i64 ((boxC (setC raw)).1.1), .int .i64 ((boxC (setC raw)).1.2.1), .int .i64 ((boxC (setC raw)).1.2.2.1), .int .i64 ((boxC (setC raw)).1.2.2.2)]) b41 rfl rfl size_69 rfl (Nat.le_of_ble_eq_true rfl) (one_cons rfl (one_cons rfl (one_cons rfl (one_cons rfl one_nil)))) rfl) rfl rfl ?_
  rintro _ w42 ⟨k43, b44⟩
  replace K0 := Ex.kp_new K0 k43 (fun _ h => h ▸ Nat.le_trans (Nat.le_trans zw1 (Nat.le_trans zw4 (Nat.le_trans zw7 (Nat.le_trans zw11 (Nat.le_trans zw14 (Nat.le_trans zw18 (Nat.le_trans zw21 (Nat.le_trans zw24 (Nat.le_trans zw28 (Nat.le_trans zw32 zw35)))))))))) hg39)
  replace sl6 := sl6.kp k43 (fun b h e => Nat.lt_irrefl _ (Nat.lt_of_lt_of_le (show g37 < _ from e ▸ (show b < _ from h.2)) (Nat.le_trans (Nat.le_trans zw7 (Nat.le_trans zw11 (Nat.le_trans zw14 (Nat.le_trans zw18 (Nat.le_trans zw21 (Nat.le_trans zw24 (Nat.le_trans zw28 (Nat.le_trans zw32 zw35)))))))) hg39)))
  replace sl20 := sl20.kp k43 (fun b h e => Nat.lt_irrefl _ (Nat.lt_of_lt_of_le (show g37 < _ from e ▸ (show b < _ from h.2)) (Nat.le_trans (Nat.le_trans zw21 (Nat.le_trans zw24 (Nat.le_trans zw28 (Nat.le_trans zw32 zw35)))) hg39)))
  replace sl30 := sl30.kp k43 (fun b h e => Nat.lt_irrefl _ (Nat.lt_of_lt_of_le (show g37 < _ from e ▸ (show b < _ from h.2)) (Nat.le_trans (Nat.le_trans zw32 zw35) hg39)))
  replace sl34 := sl34.kp k43 (fun b h e => Nat.lt_irrefl _ (Nat.lt_of_lt_of_le (show g37 < _ from e ▸ (show b < _ from h.2)) (Nat.le_trans zw35 hg39)))
  have zw42 := k43.size
  refine rw_ev (ev_assign rfl) rfl rfl rfl ?_
  refine rw_nil ?_
  refine nw_seq ?_
  refine cw_seq ?_
  refine cw_region ?_
  refine rw_ev (ev_move rfl) rfl rfl rfl ?_
  refine rw_op (op_fn (xs := [.tmp 59]) ent_53 rfl (c_box w42 u31 ((nextC (setC raw)).1) (Sl.below sl34))) rfl rfl rfl ?_
  rintro _ w45 ⟨rfl, k46⟩
  replace K0 := Ex.trans K0 k46
  replace sl20 := sl20.ex k46
  replace sl30 := sl30.ex k46
  replace sl34 := sl34.ex k46
  replace b44 := b44.ex k46
  have zw45 := k46.size
  refine rw_ev (ev_move rfl) rfl rfl rfl ?_
  refine rw_ev (ev_extract (vs := #[.agg #[.int .i64 ((boxC ((nextC (setC raw)).1)).1.1), .int .i64 ((boxC ((nextC (setC raw)).1)).1.2.1), .int .i64 ((boxC ((nextC (setC raw)).1)).1.2.2.1), .int .i64 ((boxC ((nextC (setC raw)).1)).1.2.2.2)], .bool ((boxC ((nextC (setC raw)).1)).2)]) rfl rfl) rfl rfl rfl ?_
  refine rw_ev (ev_extract (vs := #[.agg #[.int .i64 ((boxC ((nextC (setC raw)).1)).1.1), .int .i64 ((boxC ((nextC (setC raw)).1)).1.2.1), .int .i64 ((boxC ((nextC (setC raw)).1)).1.2.2.1), .int .i64 ((boxC ((nextC (setC raw)).1)).1.2.2.2)], .bool ((boxC ((nextC (setC raw)).1)).2)]) rfl rfl) rfl rfl rfl ?_
  refine rw_op (op_alloc zero_69) rfl rfl rfl ?_
  rintro _ w48 ⟨g47, rfl, hg49, k50, b51⟩
  replace K0 := Ex.trans K0 k50
  replace sl20 := sl20.ex k50
  replace sl30 := sl30.ex k50
  replace sl34 := sl34.ex k50
  replace b44 := b44.ex k50
  have zw48 := k50.size
  have lg47 := b51.lt
  refine rw_none (op_store (off := 0) (v := .agg #[.int .i64 ((boxC ((nextC (setC raw)).1)).1.1), .int .i64 ((boxC ((nextC (setC raw)).1)).1.2.1), .int .i64 ((boxC ((nextC (setC raw)).1)).1.2.2.1), .int .i64 ((boxC ((nextC (setC raw)).1)).1.2.2.2)]) (cs' := #[.int .i64 ((boxC ((nextC (setC raw)).1)).1.1), .int .i64 ((boxC ((nextC (setC raw)).1)).1.2.1), .int .i64 ((boxC ((nextC (setC raw)).1)).1.2.2.1), .int .i64 ((boxC ((nextC (setC raw)).1)).1.2.2.2)]) b51 rfl rfl size_69 rfl (Nat.le_of_ble_eq_true rfl) (one_cons rfl (one_cons rfl (one_cons rfl (one_cons rfl one_nil)))) rfl) rfl rfl ?_
  rintro _ w52 ⟨k53, b54⟩
  replace K0 := Ex.kp_new K0 k53 (fun _ h => h ▸ Nat.le_trans (Nat.le_trans zw1 (Nat.le_trans zw4 (Nat.le_trans zw7 (Nat.le_trans zw11 (Nat.le_trans zw14 (Nat.le_trans zw18 (Nat.le_trans zw21 (Nat.le_trans zw24 (Nat.le_trans zw28 (Nat.le_trans zw32 (Nat.le_trans zw35 (Nat.le_trans zw38 (Nat.le_trans zw42 zw45))))))))))))) hg49)
  replace sl20 := sl20.kp k53 (fun b h e => Nat.lt_irrefl _ (Nat.lt_of_lt_of_le (show g47 < _ from e ▸ (show b < _ from h.2)) (Nat.le_trans (Nat.le_trans zw21 (Nat.le_trans zw24 (Nat.le_trans zw28 (Nat.le_trans zw32 (Nat.le_trans zw35 (Nat.le_trans zw38 (Nat.le_trans zw42 zw45))))))) hg49)))
  replace sl30 := sl30.kp k53 (fun b h e => Nat.lt_irrefl _ (Nat.lt_of_lt_of_le (show g47 < _ from e ▸ (show b < _ from h.2)) (Nat.le_trans (Nat.le_trans zw32 (Nat.le_trans zw35 (Nat.le_trans zw38 (Nat.le_trans zw42 zw45)))) hg49)))
  replace sl34 := sl34.kp k53 (fun b h e => Nat.lt_irrefl _ (Nat.lt_of_lt_of_le (show g47 < _ from e ▸ (show b < _ from h.2)) (Nat.le_trans (Nat.le_trans zw35 (Nat.le_trans zw38 (Nat.le_trans zw42 zw45))) hg49)))
  replace b44 := b44.kp k53 (Nat.ne_of_lt (Nat.lt_of_lt_of_le lg37 (Nat.le_trans (Nat.le_trans zw42 zw45) hg49)))
  have zw52 := k53.size
  refine rw_ev (ev_assign rfl) rfl rfl rfl ?_
  refine rw_nil ?_
  refine nw_seq ?_
  refine cw_seq ?_
  refine cw_seq ?_
  refine cw_region ?_
  refine rw_ev (ev_move rfl) rfl rfl rfl ?_
  refine rw_ev (ev_ne rfl rfl) rfl rfl rfl ?_
  refine rw_ev (ev_move rfl) rfl rfl rfl ?_
  refine rw_ev (ev_move rfl) (gd_ff rfl (dec_f (by exact fun h_ => h_ (by first | exact hS1_ | exact hS2_ | exact hS3_ | exact hS4_)))) rfl rfl ?_
  refine rw_ev (ev_ne (p := (runC ((runC (setC raw) (pickI n (8 : Int))).1) (pickI m (8 : Int))).2) (q := 0) rfl rfl) (gd_ff rfl (dec_f (by exact fun h_ => h_ (by first | exact hS1_ | exact hS2_ | exact hS3_ | exact hS4_)))) rfl rfl ?_
  refine rw_ev (ev_pk_f (b := decide (((runC (setC raw) (pickI n (8 : Int))).2) ≠ 0)) rfl (dec_f (by exact fun h_ => h_ (by first | exact hS1_ | exact hS2_ | exact hS3_ | exact hS4_))) rfl) rfl rfl rfl ?_
  refine rw_ev (ev_move rfl) rfl rfl rfl ?_
  refine rw_ev (ev_move rfl) (gd_ff rfl (dec_f (by exact fun h_ => h_ (by first | exact hS1_ | exact hS2_ | exact hS3_ | exact hS4_)))) rfl rfl ?_
  refine rw_ev (ev_ne rfl rfl) (gd_ff rfl (dec_f (by exact fun h_ => h_ (by first | exact hS1_ | exact hS2_ | exact hS3_ | exact hS4_)))) rfl rfl ?_
  refine rw_ev (ev_pk_f (b := decide (((runC ((runC (setC raw) (pickI n (8 : Int))).1) (pickI m (8 : Int))).2) ≠ 0)) rfl (dec_f (by exact fun h_ => h_ (by first | exact hS1_ | exact hS2_ | exact hS3_ | exact hS4_))) rfl) rfl rfl rfl ?_
  refine rw_ev (ev_move rfl) rfl rfl rfl ?_
  refine rw_ev (ev_move rfl) (gd_ff rfl (dec_f (by exact fun h_ => h_ (by first | exact hS1_ | exact hS2_ | exact hS3_ | exact hS4_)))) rfl rfl ?_
  refine rw_ev (ev_ne rfl rfl) (gd_ff rfl (dec_f (by exact fun h_ => h_ (by first | exact hS1_ | exact hS2_ | exact hS3_ | exact hS4_)))) rfl rfl ?_
  refine rw_ev (ev_pk_f (b := decide (((runC (setC raw) ((pickI n (8 : Int)) + (pickI m (8 : Int)))).2) ≠ 0)) rfl (dec_f (by exact fun h_ => h_ (by first | exact hS1_ | exact hS2_ | exact hS3_ | exact hS4_))) rfl) rfl rfl rfl ?_
  refine rw_ev (ev_move rfl) rfl rfl rfl ?_
  refine rw_ev (ev_move rfl) (gd_ff rfl (dec_f (by exact fun h_ => h_ (by first | exact hS1_ | exact hS2_ | exact hS3_ | exact hS4_)))) rfl rfl ?_
  refine rw_ev (ev_move rfl) (gd_ff rfl (dec_f (by exact fun h_ => h_ (by first | exact hS1_ | exact hS2_ | exact hS3_ | exact hS4_)))) rfl rfl ?_
  refine rw_op (op_fn (xs := [.tmp 78, .tmp 79]) ent_37 rfl (c_same w52 u17 ((runC ((runC (setC raw) (pickI n (8 : Int))).1) (pickI m (8 : Int))).1) (Sl.below sl20) u27 ((runC (setC raw) ((pickI n (8 : Int)) + (pickI m (8 : Int)))).1) (Sl.below sl30))) (gd_ff rfl (dec_f (by exact fun h_ => h_ (by first | exact hS1_ | exact hS2_ | exact hS3_ | exact hS4_)))) rfl rfl ?_
  rintro _ w55 ⟨rfl, k56⟩
  replace K0 := Ex.trans K0 k56
  replace sl20 := sl20.ex k56
  replace sl30 := sl30.ex k56
  replace b44 := b44.ex k56
  replace b54 := b54.ex k56
  have zw55 := k56.size
  refine rw_ev (ev_not (b := sameC ((runC ((runC (setC raw) (pickI n (8 : Int))).1) (pickI m (8 : Int))).1) ((runC (setC raw) ((pickI n (8 : Int)) + (pickI m (8 : Int)))).1)) rfl rfl) (gd_ff rfl (dec_f (by exact fun h_ => h_ (by first | exact hS1_ | exact hS2_ | exact hS3_ | exact hS4_)))) rfl rfl ?_
  refine rw_ev (ev_pk_f rfl (dec_f (by exact fun h_ => h_ (by first | exact hS1_ | exact hS2_ | exact hS3_ | exact hS4_))) rfl) rfl rfl rfl ?_
  refine rw_nil ?_
  refine nw_seq ?_
  refine cw_f (b := !(sameC ((runC ((runC (setC raw) (pickI n (8 : Int))).1) (pickI m (8 : Int))).1) ((runC (setC raw) ((pickI n (8 : Int)) + (pickI m (8 : Int)))).1))) rfl (not_f (by exact hS5_)) ?_
  refine cw_skip ?_
  refine nw_seq ?_
  refine cw_seq ?_
  refine cw_region ?_
  refine rw_ev (ev_move rfl) rfl rfl rfl ?_
  refine rw_ev (ev_move rfl) rfl rfl rfl ?_
  refine rw_ev (ev_move rfl) rfl rfl rfl ?_
  refine rw_ev (ev_not rfl rfl) rfl rfl rfl ?_
  refine rw_ev (ev_move rfl) rfl rfl rfl ?_
  rcases Bool.eq_false_or_eq_true ((boxC ((nextC (setC raw)).1)).2) with h57 | h57
  ·
   refine rw_ev (ev_move rfl) (gd_ff rfl (not_f h57)) rfl rfl ?_
   refine rw_ev (ev_move rfl) (gd_ff rfl (not_f h57)) rfl rfl ?_
   refine rw_ev (v := .pointer (some ⟨g47, 0, none⟩)) (ev_field (o := 0) rfl foff_69_0) (gd_tt rfl (by have h_ := hX_ (by assumption); exact h_.1)) rfl rfl ?_
   refine rw_ev (v := .int .i64 ((boxC ((nextC (setC raw)).1)).1.1)) (ev_lb1 (off := 0) (fun _ h => h ▸ b54) rfl one_3 rfl) (gd_tt rfl (by have h_ := hX_ (by assumption); exact h_.1)) rfl rfl ?_
   refine rw_ev (v := .pointer (some ⟨g37, 0, none⟩)) (ev_field (o := 0) rfl foff_69_0) (gd_tt rfl (by have h_ := hX_ (by assumption); exact h_.1)) rfl rfl ?_
   refine rw_ev (v := .int .i64 ((boxC (setC raw)).1.1)) (ev_lb1 (off := 0) (fun _ h => h ▸ b44) rfl one_3 rfl) (gd_tt rfl (by have h_ := hX_ (by assumption); exact h_.1)) rfl rfl ?_
   refine rw_ev (ev_sub rfl rfl (by omega)) (gd_tt rfl (by have h_ := hX_ (by assumption); exact h_.1)) rfl rfl ?_
   refine rw_ev (ev_geq rfl rfl) (gd_tt rfl (by have h_ := hX_ (by assumption); exact h_.1)) rfl rfl ?_
   refine rw_ev (ev_pk_t rfl (by have h_ := hX_ (by assumption); exact h_.1) rfl) (gd_ff rfl (not_f h57)) rfl rfl ?_
   refine rw_ev (ev_move rfl) (gd_ff rfl (not_f h57)) rfl rfl ?_
   refine rw_ev (v := .pointer (some ⟨g47, 1, none⟩)) (ev_field (o := 1) rfl foff_69_1) (gd_tt rfl (dec_t (by have h_ := hX_ (by assumption); omega))) rfl rfl ?_
   refine rw_ev (v := .int .i64 ((boxC ((nextC (setC raw)).1)).1.2.1)) (ev_lb1 (off := 1) (fun _ h => h ▸ b54) rfl one_3 rfl) (gd_tt rfl (dec_t (by have h_ := hX_ (by assumption); omega))) rfl rfl ?_
   refine rw_ev (v := .pointer (some ⟨g37, 1, none⟩)) (ev_field (o := 1) rfl foff_69_1) (gd_tt rfl (dec_t (by have h_ := hX_ (by assumption); omega))) rfl rfl ?_
   refine rw_ev (v := .int .i64 ((boxC (setC raw)).1.2.1)) (ev_lb1 (off := 1) (fun _ h => h ▸ b44) rfl one_3 rfl) (gd_tt rfl (dec_t (by have h_ := hX_ (by assumption); omega))) rfl rfl ?_
   refine rw_ev (ev_sub rfl rfl (by omega)) (gd_tt rfl (dec_t (by have h_ := hX_ (by assumption); omega))) rfl rfl ?_
   refine rw_ev (ev_geq rfl rfl) (gd_tt rfl (dec_t (by have h_ := hX_ (by assumption); omega))) rfl rfl ?_
   refine rw_ev (ev_pk_t (b := decide ((((boxC (setC raw)).1.1) - 1) ≤ ((boxC ((nextC (setC raw)).1)).1.1))) rfl (dec_t (by have h_ := hX_ (by assumption); omega)) rfl) (gd_ff rfl (not_f h57)) rfl rfl ?_
   refine rw_ev (ev_move rfl) (gd_ff rfl (not_f h57)) rfl rfl ?_
   refine rw_ev (v := .pointer (some ⟨g47, 0, none⟩)) (ev_field (o := 0) rfl foff_69_0) (gd_tt rfl (dec_t (by have h_ := hX_ (by assumption); omega))) rfl rfl ?_
   refine rw_ev (v := .int .i64 ((boxC ((nextC (setC raw)).1)).1.1)) (ev_lb1 (off := 0) (fun _ h => h ▸ b54) rfl one_3 rfl) (gd_tt rfl (dec_t (by have h_ := hX_ (by assumption); omega))) rfl rfl ?_
   refine rw_ev (v := .pointer (some ⟨g47, 2, none⟩)) (ev_field (o := 2) rfl foff_69_2) (gd_tt rfl (dec_t (by have h_ := hX_ (by assumption); omega))) rfl rfl ?_
   refine rw_ev (v := .int .i64 ((boxC ((nextC (setC raw)).1)).1.2.2.1)) (ev_lb1 (off := 2) (fun _ h => h ▸ b54) rfl one_3 rfl) (gd_tt rfl (dec_t (by have h_ := hX_ (by assumption); omega))) rfl rfl ?_
   refine rw_ev (ev_add rfl rfl (by omega)) (gd_tt rfl (dec_t (by have h_ := hX_ (by assumption); omega))) rfl rfl ?_
   refine rw_ev (v := .pointer (some ⟨g37, 0, none⟩)) (ev_field (o := 0) rfl foff_69_0) (gd_tt rfl (dec_t (by have h_ := hX_ (by assumption); omega))) rfl rfl ?_
   refine rw_ev (v := .int .i64 ((boxC (setC raw)).1.1)) (ev_lb1 (off := 0) (fun _ h => h ▸ b44) rfl one_3 rfl) (gd_tt rfl (dec_t (by have h_ := hX_ (by assumption); omega))) rfl rfl ?_
   refine rw_ev (v := .pointer (some ⟨g37, 2, none⟩)) (ev_field (o := 2) rfl foff_69_2) (gd_tt rfl (dec_t (by have h_ := hX_ (by assumption); omega))) rfl rfl ?_
   refine rw_ev (v := .int .i64 ((boxC (setC raw)).1.2.2.1)) (ev_lb1 (off := 2) (fun _ h => h ▸ b44) rfl one_3 rfl) (gd_tt rfl (dec_t (by have h_ := hX_ (by assumption); omega))) rfl rfl ?_
   refine rw_ev (ev_add rfl rfl (by omega)) (gd_tt rfl (dec_t (by have h_ := hX_ (by assumption); omega))) rfl rfl ?_
   refine rw_ev (ev_add rfl rfl (by omega)) (gd_tt rfl (dec_t (by have h_ := hX_ (by assumption); omega))) rfl rfl ?_
   refine rw_ev (ev_leq (p := ((boxC ((nextC (setC raw)).1)).1.1) + ((boxC ((nextC (setC raw)).1)).1.2.2.1)) (q := (((boxC (setC raw)).1.1) + ((boxC (setC raw)).1.2.2.1)) + 1) rfl rfl) (gd_tt rfl (dec_t (by have h_ := hX_ (by assumption); omega))) rfl rfl ?_
   refine rw_ev (ev_pk_t (b := decide ((((boxC (setC raw)).1.2.1) - 1) ≤ ((boxC ((nextC (setC raw)).1)).1.2.1))) rfl (dec_t (by have h_ := hX_ (by assumption); omega)) rfl) (gd_ff rfl (not_f h57)) rfl rfl ?_
   refine rw_ev (ev_move rfl) (gd_ff rfl (not_f h57)) rfl rfl ?_
   refine rw_ev (v := .pointer (some ⟨g47, 1, none⟩)) (ev_field (o := 1) rfl foff_69_1) (gd_tt rfl (dec_t (by have h_ := hX_ (by assumption); omega))) rfl rfl ?_
   refine rw_ev (v := .int .i64 ((boxC ((nextC (setC raw)).1)).1.2.1)) (ev_lb1 (off := 1) (fun _ h => h ▸ b54) rfl one_3 rfl) (gd_tt rfl (dec_t (by have h_ := hX_ (by assumption); omega))) rfl rfl ?_
   refine rw_ev (v := .pointer (some ⟨g47, 3, none⟩)) (ev_field (o := 3) rfl foff_69_3) (gd_tt rfl (dec_t (by have h_ := hX_ (by assumption); omega))) rfl rfl ?_
   refine rw_ev (v := .int .i64 ((boxC ((nextC (setC raw)).1)).1.2.2.2)) (ev_lb1 (off := 3) (fun _ h => h ▸ b54) rfl one_3 rfl) (gd_tt rfl (dec_t (by have h_ := hX_ (by assumption); omega))) rfl rfl ?_
   refine rw_ev (ev_add rfl rfl (by omega)) (gd_tt rfl (dec_t (by have h_ := hX_ (by assumption); omega))) rfl rfl ?_
   refine rw_ev (v := .pointer (some ⟨g37, 1, none⟩)) (ev_field (o := 1) rfl foff_69_1) (gd_tt rfl (dec_t (by have h_ := hX_ (by assumption); omega))) rfl rfl ?_
   refine rw_ev (v := .int .i64 ((boxC (setC raw)).1.2.1)) (ev_lb1 (off := 1) (fun _ h => h ▸ b44) rfl one_3 rfl) (gd_tt rfl (dec_t (by have h_ := hX_ (by assumption); omega))) rfl rfl ?_
   refine rw_ev (v := .pointer (some ⟨g37, 3, none⟩)) (ev_field (o := 3) rfl foff_69_3) (gd_tt rfl (dec_t (by have h_ := hX_ (by assumption); omega))) rfl rfl ?_
   refine rw_ev (v := .int .i64 ((boxC (setC raw)).1.2.2.2)) (ev_lb1 (off := 3) (fun _ h => h ▸ b44) rfl one_3 rfl) (gd_tt rfl (dec_t (by have h_ := hX_ (by assumption); omega))) rfl rfl ?_
   refine rw_ev (ev_add rfl rfl (by omega)) (gd_tt rfl (dec_t (by have h_ := hX_ (by assumption); omega))) rfl rfl ?_
   refine rw_ev (ev_add rfl rfl (by omega)) (gd_tt rfl (dec_t (by have h_ := hX_ (by assumption); omega))) rfl rfl ?_
   refine rw_ev (ev_leq (p := ((boxC ((nextC (setC raw)).1)).1.2.1) + ((boxC ((nextC (setC raw)).1)).1.2.2.2)) (q := (((boxC (setC raw)).1.2.1) + ((boxC (setC raw)).1.2.2.2)) + 1) rfl rfl) (gd_tt rfl (dec_t (by have h_ := hX_ (by assumption); omega))) rfl rfl ?_
   refine rw_ev (ev_pk_t (b := decide ((((boxC ((nextC (setC raw)).1)).1.1) + ((boxC ((nextC (setC raw)).1)).1.2.2.1)) ≤ ((((boxC (setC raw)).1.1) + ((boxC (setC raw)).1.2.2.1)) + 1))) rfl (dec_t (by have h_ := hX_ (by assumption); omega)) rfl) (gd_ff rfl (not_f h57)) rfl rfl ?_
   refine rw_ev (ev_pk_f (b := !((boxC ((nextC (setC raw)).1)).2)) rfl (not_f h57) rfl) rfl rfl rfl ?_
   refine rw_ev (ev_pk_t rfl rfl rfl) rfl rfl rfl ?_
   refine rw_ev (ev_assign rfl) rfl rfl rfl ?_
   refine rw_nil ?_
   refine nw_seq ?_
   refine cw_ret ?_
   refine ret_post (rs := [.tmp 6]) (vs := [.bool (decide ((((boxC ((nextC (setC raw)).1)).1.2.1) + ((boxC ((nextC (setC raw)).1)).1.2.2.2)) ≤ ((((boxC (setC raw)).1.2.1) + ((boxC (setC raw)).1.2.2.2)) + 1)))]) rfl (.tmp rfl .nil) ?_
   refine ⟨?_, K0⟩
   · show (.bool (decide ((((boxC ((nextC (setC raw)).1)).1.2.1) + ((boxC ((nextC (setC raw)).1)).1.2.2.2)) ≤ ((((boxC (setC raw)).1.2.1) + ((boxC (setC raw)).1.2.2.2)) + 1))) : Value) = _
     refine congrArg Value.bool ?_
     first | rfl | (have h_ := hX_ (by assumption); exact decide_eq_true (by omega))
  ·
   refine rw_skip (gd_ft rfl (not_t h57)) rfl rfl ?_
   refine rw_skip (gd_ft rfl (not_t h57)) rfl rfl ?_
   refine rw_skip rfl rfl rfl ?_
   refine rw_skip rfl rfl rfl ?_
   refine rw_skip rfl rfl rfl ?_
   refine rw_skip rfl rfl rfl ?_
   refine rw_skip rfl rfl rfl ?_
   refine rw_skip rfl rfl rfl ?_
   refine rw_skip (gd_ft rfl (not_t h57)) rfl rfl ?_
   refine rw_skip (gd_ft rfl (not_t h57)) rfl rfl ?_
   refine rw_skip rfl rfl rfl ?_
   refine rw_skip rfl rfl rfl ?_
   refine rw_skip rfl rfl rfl ?_
   refine rw_skip rfl rfl rfl ?_
   refine rw_skip rfl rfl rfl ?_
   refine rw_skip rfl rfl rfl ?_
   refine rw_skip (gd_ft rfl (not_t h57)) rfl rfl ?_
   refine rw_skip (gd_ft rfl (not_t h57)) rfl rfl ?_
   refine rw_skip rfl rfl rfl ?_
   refine rw_skip rfl rfl rfl ?_
   refine rw_skip rfl rfl rfl ?_
   refine rw_skip rfl rfl rfl ?_
   refine rw_skip rfl rfl rfl ?_
   refine rw_skip rfl rfl rfl ?_
   refine rw_skip rfl rfl rfl ?_
   refine rw_skip rfl rfl rfl ?_
   refine rw_skip rfl rfl rfl ?_
   refine rw_skip rfl rfl rfl ?_
   refine rw_skip rfl rfl rfl ?_
   refine rw_skip rfl rfl rfl ?_
   refine rw_skip (gd_ft rfl (not_t h57)) rfl rfl ?_
   refine rw_skip (gd_ft rfl (not_t h57)) rfl rfl ?_
   refine rw_skip rfl rfl rfl ?_
   refine rw_skip rfl rfl rfl ?_
   refine rw_skip rfl rfl rfl ?_
   refine rw_skip rfl rfl rfl ?_
   refine rw_skip rfl rfl rfl ?_
   refine rw_skip rfl rfl rfl ?_
   refine rw_skip rfl rfl rfl ?_
   refine rw_skip rfl rfl rfl ?_
   refine rw_skip rfl rfl rfl ?_
   refine rw_skip rfl rfl rfl ?_
   refine rw_skip rfl rfl rfl ?_
   refine rw_skip rfl rfl rfl ?_
   refine rw_skip (gd_ft rfl (not_t h57)) rfl rfl ?_
   refine rw_ev (ev_pk_t (b := !((boxC ((nextC (setC raw)).1)).2)) rfl (not_t h57) rfl) rfl rfl rfl ?_
   refine rw_ev (ev_pk_t rfl rfl rfl) rfl rfl rfl ?_
   refine rw_ev (ev_assign rfl) rfl rfl rfl ?_
   refine rw_nil ?_
   refine nw_seq ?_
   refine cw_ret ?_
   refine ret_post (rs := [.tmp 6]) (vs := [.bool true]) rfl (.tmp rfl .nil) ?_
   refine ⟨?_, K0⟩
   · show (.bool true : Value) = _
     refine congrArg Value.bool ?_
     first | rfl | (have h_ := hX_ (by assumption); exact decide_eq_true (by omega))

end Go.Proofs.Ythpaadmpgdglnaa
