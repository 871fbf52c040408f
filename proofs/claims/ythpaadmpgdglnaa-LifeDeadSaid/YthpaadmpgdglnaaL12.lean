/- The law LifeDead: it returns true. Its condition: numbers of 64 bits. -/
import Derived.Test.YthpaadmpgdglnaaFk
import Derived.Test.YthpaadmpgdglnaaF7
import Derived.Test.YthpaadmpgdglnaaDe
namespace Go.Proofs.Ythpaadmpgdglnaa
open Go Go.RowKit
set_option linter.unusedVariables false
set_option linter.unusedSimpArgs false
set_option maxRecDepth 100000
set_option maxHeartbeats 4000000

theorem law_LifeDead (w : World) (rv : Value) (raw : List Cell) (hrv : Sl w (fun b => b < w.heap.size) rv 2 (raw.map encC)) (hrvr : RawOk raw) (n : Int) (hn64 : -9223372036854775808 ≤ n ∧ n ≤ 9223372036854775807) : Fn Try.prog 12 [rv, .int .i64 n] w (fun v w' =>  v = .bool true ∧ Ex w w') := by
  have K0 : Ex w w := Kp.refl _ _
  refine fn_enter (n := 71) Try.func12 rfl rfl (Nat.le_of_ble_eq_true rfl) ?_
  show CW _ _ _ _ _ _ [(0, rv), (1, .int .i64 n)] _
  have hlen_ := set_len raw
  have hn_ := pickI_bd n 1001 (by omega)
  have hA_ : nextC (((setC raw).take ((min ((setC raw).length : Int) 2).toNat)).drop 0) = ([], 0) := by
    rw [List.drop_zero]; exact next_few (right_take (set_right raw) _) (by rw [List.length_take]; omega)
  have hR_ : runC [] (pickI n (1001 : Int)) = ([], 0) := by
    unfold runC; rw [if_pos ⟨right_nil, by omega, by omega⟩]; exact run_nil _
  obtain ⟨hN1_, hN2_, hN3_, _⟩ := set_next raw
  refine cw_seq ?_
  refine cw_region ?_
  refine rw_ev (ev_assign rfl) rfl rfl rfl ?_
  refine rw_nil ?_
  refine nw_seq ?_
  refine cw_seq ?_
  refine cw_region ?_
  refine rw_op (op_fn (xs := []) ent_43 rfl (c_awake2 w )) rfl rfl rfl ?_
  rintro _ w1 ⟨rfl, k2⟩
  replace K0 := Ex.trans K0 k2
  replace hrv := hrv.ex k2
  have zw1 := k2.size
  refine rw_ev (ev_assign rfl) rfl rfl rfl ?_
  refine rw_nil ?_
  refine nw_seq ?_
  refine cw_seq ?_
  refine cw_region ?_
  refine rw_ev (ev_move rfl) rfl rfl rfl ?_
  refine rw_op (op_fn (xs := [.tmp 14]) ent_44 rfl (c_set w1 rv raw (Sl.below hrv) (by exact hrvr))) rfl rfl rfl ?_
  rintro u3 w4 ⟨_, rfl, k5, sl6⟩
  replace K0 := Ex.trans K0 k5
  replace hrv := hrv.ex k5
  have zw4 := k5.size
  refine rw_ev (ev_assign rfl) rfl rfl rfl ?_
  refine rw_nil ?_
  refine nw_seq ?_
  refine cw_seq ?_
  refine cw_region ?_
  refine rw_ev (ev_move rfl) rfl rfl rfl ?_
  refine rw_ev (ev_move rfl) rfl rfl rfl ?_
  refine rw_ev (v := .int .i64 ((setC raw).length : Int)) (ev_lenm (l := setC raw) ⟨_, sl6⟩ rfl el_46 rfl) rfl rfl rfl ?_
  refine rw_ev (ev_min rfl rfl) rfl rfl rfl ?_
  have hs7 : 0 ≤ (0 : Int) ∧ (0 : Int) ≤ (min ((setC raw).length : Int) 2) ∧ (min ((setC raw).length : Int) 2 : Int) ≤ ((setC raw).map encC).length := by rw [List.length_map]; omega
  have sl8 := sub_encs sl6 (lo := 0) (hi := (min ((setC raw).length : Int) 2).toNat) (by omega) (by have := hs7; rw [List.length_map] at this; omega)
  refine rw_ev (v := (subSl u3 0 ((min ((setC raw).length : Int) 2).toNat) 2)) (ev_slice (l := 0) (h := min ((setC raw).length : Int) 2) ⟨_, sl6⟩ rfl el_46 (.inl ⟨rfl, rfl⟩) (.inr ⟨_, rfl, rfl⟩) hs7) rfl rfl rfl ?_
  refine rw_op (op_fn (xs := [.tmp 21]) ent_47 rfl (c_next w4 (subSl u3 0 ((min ((setC raw).length : Int) 2).toNat) 2) (((setC raw).take ((min ((setC raw).length : Int) 2).toNat)).drop 0) (Sl.below sl8))) rfl rfl rfl ?_
  rintro _ w10 ⟨u9, rfl, k11, sl12⟩
  replace K0 := Ex.trans K0 k11
  replace sl6 := sl6.ex k11
  replace sl8 := sl8.ex k11
  have zw10 := k11.size
  refine rw_ev (ev_move rfl) rfl rfl rfl ?_
  refine rw_ev (ev_extract (vs := #[u9, .int .i64 ((nextC (((setC raw).take ((min ((setC raw).length : Int) 2).toNat)).drop 0)).2)]) rfl rfl) rfl rfl rfl ?_
  refine rw_ev (ev_extract (vs := #[u9, .int .i64 ((nextC (((setC raw).take ((min ((setC raw).length : Int) 2).toNat)).drop 0)).2)]) rfl rfl) rfl rfl rfl ?_
  refine rw_ev (ev_assign rfl) rfl rfl rfl ?_
  refine rw_ev (ev_assign rfl) rfl rfl rfl ?_
  refine rw_nil ?_
  refine nw_seq ?_
  refine cw_seq ?_
  refine cw_region ?_
  refine rw_ev (ev_move rfl) rfl rfl rfl ?_
  refine rw_op (op_fn (xs := [.tmp 26, .const (.int .i64 1001)]) ent_46 rfl (c_pick46 w10 n (1001 : Int) (by omega) (by omega))) rfl rfl rfl ?_
  rintro _ w13 ⟨rfl, k14, pr15⟩
  replace K0 := Ex.trans K0 k14
  replace sl6 := sl6.ex k14
  replace sl12 := sl12.ex k14
  have zw13 := k14.size
  refine rw_op (op_fn (xs := [.const (.slice none 0 0), .tmp 27]) ent_49 rfl (c_run w13 (.slice none 0 0) ([]) (Sl.below (Sl.nil w13 (fun _ => False) 2 : Sl _ _ _ _ (([] : List Cell).map encC))) (pickI n (1001 : Int)))) rfl rfl rfl ?_
  rintro _ w17 ⟨u16, rfl, k18, sl19⟩
  replace K0 := Ex.trans K0 k18
  replace sl6 := sl6.ex k18
  replace sl12 := sl12.ex k18
  have zw17 := k18.size
  refine rw_ev (ev_move rfl) rfl rfl rfl ?_
  refine rw_ev (ev_extract rfl rfl) rfl rfl rfl ?_
  refine rw_ev (ev_extract rfl rfl) rfl rfl rfl ?_
  refine rw_ev (ev_assign rfl) rfl rfl rfl ?_
  refine rw_ev (ev_assign rfl) rfl rfl rfl ?_
  refine rw_nil ?_
  refine nw_seq ?_
  refine cw_seq ?_
  refine cw_region ?_
  refine rw_ev (ev_move rfl) rfl rfl rfl ?_
  refine rw_op (op_fn (xs := [.tmp 32]) ent_47 rfl (c_next w17 u3 (setC raw) (Sl.below sl6))) rfl rfl rfl ?_
  rintro _ w21 ⟨u20, rfl, k22, sl23⟩
  replace K0 := Ex.trans K0 k22
  replace sl6 := sl6.ex k22
  replace sl12 := sl12.ex k22
  replace sl19 := sl19.ex k22
  have zw21 := k22.size
  refine rw_ev (ev_move rfl) rfl rfl rfl ?_
  refine rw_ev (ev_extract rfl rfl) rfl rfl rfl ?_
  refine rw_ev (ev_extract rfl rfl) rfl rfl rfl ?_
  refine rw_ev (ev_assign rfl) rfl rfl rfl ?_
  refine rw_ev (ev_assign rfl) rfl rfl rfl ?_
  refine rw_nil ?_
  refine nw_seq ?_
  refine cw_seq ?_
  refine cw_region ?_
  refine rw_ev (ev_move rfl) rfl rfl rfl ?_
  refine rw_ev (ev_move rfl) rfl rfl rfl ?_
  refine rw_ev (ev_move rfl) rfl rfl rfl ?_
  refine rw_ev (ev_eq (p := (nextC (((setC raw).take ((min ((setC raw).length : Int) 2).toNat)).drop 0)).2) (q := 0) rfl rfl) rfl rfl rfl ?_
  refine rw_ev (ev_pk_t rfl rfl rfl) rfl rfl rfl ?_
  refine rw_ev (ev_move rfl) rfl rfl rfl ?_
  refine rw_ev (ev_move rfl) (gd_tt rfl (dec_t (by rw [hA_] <;> rfl))) rfl rfl ?_
  refine rw_ev (v := .int .i64 (((nextC (((setC raw).take ((min ((setC raw).length : Int) 2).toNat)).drop 0)).1).length : Int)) (ev_lenm (l := (nextC (((setC raw).take ((min ((setC raw).length : Int) 2).toNat)).drop 0)).1) ⟨_, sl12⟩ rfl el_46 rfl) (gd_tt rfl (dec_t (by rw [hA_] <;> rfl))) rfl rfl ?_
  refine rw_ev (ev_eq (p := (((nextC (((setC raw).take ((min ((setC raw).length : Int) 2).toNat)).drop 0)).1).length : Int)) (q := 0) rfl rfl) (gd_tt rfl (dec_t (by rw [hA_] <;> rfl))) rfl rfl ?_
  refine rw_ev (ev_pk_t (b := decide (((nextC (((setC raw).take ((min ((setC raw).length : Int) 2).toNat)).drop 0)).2) = 0)) rfl (dec_t (by rw [hA_] <;> rfl)) rfl) rfl rfl rfl ?_
  refine rw_ev (ev_move rfl) rfl rfl rfl ?_
  refine rw_ev (ev_move rfl) (gd_tt rfl (dec_t (by rw [hA_] <;> rfl))) rfl rfl ?_
  refine rw_ev (ev_eq rfl rfl) (gd_tt rfl (dec_t (by rw [hA_] <;> rfl))) rfl rfl ?_
  refine rw_ev (ev_pk_t (b := decide ((((nextC (((setC raw).take ((min ((setC raw).length : Int) 2).toNat)).drop 0)).1).length : Int) = 0)) rfl (dec_t (by rw [hA_] <;> rfl)) rfl) rfl rfl rfl ?_
  refine rw_ev (ev_move rfl) rfl rfl rfl ?_
  refine rw_ev (ev_move rfl) (gd_tt rfl (dec_t (by rw [hR_] <;> rfl))) rfl rfl ?_
  refine rw_ev (v := .int .i64 (((runC ([]) (pickI n (1001 : Int))).1).length : Int)) (ev_lenm (l := (runC ([]) (pickI n (1001 : Int))).1) ⟨_, sl19⟩ rfl el_46 rfl) (gd_tt rfl (dec_t (by rw [hR_] <;> rfl))) rfl rfl ?_
  refine rw_ev (ev_eq (p := (((runC ([]) (pickI n (1001 : Int))).1).length : Int)) (q := 0) rfl rfl) (gd_tt rfl (dec_t (by rw [hR_] <;> rfl))) rfl rfl ?_
  refine rw_ev (ev_pk_t (b := decide (((runC ([]) (pickI n (1001 : Int))).2) = 0)) rfl (dec_t (by rw [hR_] <;> rfl)) rfl) rfl rfl rfl ?_
  refine rw_ev (ev_move rfl) rfl rfl rfl ?_
  refine rw_ev (ev_move rfl) (gd_tt rfl (dec_t (by rw [hR_] <;> rfl))) rfl rfl ?_
  refine rw_ev (ev_eq rfl rfl) (gd_tt rfl (dec_t (by rw [hR_] <;> rfl))) rfl rfl ?_
  refine rw_ev (ev_pk_t (b := decide ((((runC ([]) (pickI n (1001 : Int))).1).length : Int) = 0)) rfl (dec_t (by rw [hR_] <;> rfl)) rfl) rfl rfl rfl ?_
  refine rw_ev (ev_move rfl) rfl rfl rfl ?_
  refine rw_ev (ev_move rfl) (gd_tt rfl (dec_t (by rw [hN1_]))) rfl rfl ?_
  refine rw_ev (v := .int .i64 (((nextC (setC raw)).1).length : Int)) (ev_lenm (l := (nextC (setC raw)).1) ⟨_, sl23⟩ rfl el_46 rfl) (gd_tt rfl (dec_t (by rw [hN1_]))) rfl rfl ?_
  refine rw_ev (ev_move rfl) (gd_tt rfl (dec_t (by rw [hN1_]))) rfl rfl ?_
  refine rw_ev (v := .int .i64 ((setC raw).length : Int)) (ev_lenm (l := setC raw) ⟨_, sl6⟩ rfl el_46 rfl) (gd_tt rfl (dec_t (by rw [hN1_]))) rfl rfl ?_
  refine rw_ev (ev_mul rfl rfl (by omega)) (gd_tt rfl (dec_t (by rw [hN1_]))) rfl rfl ?_
  refine rw_ev (ev_leq rfl rfl) (gd_tt rfl (dec_t (by rw [hN1_]))) rfl rfl ?_
  refine rw_ev (ev_pk_t rfl (dec_t (by rw [hN1_])) rfl) rfl rfl rfl ?_
  refine rw_ev (ev_move rfl) rfl rfl rfl ?_
  refine rw_ev (ev_move rfl) (gd_tt rfl (dec_t (by rw [hN1_]; simp only; omega))) rfl rfl ?_
  refine rw_op (op_fn (xs := [.tmp 68]) ent_54 rfl (c_right w21 u20 ((nextC (setC raw)).1) (Sl.below sl23))) (gd_tt rfl (dec_t (by rw [hN1_]; simp only; omega))) rfl rfl ?_
  rintro _ w24 ⟨rfl, k25⟩
  replace K0 := Ex.trans K0 k25
  replace sl6 := sl6.ex k25
  replace sl12 := sl12.ex k25
  replace sl19 := sl19.ex k25
  replace sl23 := sl23.ex k25
  have zw24 := k25.size
  refine rw_ev (ev_pk_t (b := decide ((((nextC (setC raw)).1).length : Int) ≤ ((3 : Int) * ((setC raw).length : Int)))) rfl (dec_t (by rw [hN1_]; simp only; omega)) rfl) rfl rfl rfl ?_
  refine rw_ev (ev_assign rfl) rfl rfl rfl ?_
  refine rw_nil ?_
  refine nw_seq ?_
  refine cw_ret ?_
  refine ret_post (rs := [.tmp 4]) (vs := [.bool (rightC ((nextC (setC raw)).1))]) rfl (.tmp rfl .nil) ?_
  refine ⟨?_, K0⟩
  · show (.bool (rightC ((nextC (setC raw)).1)) : Value) = _
    refine congrArg Value.bool ?_
    first | rfl | (rw [hN1_]; exact hN2_)

end Go.Proofs.Ythpaadmpgdglnaa
