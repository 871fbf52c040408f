/- The law LifeApart: it returns true. Its condition: numbers of 64 bits. -/
import Derived.Test.YthpaadmpgdglnaaFk
import Derived.Test.YthpaadmpgdglnaaDj
namespace Go.Proofs.Ythpaadmpgdglnaa
open Go Go.RowKit
set_option linter.unusedVariables false
set_option linter.unusedSimpArgs false
set_option maxRecDepth 100000
set_option maxHeartbeats 4000000

theorem law_LifeApart (w : World) (rv : Value) (one : List Cell) (hrv : Sl w (fun b => b < w.heap.size) rv 2 (one.map encC)) (hrvr : RawOk one) (ru : Value) (two : List Cell) (hru : Sl w (fun b => b < w.heap.size) ru 2 (two.map encC)) (hrur : RawOk two) (n : Int) (hn64 : -9223372036854775808 ≤ n ∧ n ≤ 9223372036854775807) : Fn Try.prog 10 [rv, ru, .int .i64 n] w (fun v w' =>  v = .bool true ∧ Ex w w') := by
  have K0 : Ex w w := Kp.refl _ _
  refine fn_enter (n := 98) Try.func10 rfl rfl (Nat.le_of_ble_eq_true rfl) ?_
  show CW _ _ _ _ _ _ [(0, rv), (1, ru), (2, .int .i64 n)] _
  have hl1_ := set_len one
  have hl2_ := set_len two
  have hn_ := pickI_bd n 13 (by omega)
  obtain ⟨hA1_, hA2_, hA3_, hA4_, hA5_, hA6_, hA7_⟩ := apart_law one two (pickI n 13) (by omega)
  refine cw_seq ?_
  refine cw_region ?_
  refine rw_ev (ev_assign rfl) rfl rfl rfl ?_
  refine rw_nil ?_
  refine nw_seq ?_
  refine cw_seq ?_
  refine cw_region ?_
  refine rw_op (op_fn (xs := []) ent_43 rfl (c_awake2 w )) rfl rfl rfl ?_
  rintro _ w1 ⟨rfl, k2⟩
  replace K0 := Ex.trans K0 k2
  replace hrv := hrv.ex k2
  replace hru := hru.ex k2
  have zw1 := k2.size
  refine rw_ev (ev_assign rfl) rfl rfl rfl ?_
  refine rw_nil ?_
  refine nw_seq ?_
  refine cw_seq ?_
  refine cw_region ?_
  refine rw_ev (ev_move rfl) rfl rfl rfl ?_
  refine rw_op (op_fn (xs := [.tmp 23, .const (.int .i64 13)]) ent_46 rfl (c_pick46 w1 n (13 : Int) (by omega) (by omega))) rfl rfl rfl ?_
  rintro _ w3 ⟨rfl, k4, pr5⟩
  replace K0 := Ex.trans K0 k4
  replace hrv := hrv.ex k4
  replace hru := hru.ex k4
  have zw3 := k4.size
  refine rw_ev (ev_assign rfl) rfl rfl rfl ?_
  refine rw_nil ?_
  refine nw_seq ?_
  refine cw_seq ?_
  refine cw_region ?_
  refine rw_ev (ev_move rfl) rfl rfl rfl ?_
  refine rw_op (op_fn (xs := [.tmp 25]) ent_44 rfl (c_set w3 rv one (Sl.below hrv) (by first | exact hrvr | exact hrur))) rfl rfl rfl ?_
  rintro u6 w7 ⟨_, rfl, k8, sl9⟩
  replace K0 := Ex.trans K0 k8
  replace hrv := hrv.ex k8
  replace hru := hru.ex k8
  have zw7 := k8.size
  refine rw_ev (ev_assign rfl) rfl rfl rfl ?_
  refine rw_nil ?_
  refine nw_seq ?_
  refine cw_seq ?_
  refine cw_region ?_
  refine rw_ev (ev_move rfl) rfl rfl rfl ?_
  refine rw_op (op_fn (xs := [.tmp 28]) ent_44 rfl (c_set w7 ru two (Sl.below hru) (by first | exact hrvr | exact hrur))) rfl rfl rfl ?_
  rintro u10 w11 ⟨_, rfl, k12, sl13⟩
  replace K0 := Ex.trans K0 k12
  replace hru := hru.ex k12
  replace sl9 := sl9.ex k12
  have zw11 := k12.size
  refine rw_ev (ev_move rfl) rfl rfl rfl ?_
  refine rw_ev (ev_mul rfl rfl (by omega)) rfl rfl rfl ?_
  refine rw_ev (ev_add rfl rfl (by omega)) rfl rfl rfl ?_
  refine rw_op (op_fn (xs := [.tmp 29, .tmp 32, .const (.int .i64 0)]) ent_45 rfl (c_shift w11 u10 (setC two) (Sl.below sl13) ((17 : Int) + ((2 : Int) * (pickI n (13 : Int)))) (0 : Int))) rfl rfl rfl ?_
  rintro _ w15 ⟨u14, rfl, k16, sl17⟩
  replace K0 := Ex.trans K0 k16
  replace hru := hru.ex k16
  replace sl9 := sl9.ex k16
  replace sl13 := sl13.ex k16
  have zw15 := k16.size
  refine rw_ev (ev_move rfl) rfl rfl rfl ?_
  refine rw_ev (ev_extract (vs := #[u14, .int .i64 ((shiftC (setC two) ((17 : Int) + ((2 : Int) * (pickI n (13 : Int)))) (0 : Int)).2)]) rfl rfl) rfl rfl rfl ?_
  refine rw_ev (ev_extract (vs := #[u14, .int .i64 ((shiftC (setC two) ((17 : Int) + ((2 : Int) * (pickI n (13 : Int)))) (0 : Int)).2)]) rfl rfl) rfl rfl rfl ?_
  refine rw_ev (ev_assign rfl) rfl rfl rfl ?_
  refine rw_ev (ev_assign rfl) rfl rfl rfl ?_
  refine rw_nil ?_
  refine nw_seq ?_
  refine cw_seq ?_
  refine cw_region ?_
  refine rw_ev (ev_move rfl) rfl rfl rfl ?_
  refine rw_ev (ev_assign rfl) rfl rfl rfl ?_
  refine rw_nil ?_
  refine nw_seq ?_
  refine cw_seq ?_
  refine cw_seq ?_
  refine cw_region ?_
  refine rw_ev (ev_assign rfl) rfl rfl rfl ?_
  refine rw_nil ?_
  refine nw_seq ?_
  refine cw_block ?_
  refine cw_loop (σ := Nat × Value) (fun s_ => match s_ with | (i, va) => [(6, .bool false), (7, .bool true), (8, .int .i64 (pickI n (13 : Int))), (9, u6), (10, u14), (12, va), (13, .int .i64 (i : Int))]) (fun s_ wr => match s_ with | (i, va) => Ex w wr ∧ w15.heap.size ≤ wr.heap.size ∧ Sl wr (fun b => w3.heap.size ≤ b ∧ b < w7.heap.size) u6 2 ((setC one).map encC) ∧ Sl wr (fun b => w11.heap.size ≤ b ∧ b < w15.heap.size) u14 2 (((shiftC (setC two) ((17 : Int) + ((2 : Int) * (pickI n (13 : Int)))) (0 : Int)).1).map encC) ∧ Sl wr (fun _ => True) va 2 (((((shiftC (setC two) (17 + 2 * (pickI n 13)) 0).1).take i).foldl putC (setC one)).map encC) ∧ i ≤ ((shiftC (setC two) (17 + 2 * (pickI n 13)) 0).1).length) (fun s_ => match s_ with | (i, va) => ((shiftC (setC two) (17 + 2 * (pickI n 13)) 0).1).length - i) (0, u6) (Sub.cons rfl (Sub.cons rfl (Sub.cons rfl (Sub.cons rfl (Sub.cons rfl (Sub.cons rfl (Sub.int (b := (0 : Int)) rfl (by omega) Sub.nil))))))) ⟨K0, (Nat.le_refl _), sl9, sl17, (by have hq := (Sl.mono (A' := fun _ => True) sl9 (fun _ _ _ => trivial)); first | exact hq | (rw [take_succ_fold (by assumption : ((shiftC (setC two) (17 + 2 * (pickI n 13)) 0).1)[i]? = some _)]; exact hq)), (by omega)⟩ ?_
  rintro ⟨i, va⟩ w18 ⟨K0, z19, f20, f21, f22, pr23⟩
  show CW _ _ _ _ _ _ [(6, .bool false), (7, .bool true), (8, .int .i64 (pickI n (13 : Int))), (9, u6), (10, u14), (12, va), (13, .int .i64 (i : Int))] _
  refine cw_seq ?_
  refine cw_seq ?_
  refine cw_region ?_
  refine rw_ev (ev_move rfl) rfl rfl rfl ?_
  refine rw_ev (ev_move rfl) rfl rfl rfl ?_
  refine rw_ev (v := .int .i64 (((shiftC (setC two) ((17 : Int) + ((2 : Int) * (pickI n (13 : Int)))) (0 : Int)).1).length : Int)) (ev_lenm (l := (shiftC (setC two) ((17 : Int) + ((2 : Int) * (pickI n (13 : Int)))) (0 : Int)).1) ⟨_, f21⟩ rfl el_46 rfl) rfl rfl rfl ?_
  refine rw_ev (ev_lss (q := (((shiftC (setC two) ((17 : Int) + ((2 : Int) * (pickI n (13 : Int)))) (0 : Int)).1).length : Int)) rfl rfl) rfl rfl rfl ?_
  refine rw_nil ?_
  refine nw_seq ?_
  by_cases h24 : (i : Int) < (((shiftC (setC two) ((17 : Int) + ((2 : Int) * (pickI n (13 : Int)))) (0 : Int)).1).length : Int)
  ·
   refine cw_t (b := decide ((i : Int) < (((shiftC (setC two) ((17 : Int) + ((2 : Int) * (pickI n (13 : Int)))) (0 : Int)).1).length : Int))) rfl (dec_t h24) ?_
   refine cw_skip ?_
   refine nw_seq ?_
   refine cw_seq ?_
   refine cw_block ?_
   refine cw_region ?_
   refine rw_ev (ev_move rfl) rfl rfl rfl ?_
   refine rw_ev (ev_move rfl) rfl rfl rfl ?_
   refine rw_ev (ev_move rfl) rfl rfl rfl ?_
   obtain ⟨c25, hc26⟩ := get_of (l := (shiftC (setC two) ((17 : Int) + ((2 : Int) * (pickI n (13 : Int)))) (0 : Int)).1) (i := i) (by omega)
   refine rw_ev (v := elemPtr u14 i 2 0) (ev_slAt (i := (i : Int)) ⟨_, f21⟩ rfl rfl el_46 (idx_ok (i := (i : Int)) hc26 (by omega))) rfl rfl rfl ?_
   refine rw_ev (v := .agg #[.int .i64 c25.1, .int .i64 c25.2]) (ev_elLoadk (us := [.int .i64 c25.1, .int .i64 c25.2]) (fun _ h => h ▸ f21) ⟨_, rfl⟩ rfl (get_enc (f := encC) hc26) agg_55 (by decide) rfl rfl) rfl rfl rfl ?_
   refine rw_op (op_fn (xs := [.tmp 43, .tmp 47]) ent_41 rfl (c_put w18 va ((((shiftC (setC two) (17 + 2 * (pickI n 13)) 0).1).take i).foldl putC (setC one)) (Sl.below f22) c25 (by first | (have hp_ := putAll_len (((shiftC (setC two) (17 + 2 * (pickI n 13)) 0).1).take i) (setC one); simp only [List.length_take] at hp_; omega) | (have hp_ := putAll_len (((runC ((shiftC (setC two) (17 + 2 * (pickI n 13)) 0).1) (pickI n 13)).1).take j) ((runC (setC one) (pickI n 13)).1); simp only [List.length_take] at hp_; omega)))) rfl rfl rfl ?_
   rintro u27 w28 ⟨_, rfl, k29, sl30⟩
   replace K0 := Ex.trans K0 k29
   replace f20 := f20.ex k29
   replace f21 := f21.ex k29
   replace f22 := f22.ex k29
   have zw28 := k29.size
   refine rw_ev (ev_assign rfl) rfl rfl rfl ?_
   refine rw_nil ?_
   refine nw_block ?_
   refine nw_seq ?_
   refine cw_region ?_
   refine rw_ev (ev_move rfl) rfl rfl rfl ?_
   refine rw_ev (ev_add rfl rfl (by omega)) rfl rfl rfl ?_
   refine rw_ev (ev_assign rfl) rfl rfl rfl ?_
   refine rw_nil ?_
   exact nw_round ((i + 1), u27) (Sub.cons rfl (Sub.cons rfl (Sub.cons rfl (Sub.cons rfl (Sub.cons rfl (Sub.cons rfl (Sub.int (b := ((i + 1) : Int)) rfl (by omega) Sub.nil))))))) ⟨K0, (Nat.le_trans z19 zw28), f20, f21, (by have hq := (Sl.mono (A' := fun _ => True) sl30 (fun _ _ _ => trivial)); first | exact hq | (rw [take_succ_fold (by assumption : ((shiftC (setC two) (17 + 2 * (pickI n 13)) 0).1)[i]? = some _)]; exact hq)), (by omega)⟩ (by first | omega | (dsimp only; omega))
  ·
   refine cw_f (b := decide ((i : Int) < (((shiftC (setC two) ((17 : Int) + ((2 : Int) * (pickI n (13 : Int)))) (0 : Int)).1).length : Int))) rfl (dec_f h24) ?_
   refine cw_exit ?_
   refine xw_seq ?_
   refine xw_goal ?_
   refine xw_hit ?_
   refine nw_seq ?_
   refine cw_seq ?_
   refine cw_region ?_
   refine rw_ev (ev_move rfl) rfl rfl rfl ?_
   refine rw_ev (ev_move rfl) rfl rfl rfl ?_
   refine rw_op (op_fn (xs := [.tmp 50, .tmp 51]) ent_49 rfl (c_run w18 u6 (setC one) (Sl.below f20) (pickI n (13 : Int)))) rfl rfl rfl ?_
   rintro _ w32 ⟨u31, rfl, k33, sl34⟩
   replace K0 := Ex.trans K0 k33
   replace f20 := f20.ex k33
   replace f21 := f21.ex k33
   replace f22 := f22.ex k33
   have zw32 := k33.size
   refine rw_ev (ev_move rfl) rfl rfl rfl ?_
   refine rw_ev (ev_extract rfl rfl) rfl rfl rfl ?_
   refine rw_ev (ev_extract rfl rfl) rfl rfl rfl ?_
   refine rw_ev (ev_assign rfl) rfl rfl rfl ?_
   refine rw_ev (ev_assign rfl) rfl rfl rfl ?_
   refine rw_nil ?_
   refine nw_seq ?_
   refine cw_seq ?_
   refine cw_region ?_
   refine rw_ev (ev_move rfl) rfl rfl rfl ?_
   refine rw_ev (ev_move rfl) rfl rfl rfl ?_
   refine rw_op (op_fn (xs := [.tmp 56, .tmp 57]) ent_49 rfl (c_run w32 u14 ((shiftC (setC two) ((17 : Int) + ((2 : Int) * (pickI n (13 : Int)))) (0 : Int)).1) (Sl.below f21) (pickI n (13 : Int)))) rfl rfl rfl ?_
   rintro _ w36 ⟨u35, rfl, k37, sl38⟩
   replace K0 := Ex.trans K0 k37
   replace f21 := f21.ex k37
   replace f22 := f22.ex k37
   replace sl34 := sl34.ex k37
   have zw36 := k37.size
   refine rw_ev (ev_move rfl) rfl rfl rfl ?_
   refine rw_ev (ev_extract (vs := #[u35, .int .i64 ((runC ((shiftC (setC two) ((17 : Int) + ((2 : Int) * (pickI n (13 : Int)))) (0 : Int)).1) (pickI n (13 : Int))).2)]) rfl rfl) rfl rfl rfl ?_
   refine rw_ev (ev_extract (vs := #[u35, .int .i64 ((runC ((shiftC (setC two) ((17 : Int) + ((2 : Int) * (pickI n (13 : Int)))) (0 : Int)).1) (pickI n (13 : Int))).2)]) rfl rfl) rfl rfl rfl ?_
   refine rw_ev (ev_assign rfl) rfl rfl rfl ?_
   refine rw_ev (ev_assign rfl) rfl rfl rfl ?_
   refine rw_nil ?_
   refine nw_seq ?_
   refine cw_seq ?_
   refine cw_region ?_
   refine rw_ev (ev_move rfl) rfl rfl rfl ?_
   refine rw_ev (ev_move rfl) rfl rfl rfl ?_
   refine rw_op (op_fn (xs := [.tmp 62, .tmp 63]) ent_49 rfl (c_run w36 va ((((shiftC (setC two) (17 + 2 * (pickI n 13)) 0).1).take i).foldl putC (setC one)) (Sl.below f22) (pickI n (13 : Int)))) rfl rfl rfl ?_
   rintro _ w40 ⟨u39, rfl, k41, sl42⟩
   replace K0 := Ex.trans K0 k41
   replace f22 := f22.ex k41
   replace sl34 := sl34.ex k41
   replace sl38 := sl38.ex k41
   have zw40 := k41.size
   refine rw_ev (ev_move rfl) rfl rfl rfl ?_
   refine rw_ev (ev_extract (vs := #[u39, .int .i64 ((runC ((((shiftC (setC two) (17 + 2 * (pickI n 13)) 0).1).take i).foldl putC (setC one)) (pickI n (13 : Int))).2)]) rfl rfl) rfl rfl rfl ?_
   refine rw_ev (ev_extract (vs := #[u39, .int .i64 ((runC ((((shiftC (setC two) (17 + 2 * (pickI n 13)) 0).1).take i).foldl putC (setC one)) (pickI n (13 : Int))).2)]) rfl rfl) rfl rfl rfl ?_
   refine rw_ev (ev_assign rfl) rfl rfl rfl ?_
   refine rw_ev (ev_assign rfl) rfl rfl rfl ?_
   refine rw_nil ?_
   refine nw_seq ?_
   refine cw_seq ?_
   refine cw_region ?_
   refine rw_ev (ev_move rfl) rfl rfl rfl ?_
   refine rw_ev (ev_assign rfl) rfl rfl rfl ?_
   refine rw_nil ?_
   refine nw_seq ?_
   refine cw_seq ?_
   refine cw_seq ?_
   refine cw_region ?_
   refine rw_ev (ev_assign rfl) rfl rfl rfl ?_
   refine rw_nil ?_
   refine nw_seq ?_
   refine cw_block ?_
   refine cw_loop (σ := Nat × Value) (fun s_ => match s_ with | (j, vb) => [(6, .bool false), (7, .bool true), (15, .int .i64 ((runC (setC one) (pickI n (13 : Int))).2)), (16, u35), (17, .int .i64 ((runC ((shiftC (setC two) ((17 : Int) + ((2 : Int) * (pickI n (13 : Int)))) (0 : Int)).1) (pickI n (13 : Int))).2)), (18, u39), (19, .int .i64 ((runC ((((shiftC (setC two) (17 + 2 * (pickI n 13)) 0).1).take i).foldl putC (setC one)) (pickI n (13 : Int))).2)), (20, vb), (21, .int .i64 (j : Int))]) (fun s_ wr => match s_ with | (j, vb) => Ex w wr ∧ w40.heap.size ≤ wr.heap.size ∧ Sl wr (fun b => w32.heap.size ≤ b ∧ b < w36.heap.size) u35 2 (((runC ((shiftC (setC two) ((17 : Int) + ((2 : Int) * (pickI n (13 : Int)))) (0 : Int)).1) (pickI n (13 : Int))).1).map encC) ∧ Sl wr (fun b => w36.heap.size ≤ b ∧ b < w40.heap.size) u39 2 (((runC ((((shiftC (setC two) (17 + 2 * (pickI n 13)) 0).1).take i).foldl putC (setC one)) (pickI n (13 : Int))).1).map encC) ∧ Sl wr (fun _ => True) vb 2 (((((runC ((shiftC (setC two) (17 + 2 * (pickI n 13)) 0).1) (pickI n 13)).1).take j).foldl putC ((runC (setC one) (pickI n 13)).1)).map encC) ∧ j ≤ ((runC ((shiftC (setC two) (17 + 2 * (pickI n 13)) 0).1) (pickI n 13)).1).length) (fun s_ => match s_ with | (j, vb) => ((runC ((shiftC (setC two) (17 + 2 * (pickI n 13)) 0).1) (pickI n 13)).1).length - j) (0, u31) (Sub.cons rfl (Sub.cons rfl (Sub.cons rfl (Sub.cons rfl (Sub.cons rfl (Sub.cons rfl (Sub.cons rfl (Sub.cons rfl (Sub.int (b := (0 : Int)) rfl (by omega) Sub.nil))))))))) ⟨K0, (Nat.le_refl _), sl38, sl42, (by have hq := (Sl.mono (A' := fun _ => True) sl34 (fun _ _ _ => trivial)); first | exact hq | (rw [take_succ_fold (by assumption : ((runC ((shiftC (setC two) (17 + 2 * (pickI n 13)) 0).1) (pickI n 13)).1)[j]? = some _)]; exact hq)), (by omega)⟩ ?_
   rintro ⟨j, vb⟩ w43 ⟨K0, z44, f45, f46, f47, pr48⟩
   show CW _ _ _ _ _ _ [(6, .bool false), (7, .bool true), (15, .int .i64 ((runC (setC one) (pickI n (13 : Int))).2)), (16, u35), (17, .int .i64 ((runC ((shiftC (setC two) ((17 : Int) + ((2 : Int) * (pickI n (13 : Int)))) (0 : Int)).1) (pickI n (13 : Int))).2)), (18, u39), (19, .int .i64 ((runC ((((shiftC (setC two) (17 + 2 * (pickI n 13)) 0).1).take i).foldl putC (setC one)) (pickI n (13 : Int))).2)), (20, vb), (21, .int .i64 (j : Int))] _
   refine cw_seq ?_
   refine cw_seq ?_
   refine cw_region ?_
   refine rw_ev (ev_move rfl) rfl rfl rfl ?_
   refine rw_ev (ev_move rfl) rfl rfl rfl ?_
   refine rw_ev (v := .int .i64 (((runC ((shiftC (setC two) ((17 : Int) + ((2 : Int) * (pickI n (13 : Int)))) (0 : Int)).1) (pickI n (13 : Int))).1).length : Int)) (ev_lenm (l := (runC ((shiftC (setC two) ((17 : Int) + ((2 : Int) * (pickI n (13 : Int)))) (0 : Int)).1) (pickI n (13 : Int))).1) ⟨_, f45⟩ rfl el_46 rfl) rfl rfl rfl ?_
   refine rw_ev (ev_lss (q := (((runC ((shiftC (setC two) ((17 : Int) + ((2 : Int) * (pickI n (13 : Int)))) (0 : Int)).1) (pickI n (13 : Int))).1).length : Int)) rfl rfl) rfl rfl rfl ?_
   refine rw_nil ?_
   refine nw_seq ?_
   by_cases h49 : (j : Int) < (((runC ((shiftC (setC two) ((17 : Int) + ((2 : Int) * (pickI n (13 : Int)))) (0 : Int)).1) (pickI n (13 : Int))).1).length : Int)
   ·
    refine cw_t (b := decide ((j : Int) < (((runC ((shiftC (setC two) ((17 : Int) + ((2 : Int) * (pickI n (13 : Int)))) (0 : Int)).1) (pickI n (13 : Int))).1).length : Int))) rfl (dec_t h49) ?_
    refine cw_skip ?_
    refine nw_seq ?_
    refine cw_seq ?_
    refine cw_block ?_
    refine cw_region ?_
    refine rw_ev (ev_move rfl) rfl rfl rfl ?_
    refine rw_ev (ev_move rfl) rfl rfl rfl ?_
    refine rw_ev (ev_move rfl) rfl rfl rfl ?_
    obtain ⟨c50, hc51⟩ := get_of (l := (runC ((shiftC (setC two) ((17 : Int) + ((2 : Int) * (pickI n (13 : Int)))) (0 : Int)).1) (pickI n (13 : Int))).1) (i := j) (by omega)
    refine rw_ev (v := elemPtr u35 j 2 0) (ev_slAt (i := (j : Int)) ⟨_, f45⟩ rfl rfl el_46 (idx_ok (i := (j : Int)) hc51 (by omega))) rfl rfl rfl ?_
    refine rw_ev (v := .agg #[.int .i64 c50.1, .int .i64 c50.2]) (ev_elLoadk (us := [.int .i64 c50.1, .int .i64 c50.2]) (fun _ h => h ▸ f45) ⟨_, rfl⟩ rfl (get_enc (f := encC) hc51) agg_55 (by decide) rfl rfl) rfl rfl rfl ?_
    refine rw_op (op_fn (xs := [.tmp 74, .tmp 78]) ent_41 rfl (c_put w43 vb ((((runC ((shiftC (setC two) (17 + 2 * (pickI n 13)) 0).1) (pickI n 13)).1).take j).foldl putC ((runC (setC one) (pickI n 13)).1)) (Sl.below f47) c50 (by first | (have hp_ := putAll_len (((shiftC (setC two) (17 + 2 * (pickI n 13)) 0).1).take i) (setC one); simp only [List.length_take] at hp_; omega) | (have hp_ := putAll_len (((runC ((shiftC (setC two) (17 + 2 * (pickI n 13)) 0).1) (pickI n 13)).1).take j) ((runC (setC one) (pickI n 13)).1); simp only [List.length_take] at hp_; omega)))) rfl rfl rfl ?_
    rintro u52 w53 ⟨_, rfl, k54, sl55⟩
    replace K0 := Ex.trans K0 k54
    replace f45 := f45.ex k54
    replace f46 := f46.ex k54
    replace f47 := f47.ex k54
    have zw53 := k54.size
    refine rw_ev (ev_assign rfl) rfl rfl rfl ?_
    refine rw_nil ?_
    refine nw_block ?_
    refine nw_seq ?_
    refine cw_region ?_
    refine rw_ev (ev_move rfl) rfl rfl rfl ?_
    refine rw_ev (ev_add rfl rfl (by omega)) rfl rfl rfl ?_
    refine rw_ev (ev_assign rfl) rfl rfl rfl ?_
    refine rw_nil ?_
    exact nw_round ((j + 1), u52) (Sub.cons rfl (Sub.cons rfl (Sub.cons rfl (Sub.cons rfl (Sub.cons rfl (Sub.cons rfl (Sub.cons rfl (Sub.cons rfl (Sub.int (b := ((j + 1) : Int)) rfl (by omega) Sub.nil))))))))) ⟨K0, (Nat.le_trans z44 zw53), f45, f46, (by have hq := (Sl.mono (A' := fun _ => True) sl55 (fun _ _ _ => trivial)); first | exact hq | (rw [take_succ_fold (by assumption : ((runC ((shiftC (setC two) (17 + 2 * (pickI n 13)) 0).1) (pickI n 13)).1)[j]? = some _)]; exact hq)), (by omega)⟩ (by first | omega | (dsimp only; omega))
   ·
    refine cw_f (b := decide ((j : Int) < (((runC ((shiftC (setC two) ((17 : Int) + ((2 : Int) * (pickI n (13 : Int)))) (0 : Int)).1) (pickI n (13 : Int))).1).length : Int))) rfl (dec_f h49) ?_
    refine cw_exit ?_
    refine xw_seq ?_
    refine xw_goal ?_
    refine xw_hit ?_
    refine nw_seq ?_
    refine cw_seq ?_
    refine cw_region ?_
    refine rw_ev (ev_move rfl) rfl rfl rfl ?_
    refine rw_ev (ev_move rfl) rfl rfl rfl ?_
    refine rw_ev (ev_move rfl) rfl rfl rfl ?_
    refine rw_ev (ev_eq rfl rfl) rfl rfl rfl ?_
    refine rw_ev (ev_pk_t rfl rfl rfl) rfl rfl rfl ?_
    refine rw_ev (ev_move rfl) rfl rfl rfl ?_
    refine rw_ev (ev_move rfl) (gd_tt rfl (dec_t (by first | exact hA2_ | exact hA3_))) rfl rfl ?_
    refine rw_ev (ev_eq (p := (runC ((shiftC (setC two) ((17 : Int) + ((2 : Int) * (pickI n (13 : Int)))) (0 : Int)).1) (pickI n (13 : Int))).2) (q := 0) rfl rfl) (gd_tt rfl (dec_t (by first | exact hA2_ | exact hA3_))) rfl rfl ?_
    refine rw_ev (ev_pk_t (b := decide (((runC (setC one) (pickI n (13 : Int))).2) = 0)) rfl (dec_t (by first | exact hA2_ | exact hA3_)) rfl) rfl rfl rfl ?_
    refine rw_ev (ev_move rfl) rfl rfl rfl ?_
    refine rw_ev (ev_move rfl) (gd_tt rfl (dec_t (by first | exact hA2_ | exact hA3_))) rfl rfl ?_
    refine rw_ev (ev_eq (p := (runC ((((shiftC (setC two) (17 + 2 * (pickI n 13)) 0).1).take i).foldl putC (setC one)) (pickI n (13 : Int))).2) (q := 0) rfl rfl) (gd_tt rfl (dec_t (by first | exact hA2_ | exact hA3_))) rfl rfl ?_
    refine rw_ev (ev_pk_t (b := decide (((runC ((shiftC (setC two) ((17 : Int) + ((2 : Int) * (pickI n (13 : Int)))) (0 : Int)).1) (pickI n (13 : Int))).2) = 0)) rfl (dec_t (by first | exact hA2_ | exact hA3_)) rfl) rfl rfl rfl ?_
    refine rw_ev (ev_move rfl) rfl rfl rfl ?_
    refine rw_ev (ev_move rfl) (gd_tt rfl (dec_t (by rw [take_all (by assumption : ¬ (i : Int) < (((shiftC (setC two) (17 + 2 * (pickI n 13)) 0).1).length : Int))]; exact hA4_))) rfl rfl ?_
    refine rw_ev (ev_move rfl) (gd_tt rfl (dec_t (by rw [take_all (by assumption : ¬ (i : Int) < (((shiftC (setC two) (17 + 2 * (pickI n 13)) 0).1).length : Int))]; exact hA4_))) rfl rfl ?_
    refine rw_op (op_fn (xs := [.tmp 94, .tmp 95]) ent_37 rfl (c_same w43 u39 ((runC ((((shiftC (setC two) (17 + 2 * (pickI n 13)) 0).1).take i).foldl putC (setC one)) (pickI n (13 : Int))).1) (Sl.below f46) vb ((((runC ((shiftC (setC two) (17 + 2 * (pickI n 13)) 0).1) (pickI n 13)).1).take j).foldl putC ((runC (setC one) (pickI n 13)).1)) (Sl.below f47))) (gd_tt rfl (dec_t (by rw [take_all (by assumption : ¬ (i : Int) < (((shiftC (setC two) (17 + 2 * (pickI n 13)) 0).1).length : Int))]; exact hA4_))) rfl rfl ?_
    rintro _ w56 ⟨rfl, k57⟩
    replace K0 := Ex.trans K0 k57
    replace f46 := f46.ex k57
    replace f47 := f47.ex k57
    have zw56 := k57.size
    refine rw_ev (ev_pk_t (b := decide (((runC ((((shiftC (setC two) (17 + 2 * (pickI n 13)) 0).1).take i).foldl putC (setC one)) (pickI n (13 : Int))).2) = 0)) rfl (dec_t (by rw [take_all (by assumption : ¬ (i : Int) < (((shiftC (setC two) (17 + 2 * (pickI n 13)) 0).1).length : Int))]; exact hA4_)) rfl) rfl rfl rfl ?_
    refine rw_ev (ev_assign rfl) rfl rfl rfl ?_
    refine rw_nil ?_
    refine nw_seq ?_
    refine cw_ret ?_
    refine ret_post (rs := [.tmp 6]) (vs := [.bool (sameC ((runC ((((shiftC (setC two) (17 + 2 * (pickI n 13)) 0).1).take i).foldl putC (setC one)) (pickI n (13 : Int))).1) ((((runC ((shiftC (setC two) (17 + 2 * (pickI n 13)) 0).1) (pickI n 13)).1).take j).foldl putC ((runC (setC one) (pickI n 13)).1)))]) rfl (.tmp rfl .nil) ?_
    refine ⟨?_, K0⟩
    · show (.bool (sameC ((runC ((((shiftC (setC two) (17 + 2 * (pickI n 13)) 0).1).take i).foldl putC (setC one)) (pickI n (13 : Int))).1) ((((runC ((shiftC (setC two) (17 + 2 * (pickI n 13)) 0).1) (pickI n 13)).1).take j).foldl putC ((runC (setC one) (pickI n 13)).1))) : Value) = _
      refine congrArg Value.bool ?_
      first | rfl | (rw [take_all (by assumption : ¬ (i : Int) < (((shiftC (setC two) (17 + 2 * (pickI n 13)) 0).1).length : Int))]; rw [take_all (by assumption : ¬ (j : Int) < (((runC ((shiftC (setC two) (17 + 2 * (pickI n 13)) 0).1) (pickI n 13)).1).length : Int))]; exact hA7_)

end Go.Proofs.Ythpaadmpgdglnaa
