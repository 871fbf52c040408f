/- The first calls of gosperlaw02: they answer as they should. Each theorem names its conditions. -/
import Derived.Test.YthpaadmpgdglnaaFj
namespace Go.Proofs.Ythpaadmpgdglnaa
open Go Go.RowKit
set_option linter.unusedVariables false
set_option linter.unusedSimpArgs false
set_option maxRecDepth 100000
set_option maxHeartbeats 4000000

theorem c_awake2 (w : World)  : Fn Try.prog 43 [] w (fun v w' =>  v = .bool true ∧ Ex w w') := by
  have K0 : Ex w w := Kp.refl _ _
  refine fn_enter (n := 86) Try.func43 rfl rfl (Nat.le_of_ble_eq_true rfl) ?_
  show CW _ _ _ _ _ _ [] _
  refine cw_seq ?_
  refine cw_region ?_
  refine rw_ev (ev_assign rfl) rfl rfl rfl ?_
  refine rw_nil ?_
  refine nw_seq ?_
  refine cw_seq ?_
  refine cw_region ?_
  refine rw_ev (v := .agg #[.int .i64 0, .int .i64 0]) (ev_pure rfl rfl (fun _ => by kernel_rfl)) rfl rfl rfl ?_
  refine rw_ev (v := .agg #[.int .i64 1, .int .i64 0]) (ev_pure rfl rfl (fun _ => by kernel_rfl)) rfl rfl rfl ?_
  refine rw_ev (v := .agg #[.int .i64 2, .int .i64 0]) (ev_pure rfl rfl (fun _ => by kernel_rfl)) rfl rfl rfl ?_
  refine rw_op (op_buildSlice (E := 55) (m := 3) (pv := #[(0, .agg #[.int .i64 0, .int .i64 0]), (1, .agg #[.int .i64 1, .int .i64 0]), (2, .agg #[.int .i64 2, .int .i64 0])]) (cs := #[.int .i64 0, .int .i64 0, .int .i64 1, .int .i64 0, .int .i64 2, .int .i64 0]) rfl (fun _ => by kernel_rfl)) rfl rfl rfl ?_
  rintro _ w2 ⟨g1, rfl, hg3, k4, b5⟩
  replace K0 := Ex.trans K0 k4
  have zw2 := k4.size
  have lg1 := b5.lt
  refine rw_op (op_fn (xs := [.tmp 13]) ent_47 rfl (c_next w2 (.slice (some ⟨g1, 0, none⟩) 3 3) ([(0, 0), (1, 0), (2, 0)]) (Sl.below (Bx.slm (A := fun _ => True) (f := encC) (l := [(0, 0), (1, 0), (2, 0)]) b5 trivial (k := 2) (fun _ => rfl) rfl (Nat.le_of_ble_eq_true rfl))))) rfl rfl rfl ?_
  rintro _ w7 ⟨u6, rfl, k8, sl9⟩
  replace K0 := Ex.trans K0 k8
  replace b5 := b5.ex k8
  have zw7 := k8.size
  refine rw_ev (ev_move rfl) rfl rfl rfl ?_
  refine rw_ev (ev_extract rfl rfl) rfl rfl rfl ?_
  refine rw_ev (ev_extract rfl rfl) rfl rfl rfl ?_
  refine rw_ev (ev_assign rfl) rfl rfl rfl ?_
  refine rw_ev (ev_assign rfl) rfl rfl rfl ?_
  refine rw_nil ?_
  refine nw_seq ?_
  refine cw_seq ?_
  refine cw_region ?_
  refine rw_ev (v := .agg #[.int .i64 0, .int .i64 0]) (ev_pure rfl rfl (fun _ => by kernel_rfl)) rfl rfl rfl ?_
  refine rw_ev (v := .agg #[.int .i64 1, .int .i64 0]) (ev_pure rfl rfl (fun _ => by kernel_rfl)) rfl rfl rfl ?_
  refine rw_ev (v := .agg #[.int .i64 2, .int .i64 0]) (ev_pure rfl rfl (fun _ => by kernel_rfl)) rfl rfl rfl ?_
  refine rw_op (op_buildSlice (E := 55) (m := 3) (pv := #[(0, .agg #[.int .i64 0, .int .i64 0]), (1, .agg #[.int .i64 1, .int .i64 0]), (2, .agg #[.int .i64 2, .int .i64 0])]) (cs := #[.int .i64 0, .int .i64 0, .int .i64 1, .int .i64 0, .int .i64 2, .int .i64 0]) rfl (fun _ => by kernel_rfl)) rfl rfl rfl ?_
  rintro _ w11 ⟨g10, rfl, hg12, k13, b14⟩
  replace K0 := Ex.trans K0 k13
  replace sl9 := sl9.ex k13
  have zw11 := k13.size
  have lg10 := b14.lt
  refine rw_op (op_fn (xs := [.tmp 21, .const (.int .i64 4)]) ent_49 rfl (c_run w11 (.slice (some ⟨g10, 0, none⟩) 3 3) ([(0, 0), (1, 0), (2, 0)]) (Sl.below (Bx.slm (A := fun _ => True) (f := encC) (l := [(0, 0), (1, 0), (2, 0)]) b14 trivial (k := 2) (fun _ => rfl) rfl (Nat.le_of_ble_eq_true rfl))) (4 : Int))) rfl rfl rfl ?_
  rintro _ w16 ⟨u15, rfl, k17, sl18⟩
  replace K0 := Ex.trans K0 k17
  replace sl9 := sl9.ex k17
  replace b14 := b14.ex k17
  have zw16 := k17.size
  refine rw_ev (ev_move rfl) rfl rfl rfl ?_
  refine rw_ev (ev_extract rfl rfl) rfl rfl rfl ?_
  refine rw_ev (ev_extract rfl rfl) rfl rfl rfl ?_
  refine rw_ev (ev_assign rfl) rfl rfl rfl ?_
  refine rw_ev (ev_assign rfl) rfl rfl rfl ?_
  refine rw_nil ?_
  refine nw_seq ?_
  refine cw_seq ?_
  refine cw_region ?_
  refine rw_ev (v := .agg #[.int .i64 0, .int .i64 0]) (ev_pure rfl rfl (fun _ => by kernel_rfl)) rfl rfl rfl ?_
  refine rw_ev (v := .agg #[.int .i64 0, .int .i64 0]) (ev_pure rfl rfl (fun _ => by kernel_rfl)) rfl rfl rfl ?_
  refine rw_op (op_buildSlice (E := 55) (m := 2) (pv := #[(0, .agg #[.int .i64 0, .int .i64 0]), (1, .agg #[.int .i64 0, .int .i64 0])]) (cs := #[.int .i64 0, .int .i64 0, .int .i64 0, .int .i64 0]) rfl (fun _ => by kernel_rfl)) rfl rfl rfl ?_
  rintro _ w20 ⟨g19, rfl, hg21, k22, b23⟩
  replace K0 := Ex.trans K0 k22
  replace sl9 := sl9.ex k22
  replace sl18 := sl18.ex k22
  have zw20 := k22.size
  have lg19 := b23.lt
  refine rw_op (op_fn (xs := [.tmp 28]) ent_47 rfl (c_next w20 (.slice (some ⟨g19, 0, none⟩) 2 2) ([(0, 0), (0, 0)]) (Sl.below (Bx.slm (A := fun _ => True) (f := encC) (l := [(0, 0), (0, 0)]) b23 trivial (k := 2) (fun _ => rfl) rfl (Nat.le_of_ble_eq_true rfl))))) rfl rfl rfl ?_
  rintro _ w25 ⟨u24, rfl, k26, sl27⟩
  replace K0 := Ex.trans K0 k26
  replace sl9 := sl9.ex k26
  replace sl18 := sl18.ex k26
  replace b23 := b23.ex k26
  have zw25 := k26.size
  refine rw_ev (ev_move rfl) rfl rfl rfl ?_
  refine rw_ev (ev_extract rfl rfl) rfl rfl rfl ?_
  refine rw_ev (ev_extract rfl rfl) rfl rfl rfl ?_
  refine rw_ev (ev_assign rfl) rfl rfl rfl ?_
  refine rw_ev (ev_assign rfl) rfl rfl rfl ?_
  refine rw_nil ?_
  refine nw_seq ?_
  refine cw_seq ?_
  refine cw_region ?_
  refine rw_op (op_fn (xs := [.const (.slice none 0 0), .const (.int .i64 1001)]) ent_49 rfl (c_run w25 (.slice none 0 0) ([]) (Sl.below (Sl.nil w25 (fun _ => False) 2 : Sl _ _ _ _ (([] : List Cell).map encC))) (1001 : Int))) rfl rfl rfl ?_
  rintro _ w29 ⟨u28, rfl, k30, sl31⟩
  replace K0 := Ex.trans K0 k30
  replace sl9 := sl9.ex k30
  replace sl18 := sl18.ex k30
  have zw29 := k30.size
  refine rw_ev (ev_move rfl) rfl rfl rfl ?_
  refine rw_ev (ev_extract rfl rfl) rfl rfl rfl ?_
  refine rw_ev (ev_extract rfl rfl) rfl rfl rfl ?_
  refine rw_ev (ev_assign rfl) rfl rfl rfl ?_
  refine rw_ev (ev_assign rfl) rfl rfl rfl ?_
  refine rw_nil ?_
  refine nw_seq ?_
  refine cw_seq ?_
  refine cw_seq ?_
  refine cw_region ?_
  refine rw_ev (ev_move rfl) rfl rfl rfl ?_
  refine rw_ev (v := .int .i64 (((nextC ([(0, 0), (1, 0), (2, 0)])).1).length : Int)) (ev_lenm (l := (nextC ([(0, 0), (1, 0), (2, 0)])).1) ⟨_, sl9⟩ rfl el_46 rfl) rfl rfl rfl ?_
  refine rw_ev (ev_ne (p := (((nextC ([(0, 0), (1, 0), (2, 0)])).1).length : Int)) (q := 3) rfl rfl) rfl rfl rfl ?_
  refine rw_ev (ev_move rfl) rfl rfl rfl ?_
  refine rw_ev (ev_move rfl) (gd_ff rfl (dec_f (by exact fun h_ => h_ (by decide +kernel)))) rfl rfl ?_
  refine rw_ev (v := .int .i64 (((runC ([(0, 0), (1, 0), (2, 0)]) (4 : Int)).1).length : Int)) (ev_lenm (l := (runC ([(0, 0), (1, 0), (2, 0)]) (4 : Int)).1) ⟨_, sl18⟩ rfl el_46 rfl) (gd_ff rfl (dec_f (by exact fun h_ => h_ (by decide +kernel)))) rfl rfl ?_
  refine rw_ev (ev_ne (p := (((runC ([(0, 0), (1, 0), (2, 0)]) (4 : Int)).1).length : Int)) (q := 3) rfl rfl) (gd_ff rfl (dec_f (by exact fun h_ => h_ (by decide +kernel)))) rfl rfl ?_
  refine rw_ev (ev_pk_f (b := decide ((((nextC ([(0, 0), (1, 0), (2, 0)])).1).length : Int) ≠ 3)) rfl (dec_f (by exact fun h_ => h_ (by decide +kernel))) rfl) rfl rfl rfl ?_
  refine rw_nil ?_
  refine nw_seq ?_
  refine cw_f (b := decide ((((runC ([(0, 0), (1, 0), (2, 0)]) (4 : Int)).1).length : Int) ≠ 3)) rfl (dec_f (by exact fun h_ => h_ (by decide +kernel))) ?_
  refine cw_skip ?_
  refine nw_seq ?_
  refine cw_seq ?_
  refine cw_region ?_
  refine rw_ev (ev_move rfl) rfl rfl rfl ?_
  refine rw_ev (ev_eq rfl rfl) rfl rfl rfl ?_
  refine rw_ev (ev_move rfl) rfl rfl rfl ?_
  refine rw_ev (ev_move rfl) (gd_tt rfl (dec_t (by decide +kernel))) rfl rfl ?_
  obtain ⟨c32, hc33⟩ := get_of (l := (nextC ([(0, 0), (1, 0), (2, 0)])).1) (i := 0) (by decide +kernel)
  refine rw_ev (v := elemPtr u6 0 2 0) (ev_slAt (i := 0) ⟨_, sl9⟩ rfl rfl el_46 (idx_ok (i := 0) hc33 (by decide +kernel))) (gd_tt rfl (dec_t (by decide +kernel))) rfl rfl ?_
  refine rw_ev (v := .agg #[.int .i64 c32.1, .int .i64 c32.2]) (ev_elLoadk (us := [.int .i64 c32.1, .int .i64 c32.2]) (fun _ h => h ▸ sl9) ⟨_, rfl⟩ rfl (get_enc (f := encC) hc33) agg_55 (by decide) rfl rfl) (gd_tt rfl (dec_t (by decide +kernel))) rfl rfl ?_
  refine rw_ev (v := .agg #[.int .i64 1, .int .i64 (-1)]) (ev_pure rfl rfl (fun _ => by kernel_rfl)) (gd_tt rfl (dec_t (by decide +kernel))) rfl rfl ?_
  refine rw_ev (ev_eql_55 rfl rfl) (gd_tt rfl (dec_t (by decide +kernel))) rfl rfl ?_
  refine rw_ev (ev_pk_t (b := decide (((nextC ([(0, 0), (1, 0), (2, 0)])).2) = 0)) rfl (dec_t (by decide +kernel)) rfl) rfl rfl rfl ?_
  refine rw_ev (ev_move rfl) rfl rfl rfl ?_
  refine rw_ev (ev_move rfl) (gd_tt rfl (dec_t (by exact Option.some.inj (hc33.symm.trans (by decide +kernel))))) rfl rfl ?_
  refine rw_ev (ev_eq rfl rfl) (gd_tt rfl (dec_t (by exact Option.some.inj (hc33.symm.trans (by decide +kernel))))) rfl rfl ?_
  refine rw_ev (ev_pk_t rfl (dec_t (by exact Option.some.inj (hc33.symm.trans (by decide +kernel)))) rfl) rfl rfl rfl ?_
  refine rw_ev (ev_move rfl) rfl rfl rfl ?_
  refine rw_ev (ev_move rfl) (gd_tt rfl (dec_t (by decide +kernel))) rfl rfl ?_
  obtain ⟨c34, hc35⟩ := get_of (l := (runC ([(0, 0), (1, 0), (2, 0)]) (4 : Int)).1) (i := 2) (by decide +kernel)
  refine rw_ev (v := elemPtr u15 2 2 0) (ev_slAt (i := 2) ⟨_, sl18⟩ rfl rfl el_46 (idx_ok (i := 2) hc35 (by decide +kernel))) (gd_tt rfl (dec_t (by decide +kernel))) rfl rfl ?_
  refine rw_ev (v := .agg #[.int .i64 c34.1, .int .i64 c34.2]) (ev_elLoadk (us := [.int .i64 c34.1, .int .i64 c34.2]) (fun _ h => h ▸ sl18) ⟨_, rfl⟩ rfl (get_enc (f := encC) hc35) agg_55 (by decide) rfl rfl) (gd_tt rfl (dec_t (by decide +kernel))) rfl rfl ?_
  refine rw_ev (v := .agg #[.int .i64 2, .int .i64 0]) (ev_pure rfl rfl (fun _ => by kernel_rfl)) (gd_tt rfl (dec_t (by decide +kernel))) rfl rfl ?_
  refine rw_ev (ev_eql_55 rfl rfl) (gd_tt rfl (dec_t (by decide +kernel))) rfl rfl ?_
  refine rw_ev (ev_pk_t (b := decide (((runC ([(0, 0), (1, 0), (2, 0)]) (4 : Int)).2) = 0)) rfl (dec_t (by decide +kernel)) rfl) rfl rfl rfl ?_
  refine rw_ev (ev_move rfl) rfl rfl rfl ?_
  refine rw_ev (ev_move rfl) (gd_tt rfl (dec_t (by exact Option.some.inj (hc35.symm.trans (by decide +kernel))))) rfl rfl ?_
  refine rw_ev (ev_eq rfl rfl) (gd_tt rfl (dec_t (by exact Option.some.inj (hc35.symm.trans (by decide +kernel))))) rfl rfl ?_
  refine rw_ev (ev_pk_t rfl (dec_t (by exact Option.some.inj (hc35.symm.trans (by decide +kernel)))) rfl) rfl rfl rfl ?_
  refine rw_ev (ev_move rfl) rfl rfl rfl ?_
  refine rw_ev (ev_move rfl) (gd_tt rfl (dec_t (by decide +kernel))) rfl rfl ?_
  refine rw_ev (ev_eq rfl rfl) (gd_tt rfl (dec_t (by decide +kernel))) rfl rfl ?_
  refine rw_ev (ev_pk_t (b := decide (((nextC ([(0, 0), (0, 0)])).2) = 1)) rfl (dec_t (by decide +kernel)) rfl) rfl rfl rfl ?_
  refine rw_ev (ev_move rfl) rfl rfl rfl ?_
  refine rw_op (op_fn (xs := [.const (.bool true), .const (.int .i64 2)]) ent_50 rfl (c_lives w29 true (2 : Int))) (gd_tt rfl (dec_t (by decide +kernel))) rfl rfl ?_
  rintro _ w36 ⟨rfl, k37⟩
  replace K0 := Ex.trans K0 k37
  replace sl9 := sl9.ex k37
  replace sl18 := sl18.ex k37
  have zw36 := k37.size
  refine rw_ev (ev_pk_t rfl (dec_t (by decide +kernel)) rfl) rfl rfl rfl ?_
  refine rw_ev (ev_move rfl) rfl rfl rfl ?_
  refine rw_op (op_fn (xs := [.const (.bool false), .const (.int .i64 2)]) ent_50 rfl (c_lives w36 false (2 : Int))) (gd_tt rfl (by decide +kernel)) rfl rfl ?_
  rintro _ w38 ⟨rfl, k39⟩
  replace K0 := Ex.trans K0 k39
  replace sl9 := sl9.ex k39
  replace sl18 := sl18.ex k39
  have zw38 := k39.size
  refine rw_ev (ev_not rfl rfl) (gd_tt rfl (by decide +kernel)) rfl rfl ?_
  refine rw_ev (ev_pk_t rfl (by decide +kernel) rfl) rfl rfl rfl ?_
  refine rw_ev (ev_move rfl) rfl rfl rfl ?_
  refine rw_op (op_fn (xs := [.const (.bool false), .const (.int .i64 3)]) ent_50 rfl (c_lives w38 false (3 : Int))) (gd_tt rfl (not_t (by decide +kernel))) rfl rfl ?_
  rintro _ w40 ⟨rfl, k41⟩
  replace K0 := Ex.trans K0 k41
  replace sl9 := sl9.ex k41
  replace sl18 := sl18.ex k41
  have zw40 := k41.size
  refine rw_ev (ev_pk_t rfl (not_t (by decide +kernel)) rfl) rfl rfl rfl ?_
  refine rw_ev (ev_move rfl) rfl rfl rfl ?_
  refine rw_op (op_fn (xs := [.const (.bool true), .const (.int .i64 4)]) ent_50 rfl (c_lives w40 true (4 : Int))) (gd_tt rfl (by decide +kernel)) rfl rfl ?_
  rintro _ w42 ⟨rfl, k43⟩
  replace K0 := Ex.trans K0 k43
  replace sl9 := sl9.ex k43
  replace sl18 := sl18.ex k43
  have zw42 := k43.size
  refine rw_ev (ev_not rfl rfl) (gd_tt rfl (by decide +kernel)) rfl rfl ?_
  refine rw_ev (ev_pk_t rfl (by decide +kernel) rfl) rfl rfl rfl ?_
  refine rw_ev (ev_assign rfl) rfl rfl rfl ?_
  refine rw_nil ?_
  refine nw_seq ?_
  refine cw_ret ?_
  refine ret_post (rs := [.tmp 0]) (vs := [.bool (!(livesB true (4 : Int)))]) rfl (.tmp rfl .nil) ?_
  refine ⟨?_, K0⟩
  · show (.bool (!(livesB true (4 : Int))) : Value) = _
    rfl

end Go.Proofs.Ythpaadmpgdglnaa
