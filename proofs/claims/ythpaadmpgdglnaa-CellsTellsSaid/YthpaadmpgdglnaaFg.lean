/- The first calls of gosperlaw01: they answer as they should. Each theorem names its conditions. -/
import Derived.Test.YthpaadmpgdglnaaFe
import Derived.Test.YthpaadmpgdglnaaFf
namespace Go.Proofs.Ythpaadmpgdglnaa
open Go Go.RowKit
set_option linter.unusedVariables false
set_option linter.unusedSimpArgs false
set_option maxRecDepth 100000
set_option maxHeartbeats 4000000

theorem c_awake1 (w : World)  : Fn Try.prog 56 [] w (fun v w' =>  v = .bool true ∧ Ex w w') := by
  have K0 : Ex w w := Kp.refl _ _
  refine fn_enter (n := 129) Try.func56 rfl rfl (Nat.le_of_ble_eq_true rfl) ?_
  show CW _ _ _ _ _ _ [] _
  refine cw_seq ?_
  refine cw_region ?_
  refine rw_ev (ev_assign rfl) rfl rfl rfl ?_
  refine rw_nil ?_
  refine nw_seq ?_
  refine cw_seq ?_
  refine cw_region ?_
  refine rw_ev (v := .agg #[.int .i64 1, .int .i64 0]) (ev_pure rfl rfl (fun _ => by kernel_rfl)) rfl rfl rfl ?_
  refine rw_ev (v := .agg #[.int .i64 0, .int .i64 1]) (ev_pure rfl rfl (fun _ => by kernel_rfl)) rfl rfl rfl ?_
  refine rw_ev (v := .agg #[.int .i64 1, .int .i64 0]) (ev_pure rfl rfl (fun _ => by kernel_rfl)) rfl rfl rfl ?_
  refine rw_op (op_buildSlice (E := 55) (m := 3) (pv := #[(0, .agg #[.int .i64 1, .int .i64 0]), (1, .agg #[.int .i64 0, .int .i64 1]), (2, .agg #[.int .i64 1, .int .i64 0])]) (cs := #[.int .i64 1, .int .i64 0, .int .i64 0, .int .i64 1, .int .i64 1, .int .i64 0]) rfl (fun _ => by kernel_rfl)) rfl rfl rfl ?_
  rintro _ w2 ⟨g1, rfl, hg3, k4, b5⟩
  replace K0 := Ex.trans K0 k4
  have zw2 := k4.size
  have lg1 := b5.lt
  refine rw_op (op_fn (xs := [.tmp 17]) ent_57 rfl (c_cof w2 (.slice (some ⟨g1, 0, none⟩) 3 3) ([(1, 0), (0, 1), (1, 0)]) (Sl.below (Bx.slm (A := fun _ => True) (f := encC) (l := [(1, 0), (0, 1), (1, 0)]) b5 trivial (k := 2) (fun _ => rfl) rfl (Nat.le_of_ble_eq_true rfl))) (by decide))) rfl rfl rfl ?_
  rintro _ w7 ⟨u6, rfl, k8, sl9⟩
  replace K0 := Ex.trans K0 k8
  replace b5 := b5.ex k8
  have zw7 := k8.size
  refine rw_ev (ev_move rfl) rfl rfl rfl ?_
  refine rw_ev (ev_extract rfl rfl) rfl rfl rfl ?_
  refine rw_ev (ev_extract rfl rfl) rfl rfl rfl ?_
  refine rw_ev (ev_assign rfl) rfl rfl rfl ?_
  refine rw_ev (ev_assign rfl) rfl rfl rfl ?_
  refine rw_nil ?_
  refine nw_seq ?_
  refine cw_seq ?_
  refine cw_region ?_
  refine rw_ev (ev_move rfl) rfl rfl rfl ?_
  refine rw_op (op_fn (xs := [.tmp 22]) ent_59 rfl (c_cbox w7 u6 ((ofC ([(1, 0), (0, 1), (1, 0)])).1) (Sl.below sl9))) rfl rfl rfl ?_
  rintro _ w10 ⟨rfl, k11⟩
  replace K0 := Ex.trans K0 k11
  replace b5 := b5.ex k11
  replace sl9 := sl9.ex k11
  have zw10 := k11.size
  refine rw_ev (ev_move rfl) rfl rfl rfl ?_
  refine rw_ev (ev_extract (vs := #[.agg #[.int .i64 ((boxC ((ofC ([(1, 0), (0, 1), (1, 0)])).1)).1.1), .int .i64 ((boxC ((ofC ([(1, 0), (0, 1), (1, 0)])).1)).1.2.1), .int .i64 ((boxC ((ofC ([(1, 0), (0, 1), (1, 0)])).1)).1.2.2.1), .int .i64 ((boxC ((ofC ([(1, 0), (0, 1), (1, 0)])).1)).1.2.2.2)], .bool ((boxC ((ofC ([(1, 0), (0, 1), (1, 0)])).1)).2)]) rfl rfl) rfl rfl rfl ?_
  refine rw_ev (ev_extract (vs := #[.agg #[.int .i64 ((boxC ((ofC ([(1, 0), (0, 1), (1, 0)])).1)).1.1), .int .i64 ((boxC ((ofC ([(1, 0), (0, 1), (1, 0)])).1)).1.2.1), .int .i64 ((boxC ((ofC ([(1, 0), (0, 1), (1, 0)])).1)).1.2.2.1), .int .i64 ((boxC ((ofC ([(1, 0), (0, 1), (1, 0)])).1)).1.2.2.2)], .bool ((boxC ((ofC ([(1, 0), (0, 1), (1, 0)])).1)).2)]) rfl rfl) rfl rfl rfl ?_
  refine rw_op (op_alloc zero_69) rfl rfl rfl ?_
  rintro _ w13 ⟨g12, rfl, hg14, k15, b16⟩
  replace K0 := Ex.trans K0 k15
  replace b5 := b5.ex k15
  replace sl9 := sl9.ex k15
  have zw13 := k15.size
  have lg12 := b16.lt
  refine rw_none (op_store (off := 0) (v := .agg #[.int .i64 ((boxC ((ofC ([(1, 0), (0, 1), (1, 0)])).1)).1.1), .int .i64 ((boxC ((ofC ([(1, 0), (0, 1), (1, 0)])).1)).1.2.1), .int .i64 ((boxC ((ofC ([(1, 0), (0, 1), (1, 0)])).1)).1.2.2.1), .int .i64 ((boxC ((ofC ([(1, 0), (0, 1), (1, 0)])).1)).1.2.2.2)]) (cs' := #[.int .i64 ((boxC ((ofC ([(1, 0), (0, 1), (1, 0)])).1)).1.1), .int .i64 ((boxC ((ofC ([(1, 0), (0, 1), (1, 0)])).1)).1.2.1), .int .i64 ((boxC ((ofC ([(1, 0), (0, 1), (1, 0)])).1)).1.2.2.1), .int .i64 ((boxC ((ofC ([(1, 0), (0, 1), (1, 0)])).1)).1.2.2.2)]) b16 rfl rfl size_69 rfl (Nat.le_of_ble_eq_true rfl) (one_cons rfl (one_cons rfl (one_cons rfl (one_cons rfl one_nil)))) rfl) rfl rfl ?_
  rintro _ w17 ⟨k18, b19⟩
  replace K0 := Ex.kp_new K0 k18 (fun _ h => h ▸ Nat.le_trans (Nat.le_trans zw2 (Nat.le_trans zw7 zw10)) hg14)
  replace b5 := b5.kp k18 (Nat.ne_of_lt (Nat.lt_of_lt_of_le lg1 (Nat.le_trans (Nat.le_trans zw7 zw10) hg14)))
  replace sl9 := sl9.kp k18 (fun b h e => Nat.lt_irrefl _ (Nat.lt_of_lt_of_le (show g12 < _ from e ▸ (show b < _ from h.2)) (Nat.le_trans zw10 hg14)))
  have zw17 := k18.size
  refine rw_ev (ev_assign rfl) rfl rfl rfl ?_
  refine rw_nil ?_
  refine nw_seq ?_
  refine cw_seq ?_
  refine cw_region ?_
  refine rw_ev (v := .agg #[.int .i64 1099511627777, .int .i64 0]) (ev_pure rfl rfl (fun _ => by kernel_rfl)) rfl rfl rfl ?_
  refine rw_op (op_buildSlice (E := 55) (m := 1) (pv := #[(0, .agg #[.int .i64 1099511627777, .int .i64 0])]) (cs := #[.int .i64 1099511627777, .int .i64 0]) rfl (fun _ => by kernel_rfl)) rfl rfl rfl ?_
  rintro _ w21 ⟨g20, rfl, hg22, k23, b24⟩
  replace K0 := Ex.trans K0 k23
  replace b5 := b5.ex k23
  replace sl9 := sl9.ex k23
  replace b19 := b19.ex k23
  have zw21 := k23.size
  have lg20 := b24.lt
  refine rw_op (op_fn (xs := [.tmp 28]) ent_57 rfl (c_cof w21 (.slice (some ⟨g20, 0, none⟩) 1 1) ([(1099511627777, 0)]) (Sl.below (Bx.slm (A := fun _ => True) (f := encC) (l := [(1099511627777, 0)]) b24 trivial (k := 2) (fun _ => rfl) rfl (Nat.le_of_ble_eq_true rfl))) (by decide))) rfl rfl rfl ?_
  rintro _ w26 ⟨u25, rfl, k27, sl28⟩
  replace K0 := Ex.trans K0 k27
  replace b5 := b5.ex k27
  replace sl9 := sl9.ex k27
  replace b19 := b19.ex k27
  replace b24 := b24.ex k27
  have zw26 := k27.size
  refine rw_ev (ev_move rfl) rfl rfl rfl ?_
  refine rw_ev (ev_extract rfl rfl) rfl rfl rfl ?_
  refine rw_ev (ev_extract rfl rfl) rfl rfl rfl ?_
  refine rw_ev (ev_assign rfl) rfl rfl rfl ?_
  refine rw_ev (ev_assign rfl) rfl rfl rfl ?_
  refine rw_nil ?_
  refine nw_seq ?_
  refine cw_seq ?_
  refine cw_region ?_
  refine rw_ev (ev_move rfl) rfl rfl rfl ?_
  refine rw_ev (v := .agg #[.int .i64 1, .int .i64 0]) (ev_pure rfl rfl (fun _ => by kernel_rfl)) rfl rfl rfl ?_
  refine rw_op (op_fn (xs := [.tmp 33, .tmp 34, .const (.bool false)]) ent_61 rfl (c_cwith w26 u6 ((ofC ([(1, 0), (0, 1), (1, 0)])).1) (Sl.below sl9) (1, 0) false)) rfl rfl rfl ?_
  rintro _ w30 ⟨u29, rfl, k31, sl32⟩
  replace K0 := Ex.trans K0 k31
  replace b5 := b5.ex k31
  replace sl9 := sl9.ex k31
  replace b19 := b19.ex k31
  replace b24 := b24.ex k31
  replace sl28 := sl28.ex k31
  have zw30 := k31.size
  refine rw_ev (ev_move rfl) rfl rfl rfl ?_
  refine rw_ev (ev_extract (vs := #[u29, .int .i64 ((withC ((ofC ([(1, 0), (0, 1), (1, 0)])).1) (1, 0) false).2)]) rfl rfl) rfl rfl rfl ?_
  refine rw_ev (ev_extract (vs := #[u29, .int .i64 ((withC ((ofC ([(1, 0), (0, 1), (1, 0)])).1) (1, 0) false).2)]) rfl rfl) rfl rfl rfl ?_
  refine rw_ev (ev_assign rfl) rfl rfl rfl ?_
  refine rw_ev (ev_assign rfl) rfl rfl rfl ?_
  refine rw_nil ?_
  refine nw_seq ?_
  refine cw_seq ?_
  refine cw_region ?_
  refine rw_ev (ev_move rfl) rfl rfl rfl ?_
  refine rw_op (op_fn (xs := [.tmp 39, .const (.int .i64 5), .const (.int .i64 (-5))]) ent_64 rfl (c_cshift w30 u6 ((ofC ([(1, 0), (0, 1), (1, 0)])).1) (Sl.below sl9) (5 : Int) (-5) (by decide) (by decide))) rfl rfl rfl ?_
  rintro _ w34 ⟨u33, rfl, k35, sl36⟩
  replace K0 := Ex.trans K0 k35
  replace b5 := b5.ex k35
  replace sl9 := sl9.ex k35
  replace b19 := b19.ex k35
  replace b24 := b24.ex k35
  replace sl28 := sl28.ex k35
  replace sl32 := sl32.ex k35
  have zw34 := k35.size
  refine rw_ev (ev_move rfl) rfl rfl rfl ?_
  refine rw_ev (ev_extract (vs := #[u33, .int .i64 ((shiftC ((ofC ([(1, 0), (0, 1), (1, 0)])).1) (5 : Int) (-5)).2)]) rfl rfl) rfl rfl rfl ?_
  refine rw_ev (ev_extract (vs := #[u33, .int .i64 ((shiftC ((ofC ([(1, 0), (0, 1), (1, 0)])).1) (5 : Int) (-5)).2)]) rfl rfl) rfl rfl rfl ?_
  refine rw_ev (ev_assign rfl) rfl rfl rfl ?_
  refine rw_ev (ev_assign rfl) rfl rfl rfl ?_
  refine rw_nil ?_
  refine nw_seq ?_
  refine cw_seq ?_
  refine cw_region ?_
  refine rw_op (op_fn (xs := [.const (.slice none 0 0)]) ent_59 rfl (c_cbox w34 (.slice none 0 0) ([]) (Sl.below (Sl.nil w34 (fun _ => False) 2 : Sl _ _ _ _ (([] : List Cell).map encC))))) rfl rfl rfl ?_
  rintro _ w37 ⟨rfl, k38⟩
  replace K0 := Ex.trans K0 k38
  replace b5 := b5.ex k38
  replace sl9 := sl9.ex k38
  replace b19 := b19.ex k38
  replace b24 := b24.ex k38
  replace sl28 := sl28.ex k38
  replace sl32 := sl32.ex k38
  replace sl36 := sl36.ex k38
  have zw37 := k38.size
  refine rw_ev (ev_move rfl) rfl rfl rfl ?_
  refine rw_ev (ev_extract rfl rfl) rfl rfl rfl ?_
  refine rw_ev (ev_extract rfl rfl) rfl rfl rfl ?_
  refine rw_op (op_alloc zero_69) rfl rfl rfl ?_
  rintro _ w40 ⟨g39, rfl, hg41, k42, b43⟩
  replace K0 := Ex.trans K0 k42
  replace b5 := b5.ex k42
  replace sl9 := sl9.ex k42
  replace b19 := b19.ex k42
  replace b24 := b24.ex k42
  replace sl28 := sl28.ex k42
  replace sl32 := sl32.ex k42
  replace sl36 := sl36.ex k42
  have zw40 := k42.size
  have lg39 := b43.lt
  refine rw_none (op_store (off := 0) (v := .agg #[.int .i64 ((boxC ([])).1.1), .int .i64 ((boxC ([])).1.2.1), .int .i64 ((boxC ([])).1.2.2.1), .int .i64 ((boxC ([])).1.2.2.2)]) (cs' := #[.int .i64 ((boxC ([])).1.1), .int .i64 ((boxC ([])).1.2.1), .int .i64 ((boxC ([])).1.2.2.1), .int .i64 ((boxC ([])).1.2.2.2)]) b43 rfl rfl size_69 rfl (Nat.le_of_ble_eq_true rfl) (one_cons rfl (one_cons rfl (one_cons rfl (one_cons rfl one_nil)))) rfl) rfl rfl ?_
  rintro _ w44 ⟨k45, b46⟩
  replace K0 := Ex.kp_new K0 k45 (fun _ h => h ▸ Nat.le_trans (Nat.le_trans zw2 (Nat.le_trans zw7 (Nat.le_trans zw10 (Nat.le_trans zw13 (Nat.le_trans zw17 (Nat.le_trans zw21 (Nat.le_trans zw26 (Nat.le_trans zw30 (Nat.le_trans zw34 zw37))))))))) hg41)
  replace b5 := b5.kp k45 (Nat.ne_of_lt (Nat.lt_of_lt_of_le lg1 (Nat.le_trans (Nat.le_trans zw7 (Nat.le_trans zw10 (Nat.le_trans zw13 (Nat.le_trans zw17 (Nat.le_trans zw21 (Nat.le_trans zw26 (Nat.le_trans zw30 (Nat.le_trans zw34 zw37)))))))) hg41)))
  replace sl9 := sl9.kp k45 (fun b h e => Nat.lt_irrefl _ (Nat.lt_of_lt_of_le (show g39 < _ from e ▸ (show b < _ from h.2)) (Nat.le_trans (Nat.le_trans zw10 (Nat.le_trans zw13 (Nat.le_trans zw17 (Nat.le_trans zw21 (Nat.le_trans zw26 (Nat.le_trans zw30 (Nat.le_trans zw34 zw37))))))) hg41)))
  replace b19 := b19.kp k45 (Nat.ne_of_lt (Nat.lt_of_lt_of_le lg12 (Nat.le_trans (Nat.le_trans zw17 (Nat.le_trans zw21 (Nat.le_trans zw26 (Nat.le_trans zw30 (Nat.le_trans zw34 zw37))))) hg41)))
  replace b24 := b24.kp k45 (Nat.ne_of_lt (Nat.lt_of_lt_of_le lg20 (Nat.le_trans (Nat.le_trans zw26 (Nat.le_trans zw30 (Nat.le_trans zw34 zw37))) hg41)))
  replace sl28 := sl28.kp k45 (fun b h e => Nat.lt_irrefl _ (Nat.lt_of_lt_of_le (show g39 < _ from e ▸ (show b < _ from h.2)) (Nat.le_trans (Nat.le_trans zw30 (Nat.le_trans zw34 zw37)) hg41)))
  replace sl32 := sl32.kp k45 (fun b h e => Nat.lt_irrefl _ (Nat.lt_of_lt_of_le (show g39 < _ from e ▸ (show b < _ from h.2)) (Nat.le_trans (Nat.le_trans zw34 zw37) hg41)))
  replace sl36 := sl36.kp k45 (fun b h e => Nat.lt_irrefl _ (Nat.lt_of_lt_of_le (show g39 < _ from e ▸ (show b < _ from h.2)) (Nat.le_trans zw37 hg41)))
  have zw44 := k45.size
  refine rw_ev (ev_assign rfl) rfl rfl rfl ?_
  refine rw_nil ?_
  refine nw_seq ?_
  refine cw_seq ?_
  refine cw_seq ?_
  refine cw_region ?_
  refine rw_ev (ev_move rfl) rfl rfl rfl ?_
  refine rw_ev (v := .int .i64 (((ofC ([(1, 0), (0, 1), (1, 0)])).1).length : Int)) (ev_lenm (l := (ofC ([(1, 0), (0, 1), (1, 0)])).1) ⟨_, sl9⟩ rfl el_46 rfl) rfl rfl rfl ?_
  refine rw_ev (ev_ne (p := (((ofC ([(1, 0), (0, 1), (1, 0)])).1).length : Int)) (q := 2) rfl rfl) rfl rfl rfl ?_
  refine rw_ev (ev_move rfl) rfl rfl rfl ?_
  refine rw_ev (ev_move rfl) (gd_ff rfl (dec_f (by exact fun h_ => h_ (by decide +kernel)))) rfl rfl ?_
  refine rw_ev (v := .int .i64 (((withC ((ofC ([(1, 0), (0, 1), (1, 0)])).1) (1, 0) false).1).length : Int)) (ev_lenm (l := (withC ((ofC ([(1, 0), (0, 1), (1, 0)])).1) (1, 0) false).1) ⟨_, sl32⟩ rfl el_46 rfl) (gd_ff rfl (dec_f (by exact fun h_ => h_ (by decide +kernel)))) rfl rfl ?_
  refine rw_ev (ev_ne (p := (((withC ((ofC ([(1, 0), (0, 1), (1, 0)])).1) (1, 0) false).1).length : Int)) (q := 1) rfl rfl) (gd_ff rfl (dec_f (by exact fun h_ => h_ (by decide +kernel)))) rfl rfl ?_
  refine rw_ev (ev_pk_f (b := decide ((((ofC ([(1, 0), (0, 1), (1, 0)])).1).length : Int) ≠ 2)) rfl (dec_f (by exact fun h_ => h_ (by decide +kernel))) rfl) rfl rfl rfl ?_
  refine rw_ev (ev_move rfl) rfl rfl rfl ?_
  refine rw_ev (ev_move rfl) (gd_ff rfl (dec_f (by exact fun h_ => h_ (by decide +kernel)))) rfl rfl ?_
  refine rw_ev (v := .int .i64 (((shiftC ((ofC ([(1, 0), (0, 1), (1, 0)])).1) (5 : Int) (-5)).1).length : Int)) (ev_lenm (l := (shiftC ((ofC ([(1, 0), (0, 1), (1, 0)])).1) (5 : Int) (-5)).1) ⟨_, sl36⟩ rfl el_46 rfl) (gd_ff rfl (dec_f (by exact fun h_ => h_ (by decide +kernel)))) rfl rfl ?_
  refine rw_ev (ev_ne (p := (((shiftC ((ofC ([(1, 0), (0, 1), (1, 0)])).1) (5 : Int) (-5)).1).length : Int)) (q := 2) rfl rfl) (gd_ff rfl (dec_f (by exact fun h_ => h_ (by decide +kernel)))) rfl rfl ?_
  refine rw_ev (ev_pk_f (b := decide ((((withC ((ofC ([(1, 0), (0, 1), (1, 0)])).1) (1, 0) false).1).length : Int) ≠ 1)) rfl (dec_f (by exact fun h_ => h_ (by decide +kernel))) rfl) rfl rfl rfl ?_
  refine rw_nil ?_
  refine nw_seq ?_
  refine cw_f (b := decide ((((shiftC ((ofC ([(1, 0), (0, 1), (1, 0)])).1) (5 : Int) (-5)).1).length : Int) ≠ 2)) rfl (dec_f (by exact fun h_ => h_ (by decide +kernel))) ?_
  refine cw_skip ?_
  refine nw_seq ?_
  refine cw_seq ?_
  refine cw_region ?_
  refine rw_ev (ev_move rfl) rfl rfl rfl ?_
  refine rw_ev (ev_eq rfl rfl) rfl rfl rfl ?_
  refine rw_ev (ev_move rfl) rfl rfl rfl ?_
  refine rw_ev (ev_move rfl) (gd_tt rfl (dec_t (by decide +kernel))) rfl rfl ?_
  obtain ⟨c47, hc48⟩ := get_of (l := (ofC ([(1, 0), (0, 1), (1, 0)])).1) (i := 0) (by decide +kernel)
  refine rw_ev (v := elemPtr u6 0 2 0) (ev_slAt (i := 0) ⟨_, sl9⟩ rfl rfl el_46 (idx_ok (i := 0) hc48 (by decide +kernel))) (gd_tt rfl (dec_t (by decide +kernel))) rfl rfl ?_
  refine rw_ev (v := .agg #[.int .i64 c47.1, .int .i64 c47.2]) (ev_elLoadk (us := [.int .i64 c47.1, .int .i64 c47.2]) (fun _ h => h ▸ sl9) ⟨_, rfl⟩ rfl (get_enc hc48) agg_55 (by decide) rfl rfl) (gd_tt rfl (dec_t (by decide +kernel))) rfl rfl ?_
  refine rw_ev (v := .agg #[.int .i64 1, .int .i64 0]) (ev_pure rfl rfl (fun _ => by kernel_rfl)) (gd_tt rfl (dec_t (by decide +kernel))) rfl rfl ?_
  refine rw_ev (ev_eql_55 rfl rfl) (gd_tt rfl (dec_t (by decide +kernel))) rfl rfl ?_
  refine rw_ev (ev_pk_t (b := decide (((ofC ([(1, 0), (0, 1), (1, 0)])).2) = 0)) rfl (dec_t (by decide +kernel)) rfl) rfl rfl rfl ?_
  refine rw_ev (ev_move rfl) rfl rfl rfl ?_
  refine rw_ev (v := .agg #[.int .i64 ((boxC ((ofC ([(1, 0), (0, 1), (1, 0)])).1)).1.1), .int .i64 ((boxC ((ofC ([(1, 0), (0, 1), (1, 0)])).1)).1.2.1), .int .i64 ((boxC ((ofC ([(1, 0), (0, 1), (1, 0)])).1)).1.2.2.1), .int .i64 ((boxC ((ofC ([(1, 0), (0, 1), (1, 0)])).1)).1.2.2.2)]) (ev_lbk (off := 0) (vs := [.int .i64 ((boxC ((ofC ([(1, 0), (0, 1), (1, 0)])).1)).1.1), .int .i64 ((boxC ((ofC ([(1, 0), (0, 1), (1, 0)])).1)).1.2.1), .int .i64 ((boxC ((ofC ([(1, 0), (0, 1), (1, 0)])).1)).1.2.2.1), .int .i64 ((boxC ((ofC ([(1, 0), (0, 1), (1, 0)])).1)).1.2.2.2)]) (fun _ h => h ▸ b19) rfl agg_69 rfl rfl) (gd_tt rfl (dec_t (by exact Option.some.inj (hc48.symm.trans (by decide +kernel))))) rfl rfl ?_
  refine rw_ev (v := .agg #[.int .i64 0, .int .i64 0, .int .i64 2, .int .i64 2]) (ev_pure rfl rfl (fun _ => by kernel_rfl)) (gd_tt rfl (dec_t (by exact Option.some.inj (hc48.symm.trans (by decide +kernel))))) rfl rfl ?_
  refine rw_ev (ev_eql_69 rfl rfl) (gd_tt rfl (dec_t (by exact Option.some.inj (hc48.symm.trans (by decide +kernel))))) rfl rfl ?_
  refine rw_ev (ev_pk_t rfl (dec_t (by exact Option.some.inj (hc48.symm.trans (by decide +kernel)))) rfl) rfl rfl rfl ?_
  refine rw_ev (ev_move rfl) rfl rfl rfl ?_
  refine rw_ev (ev_move rfl) (gd_tt rfl (dec_t (by decide +kernel))) rfl rfl ?_
  refine rw_ev (ev_pk_t (b := decide (((boxC ((ofC ([(1, 0), (0, 1), (1, 0)])).1)).1.1, (boxC ((ofC ([(1, 0), (0, 1), (1, 0)])).1)).1.2.1, (boxC ((ofC ([(1, 0), (0, 1), (1, 0)])).1)).1.2.2.1, (boxC ((ofC ([(1, 0), (0, 1), (1, 0)])).1)).1.2.2.2) = (0, 0, 2, 2))) rfl (dec_t (by decide +kernel)) rfl) rfl rfl rfl ?_
  refine rw_ev (ev_move rfl) rfl rfl rfl ?_
  refine rw_ev (ev_move rfl) (gd_tt rfl (by decide +kernel)) rfl rfl ?_
  refine rw_ev (ev_eq rfl rfl) (gd_tt rfl (by decide +kernel)) rfl rfl ?_
  refine rw_ev (ev_pk_t (b := (boxC ((ofC ([(1, 0), (0, 1), (1, 0)])).1)).2) rfl (by decide +kernel) rfl) rfl rfl rfl ?_
  refine rw_ev (ev_move rfl) rfl rfl rfl ?_
  refine rw_ev (ev_move rfl) (gd_tt rfl (dec_t (by decide +kernel))) rfl rfl ?_
  refine rw_ev (ev_eq (p := (withC ((ofC ([(1, 0), (0, 1), (1, 0)])).1) (1, 0) false).2) (q := 0) rfl rfl) (gd_tt rfl (dec_t (by decide +kernel))) rfl rfl ?_
  refine rw_ev (ev_pk_t (b := decide (((ofC ([(1099511627777, 0)])).2) = 2)) rfl (dec_t (by decide +kernel)) rfl) rfl rfl rfl ?_
  refine rw_ev (ev_move rfl) rfl rfl rfl ?_
  refine rw_ev (ev_move rfl) (gd_tt rfl (dec_t (by decide +kernel))) rfl rfl ?_
  obtain ⟨c49, hc50⟩ := get_of (l := (withC ((ofC ([(1, 0), (0, 1), (1, 0)])).1) (1, 0) false).1) (i := 0) (by decide +kernel)
  refine rw_ev (v := elemPtr u29 0 2 0) (ev_slAt (i := 0) ⟨_, sl32⟩ rfl rfl el_46 (idx_ok (i := 0) hc50 (by decide +kernel))) (gd_tt rfl (dec_t (by decide +kernel))) rfl rfl ?_
  refine rw_ev (v := .agg #[.int .i64 c49.1, .int .i64 c49.2]) (ev_elLoadk (us := [.int .i64 c49.1, .int .i64 c49.2]) (fun _ h => h ▸ sl32) ⟨_, rfl⟩ rfl (get_enc hc50) agg_55 (by decide) rfl rfl) (gd_tt rfl (dec_t (by decide +kernel))) rfl rfl ?_
  refine rw_ev (v := .agg #[.int .i64 0, .int .i64 1]) (ev_pure rfl rfl (fun _ => by kernel_rfl)) (gd_tt rfl (dec_t (by decide +kernel))) rfl rfl ?_
  refine rw_ev (ev_eql_55 rfl rfl) (gd_tt rfl (dec_t (by decide +kernel))) rfl rfl ?_
  refine rw_ev (ev_pk_t (b := decide (((withC ((ofC ([(1, 0), (0, 1), (1, 0)])).1) (1, 0) false).2) = 0)) rfl (dec_t (by decide +kernel)) rfl) rfl rfl rfl ?_
  refine rw_ev (ev_move rfl) rfl rfl rfl ?_
  refine rw_ev (ev_move rfl) (gd_tt rfl (dec_t (by exact Option.some.inj (hc50.symm.trans (by decide +kernel))))) rfl rfl ?_
  refine rw_ev (ev_eq (p := (shiftC ((ofC ([(1, 0), (0, 1), (1, 0)])).1) (5 : Int) (-5)).2) (q := 0) rfl rfl) (gd_tt rfl (dec_t (by exact Option.some.inj (hc50.symm.trans (by decide +kernel))))) rfl rfl ?_
  refine rw_ev (ev_pk_t rfl (dec_t (by exact Option.some.inj (hc50.symm.trans (by decide +kernel)))) rfl) rfl rfl rfl ?_
  refine rw_ev (ev_move rfl) rfl rfl rfl ?_
  refine rw_ev (ev_move rfl) (gd_tt rfl (dec_t (by decide +kernel))) rfl rfl ?_
  obtain ⟨c51, hc52⟩ := get_of (l := (shiftC ((ofC ([(1, 0), (0, 1), (1, 0)])).1) (5 : Int) (-5)).1) (i := 0) (by decide +kernel)
  refine rw_ev (v := elemPtr u33 0 2 0) (ev_slAt (i := 0) ⟨_, sl36⟩ rfl rfl el_46 (idx_ok (i := 0) hc52 (by decide +kernel))) (gd_tt rfl (dec_t (by decide +kernel))) rfl rfl ?_
  refine rw_ev (v := .agg #[.int .i64 c51.1, .int .i64 c51.2]) (ev_elLoadk (us := [.int .i64 c51.1, .int .i64 c51.2]) (fun _ h => h ▸ sl36) ⟨_, rfl⟩ rfl (get_enc hc52) agg_55 (by decide) rfl rfl) (gd_tt rfl (dec_t (by decide +kernel))) rfl rfl ?_
  refine rw_ev (v := .agg #[.int .i64 6, .int .i64 (-5)]) (ev_pure rfl rfl (fun _ => by kernel_rfl)) (gd_tt rfl (dec_t (by decide +kernel))) rfl rfl ?_
  refine rw_ev (ev_eql_55 rfl rfl) (gd_tt rfl (dec_t (by decide +kernel))) rfl rfl ?_
  refine rw_ev (ev_pk_t (b := decide (((shiftC ((ofC ([(1, 0), (0, 1), (1, 0)])).1) (5 : Int) (-5)).2) = 0)) rfl (dec_t (by decide +kernel)) rfl) rfl rfl rfl ?_
  refine rw_ev (ev_move rfl) rfl rfl rfl ?_
  refine rw_ev (ev_move rfl) (gd_tt rfl (dec_t (by exact Option.some.inj (hc52.symm.trans (by decide +kernel))))) rfl rfl ?_
  refine rw_ev (ev_not rfl rfl) (gd_tt rfl (dec_t (by exact Option.some.inj (hc52.symm.trans (by decide +kernel))))) rfl rfl ?_
  refine rw_ev (ev_pk_t rfl (dec_t (by exact Option.some.inj (hc52.symm.trans (by decide +kernel)))) rfl) rfl rfl rfl ?_
  refine rw_ev (ev_move rfl) rfl rfl rfl ?_
  refine rw_ev (ev_move rfl) (gd_tt rfl (not_t (by decide +kernel))) rfl rfl ?_
  refine rw_op (op_fn (xs := [.tmp 108]) ent_58 rfl (c_cright w44 u6 ((ofC ([(1, 0), (0, 1), (1, 0)])).1) (Sl.below sl9))) (gd_tt rfl (not_t (by decide +kernel))) rfl rfl ?_
  rintro _ w53 ⟨rfl, k54⟩
  replace K0 := Ex.trans K0 k54
  replace b5 := b5.ex k54
  replace sl9 := sl9.ex k54
  replace b19 := b19.ex k54
  replace b24 := b24.ex k54
  replace sl28 := sl28.ex k54
  replace sl32 := sl32.ex k54
  replace sl36 := sl36.ex k54
  replace b46 := b46.ex k54
  have zw53 := k54.size
  refine rw_ev (ev_pk_t rfl (not_t (by decide +kernel)) rfl) rfl rfl rfl ?_
  refine rw_ev (ev_move rfl) rfl rfl rfl ?_
  refine rw_ev (v := .agg #[.int .i64 0, .int .i64 0]) (ev_pure rfl rfl (fun _ => by kernel_rfl)) (gd_tt rfl (by decide +kernel)) rfl rfl ?_
  refine rw_ev (v := .agg #[.int .i64 0, .int .i64 0]) (ev_pure rfl rfl (fun _ => by kernel_rfl)) (gd_tt rfl (by decide +kernel)) rfl rfl ?_
  refine rw_op (op_buildSlice (E := 55) (m := 2) (pv := #[(0, .agg #[.int .i64 0, .int .i64 0]), (1, .agg #[.int .i64 0, .int .i64 0])]) (cs := #[.int .i64 0, .int .i64 0, .int .i64 0, .int .i64 0]) rfl (fun _ => by kernel_rfl)) (gd_tt rfl (by decide +kernel)) rfl rfl ?_
  rintro _ w56 ⟨g55, rfl, hg57, k58, b59⟩
  replace K0 := Ex.trans K0 k58
  replace b5 := b5.ex k58
  replace sl9 := sl9.ex k58
  replace b19 := b19.ex k58
  replace b24 := b24.ex k58
  replace sl28 := sl28.ex k58
  replace sl32 := sl32.ex k58
  replace sl36 := sl36.ex k58
  replace b46 := b46.ex k58
  have zw56 := k58.size
  have lg55 := b59.lt
  refine rw_op (op_fn (xs := [.tmp 114]) ent_58 rfl (c_cright w56 (.slice (some ⟨g55, 0, none⟩) 2 2) ([(0, 0), (0, 0)]) (Sl.below (Bx.slm (A := fun _ => True) (f := encC) (l := [(0, 0), (0, 0)]) b59 trivial (k := 2) (fun _ => rfl) rfl (Nat.le_of_ble_eq_true rfl))))) (gd_tt rfl (by decide +kernel)) rfl rfl ?_
  rintro _ w60 ⟨rfl, k61⟩
  replace K0 := Ex.trans K0 k61
  replace b5 := b5.ex k61
  replace sl9 := sl9.ex k61
  replace b19 := b19.ex k61
  replace b24 := b24.ex k61
  replace sl28 := sl28.ex k61
  replace sl32 := sl32.ex k61
  replace sl36 := sl36.ex k61
  replace b46 := b46.ex k61
  replace b59 := b59.ex k61
  have zw60 := k61.size
  refine rw_ev (ev_not rfl rfl) (gd_tt rfl (by decide +kernel)) rfl rfl ?_
  refine rw_ev (ev_pk_t rfl (by decide +kernel) rfl) rfl rfl rfl ?_
  refine rw_ev (ev_move rfl) rfl rfl rfl ?_
  refine rw_ev (ev_move rfl) (gd_tt rfl (not_t (by decide +kernel))) rfl rfl ?_
  refine rw_ev (v := .agg #[.int .i64 0, .int .i64 1]) (ev_pure rfl rfl (fun _ => by kernel_rfl)) (gd_tt rfl (not_t (by decide +kernel))) rfl rfl ?_
  refine rw_op (op_fn (xs := [.tmp 119, .tmp 120]) ent_63 rfl (c_chas w60 u6 ((ofC ([(1, 0), (0, 1), (1, 0)])).1) (Sl.below sl9) (0, 1))) (gd_tt rfl (not_t (by decide +kernel))) rfl rfl ?_
  rintro _ w62 ⟨rfl, k63⟩
  replace K0 := Ex.trans K0 k63
  replace b5 := b5.ex k63
  replace sl9 := sl9.ex k63
  replace b19 := b19.ex k63
  replace b24 := b24.ex k63
  replace sl28 := sl28.ex k63
  replace sl32 := sl32.ex k63
  replace sl36 := sl36.ex k63
  replace b46 := b46.ex k63
  replace b59 := b59.ex k63
  have zw62 := k63.size
  refine rw_ev (ev_pk_t rfl (not_t (by decide +kernel)) rfl) rfl rfl rfl ?_
  refine rw_ev (ev_move rfl) rfl rfl rfl ?_
  refine rw_ev (ev_move rfl) (gd_tt rfl (by decide +kernel)) rfl rfl ?_
  refine rw_ev (v := .agg #[.int .i64 0, .int .i64 0]) (ev_pure rfl rfl (fun _ => by kernel_rfl)) (gd_tt rfl (by decide +kernel)) rfl rfl ?_
  refine rw_op (op_fn (xs := [.tmp 124, .tmp 125]) ent_63 rfl (c_chas w62 u6 ((ofC ([(1, 0), (0, 1), (1, 0)])).1) (Sl.below sl9) (0, 0))) (gd_tt rfl (by decide +kernel)) rfl rfl ?_
  rintro _ w64 ⟨rfl, k65⟩
  replace K0 := Ex.trans K0 k65
  replace b5 := b5.ex k65
  replace sl9 := sl9.ex k65
  replace b19 := b19.ex k65
  replace b24 := b24.ex k65
  replace sl28 := sl28.ex k65
  replace sl32 := sl32.ex k65
  replace sl36 := sl36.ex k65
  replace b46 := b46.ex k65
  replace b59 := b59.ex k65
  have zw64 := k65.size
  refine rw_ev (ev_not rfl rfl) (gd_tt rfl (by decide +kernel)) rfl rfl ?_
  refine rw_ev (ev_pk_t rfl (by decide +kernel) rfl) rfl rfl rfl ?_
  refine rw_ev (ev_assign rfl) rfl rfl rfl ?_
  refine rw_nil ?_
  refine nw_seq ?_
  refine cw_ret ?_
  refine ret_post (rs := [.tmp 0]) (vs := [.bool (!(hasC ((ofC ([(1, 0), (0, 1), (1, 0)])).1) (0, 0)))]) rfl (.tmp rfl .nil) ?_
  refine ⟨?_, K0⟩
  · show (.bool (!(hasC ((ofC ([(1, 0), (0, 1), (1, 0)])).1) (0, 0))) : Value) = _
    rfl

end Go.Proofs.Ythpaadmpgdglnaa
