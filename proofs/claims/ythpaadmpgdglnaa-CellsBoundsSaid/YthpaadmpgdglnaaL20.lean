/- The law CellsBounds: it returns true. Its condition: numbers of 64 bits. -/
import Derived.Test.YthpaadmpgdglnaaFg
import Derived.Test.YthpaadmpgdglnaaD8
namespace Go.Proofs.Ythpaadmpgdglnaa
open Go Go.RowKit
set_option linter.unusedVariables false
set_option linter.unusedSimpArgs false
set_option maxRecDepth 100000
set_option maxHeartbeats 4000000

theorem law_CellsBounds (w : World) (rv : Value) (raw : List Cell) (hrv : Sl w (fun b => b < w.heap.size) rv 2 (raw.map encC)) (hrvr : RawOk raw) (dx : Int) (dy : Int) (hdx64 : -9223372036854775808 ≤ dx ∧ dx ≤ 9223372036854775807) (hdy64 : -9223372036854775808 ≤ dy ∧ dy ≤ 9223372036854775807) : Fn Try.prog 20 [rv, .int .i64 dx, .int .i64 dy] w (fun v w' =>  v = .bool true ∧ Ex w w') := by
  have K0 : Ex w w := Kp.refl _ _
  refine fn_enter (n := 90) Try.func20 rfl rfl (Nat.le_of_ble_eq_true rfl) ?_
  show CW _ _ _ _ _ _ [(0, rv), (1, .int .i64 dx), (2, .int .i64 dy)] _
  have hlen_ := set_len raw
  have hbx_ := set_box raw
  simp only [bX, bY, bW, bH] at hbx_
  obtain ⟨⟨_, _⟩, ⟨_, _⟩, ⟨_, _⟩, ⟨_, _⟩⟩ := hbx_
  refine cw_seq ?_
  refine cw_region ?_
  refine rw_ev (ev_assign rfl) rfl rfl rfl ?_
  refine rw_nil ?_
  refine nw_seq ?_
  refine cw_seq ?_
  refine cw_region ?_
  refine rw_op (op_fn (xs := []) ent_56 rfl (c_awake1 w )) rfl rfl rfl ?_
  rintro _ w1 ⟨rfl, k2⟩
  replace K0 := Ex.trans K0 k2
  replace hrv := hrv.ex k2
  have zw1 := k2.size
  refine rw_ev (ev_assign rfl) rfl rfl rfl ?_
  refine rw_nil ?_
  refine nw_seq ?_
  refine cw_seq ?_
  refine cw_region ?_
  refine rw_ev (ev_move rfl) rfl rfl rfl ?_
  refine rw_op (op_fn (xs := [.tmp 17]) ent_44 rfl (c_set w1 rv raw (Sl.below hrv) (by exact hrvr))) rfl rfl rfl ?_
  rintro u3 w4 ⟨_, rfl, k5, sl6⟩
  replace K0 := Ex.trans K0 k5
  replace hrv := hrv.ex k5
  have zw4 := k5.size
  refine rw_ev (ev_assign rfl) rfl rfl rfl ?_
  refine rw_nil ?_
  refine nw_seq ?_
  refine cw_seq ?_
  refine cw_region ?_
  refine rw_ev (ev_move rfl) rfl rfl rfl ?_
  refine rw_op (op_fn (xs := [.tmp 20]) ent_59 rfl (c_cbox w4 u3 (setC raw) (Sl.below sl6))) rfl rfl rfl ?_
  rintro _ w7 ⟨rfl, k8⟩
  replace K0 := Ex.trans K0 k8
  replace hrv := hrv.ex k8
  replace sl6 := sl6.ex k8
  have zw7 := k8.size
  refine rw_ev (ev_move rfl) rfl rfl rfl ?_
  refine rw_ev (ev_extract rfl rfl) rfl rfl rfl ?_
  refine rw_ev (ev_extract rfl rfl) rfl rfl rfl ?_
  refine rw_op (op_alloc zero_69) rfl rfl rfl ?_
  rintro _ w10 ⟨g9, rfl, hg11, k12, b13⟩
  replace K0 := Ex.trans K0 k12
  replace hrv := hrv.ex k12
  replace sl6 := sl6.ex k12
  have zw10 := k12.size
  have lg9 := b13.lt
  refine rw_none (op_store (off := 0) (v := .agg #[.int .i64 ((boxC (setC raw)).1.1), .int .i64 ((boxC (setC raw)).1.2.1), .int .i64 ((boxC (setC raw)).1.2.2.1), .int .i64 ((boxC (setC raw)).1.2.2.2)]) (cs' := #[.int .i64 ((boxC (setC raw)).1.1), .int .i64 ((boxC (setC raw)).1.2.1), .int .i64 ((boxC (setC raw)).1.2.2.1), .int .i64 ((boxC (setC raw)).1.2.2.2)]) b13 rfl rfl size_69 rfl (Nat.le_of_ble_eq_true rfl) (one_cons rfl (one_cons rfl (one_cons rfl (one_cons rfl one_nil)))) rfl) rfl rfl ?_
  rintro _ w14 ⟨k15, b16⟩
  replace K0 := Ex.kp_new K0 k15 (fun _ h => h ▸ Nat.le_trans (Nat.le_trans zw1 (Nat.le_trans zw4 zw7)) hg11)
  replace hrv := hrv.kp k15 (fun b h e => Nat.lt_irrefl _ (Nat.lt_of_lt_of_le (show g9 < _ from e ▸ (show b < _ from h)) (Nat.le_trans (Nat.le_trans zw1 (Nat.le_trans zw4 zw7)) hg11)))
  replace sl6 := sl6.kp k15 (fun b h e => Nat.lt_irrefl _ (Nat.lt_of_lt_of_le (show g9 < _ from e ▸ (show b < _ from h.2)) (Nat.le_trans zw7 hg11)))
  have zw14 := k15.size
  refine rw_ev (ev_assign rfl) rfl rfl rfl ?_
  refine rw_nil ?_
  refine nw_seq ?_
  refine cw_seq ?_
  refine cw_region ?_
  refine rw_ev (ev_move rfl) rfl rfl rfl ?_
  refine rw_op (op_fn (xs := [.tmp 24, .const (.int .i64 2199023255552)]) ent_60 rfl (c_pick60 w14 dx (2199023255552 : Int) (by omega) (by omega))) rfl rfl rfl ?_
  rintro _ w17 ⟨rfl, k18, pr19⟩
  replace K0 := Ex.trans K0 k18
  replace hrv := hrv.ex k18
  replace sl6 := sl6.ex k18
  replace b16 := b16.ex k18
  have zw17 := k18.size
  refine rw_ev (ev_sub rfl rfl (by omega)) rfl rfl rfl ?_
  refine rw_ev (ev_assign rfl) rfl rfl rfl ?_
  refine rw_nil ?_
  refine nw_seq ?_
  refine cw_seq ?_
  refine cw_region ?_
  refine rw_ev (ev_move rfl) rfl rfl rfl ?_
  refine rw_op (op_fn (xs := [.tmp 27, .const (.int .i64 2199023255552)]) ent_60 rfl (c_pick60 w17 dy (2199023255552 : Int) (by omega) (by omega))) rfl rfl rfl ?_
  rintro _ w20 ⟨rfl, k21, pr22⟩
  replace K0 := Ex.trans K0 k21
  replace hrv := hrv.ex k21
  replace sl6 := sl6.ex k21
  replace b16 := b16.ex k21
  have zw20 := k21.size
  refine rw_ev (ev_sub rfl rfl (by omega)) rfl rfl rfl ?_
  refine rw_ev (ev_assign rfl) rfl rfl rfl ?_
  refine rw_nil ?_
  refine nw_seq ?_
  refine cw_seq ?_
  refine cw_region ?_
  refine rw_ev (ev_move rfl) rfl rfl rfl ?_
  refine rw_ev (ev_move rfl) rfl rfl rfl ?_
  refine rw_ev (ev_move rfl) rfl rfl rfl ?_
  refine rw_op (op_fn (xs := [.tmp 31, .tmp 32, .tmp 33]) ent_64 rfl (c_cshift w20 u3 (setC raw) (Sl.below sl6) ((pickI dx (2199023255552 : Int)) - 1099511627776) ((pickI dy (2199023255552 : Int)) - 1099511627776) (by omega) (by omega))) rfl rfl rfl ?_
  rintro _ w24 ⟨u23, rfl, k25, sl26⟩
  replace K0 := Ex.trans K0 k25
  replace hrv := hrv.ex k25
  replace sl6 := sl6.ex k25
  replace b16 := b16.ex k25
  have zw24 := k25.size
  refine rw_ev (ev_move rfl) rfl rfl rfl ?_
  refine rw_ev (ev_extract (vs := #[u23, .int .i64 ((shiftC (setC raw) ((pickI dx (2199023255552 : Int)) - 1099511627776) ((pickI dy (2199023255552 : Int)) - 1099511627776)).2)]) rfl rfl) rfl rfl rfl ?_
  refine rw_ev (ev_extract (vs := #[u23, .int .i64 ((shiftC (setC raw) ((pickI dx (2199023255552 : Int)) - 1099511627776) ((pickI dy (2199023255552 : Int)) - 1099511627776)).2)]) rfl rfl) rfl rfl rfl ?_
  refine rw_ev (ev_assign rfl) rfl rfl rfl ?_
  refine rw_ev (ev_assign rfl) rfl rfl rfl ?_
  refine rw_nil ?_
  refine nw_seq ?_
  refine cw_seq ?_
  refine cw_region ?_
  refine rw_ev (v := .pointer (some ⟨g9, 0, none⟩)) (ev_field (o := 0) rfl foff_69_0) rfl rfl rfl ?_
  refine rw_ev (v := .int .i64 ((boxC (setC raw)).1.1)) (ev_lb1 (off := 0) (fun _ h => h ▸ b16) rfl one_3 rfl) rfl rfl rfl ?_
  refine rw_ev (ev_move rfl) rfl rfl rfl ?_
  refine rw_ev (ev_add rfl rfl (by omega)) rfl rfl rfl ?_
  refine rw_ev (ev_geq rfl rfl) rfl rfl rfl ?_
  refine rw_ev (ev_move rfl) rfl rfl rfl ?_
  by_cases h27 : (-1099511627776) ≤ (((boxC (setC raw)).1.1) + ((pickI dx (2199023255552 : Int)) - 1099511627776))
  ·
   refine rw_ev (v := .pointer (some ⟨g9, 1, none⟩)) (ev_field (o := 1) rfl foff_69_1) (gd_tt rfl (dec_t h27)) rfl rfl ?_
   refine rw_ev (v := .int .i64 ((boxC (setC raw)).1.2.1)) (ev_lb1 (off := 1) (fun _ h => h ▸ b16) rfl one_3 rfl) (gd_tt rfl (dec_t h27)) rfl rfl ?_
   refine rw_ev (ev_move rfl) (gd_tt rfl (dec_t h27)) rfl rfl ?_
   refine rw_ev (ev_add rfl rfl (by omega)) (gd_tt rfl (dec_t h27)) rfl rfl ?_
   refine rw_ev (ev_geq rfl rfl) (gd_tt rfl (dec_t h27)) rfl rfl ?_
   refine rw_ev (ev_pk_t (b := decide ((-1099511627776) ≤ (((boxC (setC raw)).1.1) + ((pickI dx (2199023255552 : Int)) - 1099511627776)))) rfl (dec_t h27) rfl) rfl rfl rfl ?_
   refine rw_ev (ev_move rfl) rfl rfl rfl ?_
   by_cases h28 : (-1099511627776) ≤ (((boxC (setC raw)).1.2.1) + ((pickI dy (2199023255552 : Int)) - 1099511627776))
   ·
    refine rw_ev (v := .pointer (some ⟨g9, 0, none⟩)) (ev_field (o := 0) rfl foff_69_0) (gd_tt rfl (dec_t h28)) rfl rfl ?_
    refine rw_ev (v := .int .i64 ((boxC (setC raw)).1.1)) (ev_lb1 (off := 0) (fun _ h => h ▸ b16) rfl one_3 rfl) (gd_tt rfl (dec_t h28)) rfl rfl ?_
    refine rw_ev (v := .pointer (some ⟨g9, 2, none⟩)) (ev_field (o := 2) rfl foff_69_2) (gd_tt rfl (dec_t h28)) rfl rfl ?_
    refine rw_ev (v := .int .i64 ((boxC (setC raw)).1.2.2.1)) (ev_lb1 (off := 2) (fun _ h => h ▸ b16) rfl one_3 rfl) (gd_tt rfl (dec_t h28)) rfl rfl ?_
    refine rw_ev (ev_add rfl rfl (by omega)) (gd_tt rfl (dec_t h28)) rfl rfl ?_
    refine rw_ev (ev_sub rfl rfl (by omega)) (gd_tt rfl (dec_t h28)) rfl rfl ?_
    refine rw_ev (ev_move rfl) (gd_tt rfl (dec_t h28)) rfl rfl ?_
    refine rw_ev (ev_add rfl rfl (by omega)) (gd_tt rfl (dec_t h28)) rfl rfl ?_
    refine rw_ev (ev_leq (p := ((((boxC (setC raw)).1.1) + ((boxC (setC raw)).1.2.2.1)) - 1) + ((pickI dx (2199023255552 : Int)) - 1099511627776)) (q := 1099511627776) rfl rfl) (gd_tt rfl (dec_t h28)) rfl rfl ?_
    refine rw_ev (ev_pk_t (b := decide ((-1099511627776) ≤ (((boxC (setC raw)).1.2.1) + ((pickI dy (2199023255552 : Int)) - 1099511627776)))) rfl (dec_t h28) rfl) rfl rfl rfl ?_
    refine rw_ev (ev_move rfl) rfl rfl rfl ?_
    by_cases h29 : (((((boxC (setC raw)).1.1) + ((boxC (setC raw)).1.2.2.1)) - 1) + ((pickI dx (2199023255552 : Int)) - 1099511627776)) ≤ 1099511627776
    ·
     refine rw_ev (v := .pointer (some ⟨g9, 1, none⟩)) (ev_field (o := 1) rfl foff_69_1) (gd_tt rfl (dec_t h29)) rfl rfl ?_
     refine rw_ev (v := .int .i64 ((boxC (setC raw)).1.2.1)) (ev_lb1 (off := 1) (fun _ h => h ▸ b16) rfl one_3 rfl) (gd_tt rfl (dec_t h29)) rfl rfl ?_
     refine rw_ev (v := .pointer (some ⟨g9, 3, none⟩)) (ev_field (o := 3) rfl foff_69_3) (gd_tt rfl (dec_t h29)) rfl rfl ?_
     refine rw_ev (v := .int .i64 ((boxC (setC raw)).1.2.2.2)) (ev_lb1 (off := 3) (fun _ h => h ▸ b16) rfl one_3 rfl) (gd_tt rfl (dec_t h29)) rfl rfl ?_
     refine rw_ev (ev_add rfl rfl (by omega)) (gd_tt rfl (dec_t h29)) rfl rfl ?_
     refine rw_ev (ev_sub rfl rfl (by omega)) (gd_tt rfl (dec_t h29)) rfl rfl ?_
     refine rw_ev (ev_move rfl) (gd_tt rfl (dec_t h29)) rfl rfl ?_
     refine rw_ev (ev_add rfl rfl (by omega)) (gd_tt rfl (dec_t h29)) rfl rfl ?_
     refine rw_ev (ev_leq (p := ((((boxC (setC raw)).1.2.1) + ((boxC (setC raw)).1.2.2.2)) - 1) + ((pickI dy (2199023255552 : Int)) - 1099511627776)) (q := 1099511627776) rfl rfl) (gd_tt rfl (dec_t h29)) rfl rfl ?_
     refine rw_ev (ev_pk_t (b := decide ((((((boxC (setC raw)).1.1) + ((boxC (setC raw)).1.2.2.1)) - 1) + ((pickI dx (2199023255552 : Int)) - 1099511627776)) ≤ 1099511627776)) rfl (dec_t h29) rfl) rfl rfl rfl ?_
     refine rw_ev (ev_assign rfl) rfl rfl rfl ?_
     refine rw_nil ?_
     refine nw_seq ?_
     refine cw_seq ?_
     refine cw_region ?_
     refine rw_ev (ev_move rfl) rfl rfl rfl ?_
     refine rw_ev (ev_move rfl) rfl rfl rfl ?_
     refine rw_ev (ev_move rfl) rfl rfl rfl ?_
     refine rw_ev (ev_eq rfl rfl) rfl rfl rfl ?_
     refine rw_ev (ev_move rfl) rfl rfl rfl ?_
     refine rw_ev (ev_not rfl rfl) rfl rfl rfl ?_
     refine rw_ev (ev_move rfl) rfl rfl rfl ?_
     rcases Bool.eq_false_or_eq_true ((boxC (setC raw)).2) with h30 | h30
     ·
      refine rw_ev (ev_move rfl) (gd_ff rfl (not_f h30)) rfl rfl ?_
      refine rw_ev (ev_pk_f rfl (not_f h30) rfl) rfl rfl rfl ?_
      refine rw_ev (ev_eqb (p := decide (((shiftC (setC raw) ((pickI dx (2199023255552 : Int)) - 1099511627776) ((pickI dy (2199023255552 : Int)) - 1099511627776)).2) = 0)) (q := decide ((((((boxC (setC raw)).1.2.1) + ((boxC (setC raw)).1.2.2.2)) - 1) + ((pickI dy (2199023255552 : Int)) - 1099511627776)) ≤ 1099511627776)) bool_4 rfl rfl) rfl rfl rfl ?_
      refine rw_ev (ev_pk_t rfl rfl rfl) rfl rfl rfl ?_
      refine rw_ev (ev_move rfl) rfl rfl rfl ?_
      by_cases h31 : (decide (((shiftC (setC raw) ((pickI dx (2199023255552 : Int)) - 1099511627776) ((pickI dy (2199023255552 : Int)) - 1099511627776)).2) = 0)) = (decide ((((((boxC (setC raw)).1.2.1) + ((boxC (setC raw)).1.2.2.2)) - 1) + ((pickI dy (2199023255552 : Int)) - 1099511627776)) ≤ 1099511627776))
      ·
       refine rw_ev (ev_move rfl) (gd_tt rfl (dec_t h31)) rfl rfl ?_
       refine rw_ev (ev_eq rfl rfl) (gd_tt rfl (dec_t h31)) rfl rfl ?_
       refine rw_ev (ev_move rfl) (gd_tt rfl (dec_t h31)) rfl rfl ?_
       by_cases h32 : ((shiftC (setC raw) ((pickI dx (2199023255552 : Int)) - 1099511627776) ((pickI dy (2199023255552 : Int)) - 1099511627776)).2) = 0
       ·
        refine rw_skip (gd_ft rfl (dec_t h32)) rfl rfl ?_
        refine rw_skip (gd_ft rfl (dec_t h32)) rfl rfl ?_
        refine rw_ev (ev_pk_t (b := decide (((shiftC (setC raw) ((pickI dx (2199023255552 : Int)) - 1099511627776) ((pickI dy (2199023255552 : Int)) - 1099511627776)).2) = 0)) rfl (dec_t h32) rfl) (gd_tt rfl (dec_t h31)) rfl rfl ?_
        refine rw_ev (ev_pk_t (b := decide ((decide (((shiftC (setC raw) ((pickI dx (2199023255552 : Int)) - 1099511627776) ((pickI dy (2199023255552 : Int)) - 1099511627776)).2) = 0)) = (decide ((((((boxC (setC raw)).1.2.1) + ((boxC (setC raw)).1.2.2.2)) - 1) + ((pickI dy (2199023255552 : Int)) - 1099511627776)) ≤ 1099511627776)))) rfl (dec_t h31) rfl) rfl rfl rfl ?_
        refine rw_ev (ev_assign rfl) rfl rfl rfl ?_
        refine rw_nil ?_
        refine nw_seq ?_
        refine cw_ret ?_
        refine ret_post (rs := [.tmp 6]) (vs := [.bool true]) rfl (.tmp rfl .nil) ?_
        refine ⟨?_, K0⟩
        · show (.bool true : Value) = _
          have hB_ := bounds_law raw (pickI dx 2199023255552 - 1099511627776) (pickI dy 2199023255552 - 1099511627776) (by have := pickI_bd dx 2199023255552 (by omega); omega) (by have := pickI_bd dy 2199023255552 (by omega); omega)
          simp only [bX, bY, bW, bH] at hB_
          obtain ⟨hB1_, hB2_⟩ := hB_
          refine congrArg Value.bool ?_
          first | rfl | (simp_all; done) | (simp_all; omega) | (exfalso; simp_all; done) | (exfalso; simp_all; omega)
       ·
        refine rw_ev (ev_move rfl) (gd_ff rfl (dec_f h32)) rfl rfl ?_
        refine rw_ev (ev_eq rfl rfl) (gd_ff rfl (dec_f h32)) rfl rfl ?_
        refine rw_ev (ev_pk_f (b := decide (((shiftC (setC raw) ((pickI dx (2199023255552 : Int)) - 1099511627776) ((pickI dy (2199023255552 : Int)) - 1099511627776)).2) = 0)) rfl (dec_f h32) rfl) (gd_tt rfl (dec_t h31)) rfl rfl ?_
        refine rw_ev (ev_pk_t (b := decide ((decide (((shiftC (setC raw) ((pickI dx (2199023255552 : Int)) - 1099511627776) ((pickI dy (2199023255552 : Int)) - 1099511627776)).2) = 0)) = (decide ((((((boxC (setC raw)).1.2.1) + ((boxC (setC raw)).1.2.2.2)) - 1) + ((pickI dy (2199023255552 : Int)) - 1099511627776)) ≤ 1099511627776)))) rfl (dec_t h31) rfl) rfl rfl rfl ?_
        refine rw_ev (ev_assign rfl) rfl rfl rfl ?_
        refine rw_nil ?_
        refine nw_seq ?_
        refine cw_ret ?_
        refine ret_post (rs := [.tmp 6]) (vs := [.bool (decide (((shiftC (setC raw) ((pickI dx (2199023255552 : Int)) - 1099511627776) ((pickI dy (2199023255552 : Int)) - 1099511627776)).2) = 2))]) rfl (.tmp rfl .nil) ?_
        refine ⟨?_, K0⟩
        · show (.bool (decide (((shiftC (setC raw) ((pickI dx (2199023255552 : Int)) - 1099511627776) ((pickI dy (2199023255552 : Int)) - 1099511627776)).2) = 2)) : Value) = _
          have hB_ := bounds_law raw (pickI dx 2199023255552 - 1099511627776) (pickI dy 2199023255552 - 1099511627776) (by have := pickI_bd dx 2199023255552 (by omega); omega) (by have := pickI_bd dy 2199023255552 (by omega); omega)
          simp only [bX, bY, bW, bH] at hB_
          obtain ⟨hB1_, hB2_⟩ := hB_
          refine congrArg Value.bool ?_
          first | rfl | (simp_all; done) | (simp_all; omega) | (exfalso; simp_all; done) | (exfalso; simp_all; omega)
      ·
       refine rw_skip (gd_tf rfl (dec_f h31)) rfl rfl ?_
       refine rw_skip (gd_tf rfl (dec_f h31)) rfl rfl ?_
       refine rw_skip (gd_tf rfl (dec_f h31)) rfl rfl ?_
       refine rw_skip rfl rfl rfl ?_
       refine rw_skip rfl rfl rfl ?_
       refine rw_skip (gd_tf rfl (dec_f h31)) rfl rfl ?_
       refine rw_ev (ev_pk_f (b := decide ((decide (((shiftC (setC raw) ((pickI dx (2199023255552 : Int)) - 1099511627776) ((pickI dy (2199023255552 : Int)) - 1099511627776)).2) = 0)) = (decide ((((((boxC (setC raw)).1.2.1) + ((boxC (setC raw)).1.2.2.2)) - 1) + ((pickI dy (2199023255552 : Int)) - 1099511627776)) ≤ 1099511627776)))) rfl (dec_f h31) rfl) rfl rfl rfl ?_
       refine rw_ev (ev_assign rfl) rfl rfl rfl ?_
       refine rw_nil ?_
       refine nw_seq ?_
       refine cw_ret ?_
       refine ret_post (rs := [.tmp 6]) (vs := [.bool false]) rfl (.tmp rfl .nil) ?_
       refine ⟨?_, K0⟩
       · show (.bool false : Value) = _
         have hB_ := bounds_law raw (pickI dx 2199023255552 - 1099511627776) (pickI dy 2199023255552 - 1099511627776) (by have := pickI_bd dx 2199023255552 (by omega); omega) (by have := pickI_bd dy 2199023255552 (by omega); omega)
         simp only [bX, bY, bW, bH] at hB_
         obtain ⟨hB1_, hB2_⟩ := hB_
         refine congrArg Value.bool ?_
         first | rfl | (simp_all; done) | (simp_all; omega) | (exfalso; simp_all; done) | (exfalso; simp_all; omega)
     ·
      refine rw_skip (gd_ft rfl (not_t h30)) rfl rfl ?_
      refine rw_ev (ev_pk_t rfl (not_t h30) rfl) rfl rfl rfl ?_
      refine rw_ev (ev_eqb (p := decide (((shiftC (setC raw) ((pickI dx (2199023255552 : Int)) - 1099511627776) ((pickI dy (2199023255552 : Int)) - 1099511627776)).2) = 0)) (q := true) bool_4 rfl rfl) rfl rfl rfl ?_
      refine rw_ev (ev_pk_t rfl rfl rfl) rfl rfl rfl ?_
      refine rw_ev (ev_move rfl) rfl rfl rfl ?_
      by_cases h33 : (decide (((shiftC (setC raw) ((pickI dx (2199023255552 : Int)) - 1099511627776) ((pickI dy (2199023255552 : Int)) - 1099511627776)).2) = 0)) = true
      ·
       refine rw_ev (ev_move rfl) (gd_tt rfl (dec_t h33)) rfl rfl ?_
       refine rw_ev (ev_eq rfl rfl) (gd_tt rfl (dec_t h33)) rfl rfl ?_
       refine rw_ev (ev_move rfl) (gd_tt rfl (dec_t h33)) rfl rfl ?_
       by_cases h34 : ((shiftC (setC raw) ((pickI dx (2199023255552 : Int)) - 1099511627776) ((pickI dy (2199023255552 : Int)) - 1099511627776)).2) = 0
       ·
        refine rw_skip (gd_ft rfl (dec_t h34)) rfl rfl ?_
        refine rw_skip (gd_ft rfl (dec_t h34)) rfl rfl ?_
        refine rw_ev (ev_pk_t (b := decide (((shiftC (setC raw) ((pickI dx (2199023255552 : Int)) - 1099511627776) ((pickI dy (2199023255552 : Int)) - 1099511627776)).2) = 0)) rfl (dec_t h34) rfl) (gd_tt rfl (dec_t h33)) rfl rfl ?_
        refine rw_ev (ev_pk_t (b := decide ((decide (((shiftC (setC raw) ((pickI dx (2199023255552 : Int)) - 1099511627776) ((pickI dy (2199023255552 : Int)) - 1099511627776)).2) = 0)) = true)) rfl (dec_t h33) rfl) rfl rfl rfl ?_
        refine rw_ev (ev_assign rfl) rfl rfl rfl ?_
        refine rw_nil ?_
        refine nw_seq ?_
        refine cw_ret ?_
        refine ret_post (rs := [.tmp 6]) (vs := [.bool true]) rfl (.tmp rfl .nil) ?_
        refine ⟨?_, K0⟩
        · show (.bool true : Value) = _
          have hB_ := bounds_law raw (pickI dx 2199023255552 - 1099511627776) (pickI dy 2199023255552 - 1099511627776) (by have := pickI_bd dx 2199023255552 (by omega); omega) (by have := pickI_bd dy 2199023255552 (by omega); omega)
          simp only [bX, bY, bW, bH] at hB_
          obtain ⟨hB1_, hB2_⟩ := hB_
          refine congrArg Value.bool ?_
          first | rfl | (simp_all; done) | (simp_all; omega) | (exfalso; simp_all; done) | (exfalso; simp_all; omega)
       ·
        refine rw_ev (ev_move rfl) (gd_ff rfl (dec_f h34)) rfl rfl ?_
        refine rw_ev (ev_eq rfl rfl) (gd_ff rfl (dec_f h34)) rfl rfl ?_
        refine rw_ev (ev_pk_f (b := decide (((shiftC (setC raw) ((pickI dx (2199023255552 : Int)) - 1099511627776) ((pickI dy (2199023255552 : Int)) - 1099511627776)).2) = 0)) rfl (dec_f h34) rfl) (gd_tt rfl (dec_t h33)) rfl rfl ?_
        refine rw_ev (ev_pk_t (b := decide ((decide (((shiftC (setC raw) ((pickI dx (2199023255552 : Int)) - 1099511627776) ((pickI dy (2199023255552 : Int)) - 1099511627776)).2) = 0)) = true)) rfl (dec_t h33) rfl) rfl rfl rfl ?_
        refine rw_ev (ev_assign rfl) rfl rfl rfl ?_
        refine rw_nil ?_
        refine nw_seq ?_
        refine cw_ret ?_
        refine ret_post (rs := [.tmp 6]) (vs := [.bool (decide (((shiftC (setC raw) ((pickI dx (2199023255552 : Int)) - 1099511627776) ((pickI dy (2199023255552 : Int)) - 1099511627776)).2) = 2))]) rfl (.tmp rfl .nil) ?_
        refine ⟨?_, K0⟩
        · show (.bool (decide (((shiftC (setC raw) ((pickI dx (2199023255552 : Int)) - 1099511627776) ((pickI dy (2199023255552 : Int)) - 1099511627776)).2) = 2)) : Value) = _
          have hB_ := bounds_law raw (pickI dx 2199023255552 - 1099511627776) (pickI dy 2199023255552 - 1099511627776) (by have := pickI_bd dx 2199023255552 (by omega); omega) (by have := pickI_bd dy 2199023255552 (by omega); omega)
          simp only [bX, bY, bW, bH] at hB_
          obtain ⟨hB1_, hB2_⟩ := hB_
          refine congrArg Value.bool ?_
          first | rfl | (simp_all; done) | (simp_all; omega) | (exfalso; simp_all; done) | (exfalso; simp_all; omega)
      ·
       refine rw_skip (gd_tf rfl (dec_f h33)) rfl rfl ?_
       refine rw_skip (gd_tf rfl (dec_f h33)) rfl rfl ?_
       refine rw_skip (gd_tf rfl (dec_f h33)) rfl rfl ?_
       refine rw_skip rfl rfl rfl ?_
       refine rw_skip rfl rfl rfl ?_
       refine rw_skip (gd_tf rfl (dec_f h33)) rfl rfl ?_
       refine rw_ev (ev_pk_f (b := decide ((decide (((shiftC (setC raw) ((pickI dx (2199023255552 : Int)) - 1099511627776) ((pickI dy (2199023255552 : Int)) - 1099511627776)).2) = 0)) = true)) rfl (dec_f h33) rfl) rfl rfl rfl ?_
       refine rw_ev (ev_assign rfl) rfl rfl rfl ?_
       refine rw_nil ?_
       refine nw_seq ?_
       refine cw_ret ?_
       refine ret_post (rs := [.tmp 6]) (vs := [.bool false]) rfl (.tmp rfl .nil) ?_
       refine ⟨?_, K0⟩
       · show (.bool false : Value) = _
         have hB_ := bounds_law raw (pickI dx 2199023255552 - 1099511627776) (pickI dy 2199023255552 - 1099511627776) (by have := pickI_bd dx 2199023255552 (by omega); omega) (by have := pickI_bd dy 2199023255552 (by omega); omega)
         simp only [bX, bY, bW, bH] at hB_
         obtain ⟨hB1_, hB2_⟩ := hB_
         refine congrArg Value.bool ?_
         first | rfl | (simp_all; done) | (simp_all; omega) | (exfalso; simp_all; done) | (exfalso; simp_all; omega)
    ·
     refine rw_skip (gd_tf rfl (dec_f h29)) rfl rfl ?_
     refine rw_skip (gd_tf rfl (dec_f h29)) rfl rfl ?_
     refine rw_skip (gd_tf rfl (dec_f h29)) rfl rfl ?_
     refine rw_skip (gd_tf rfl (dec_f h29)) rfl rfl ?_
     refine rw_skip (gd_tf rfl (dec_f h29)) rfl rfl ?_
     refine rw_skip (gd_tf rfl (dec_f h29)) rfl rfl ?_
     refine rw_skip (gd_tf rfl (dec_f h29)) rfl rfl ?_
     refine rw_skip (gd_tf rfl (dec_f h29)) rfl rfl ?_
     refine rw_skip (gd_tf rfl (dec_f h29)) rfl rfl ?_
     refine rw_ev (ev_pk_f (b := decide ((((((boxC (setC raw)).1.1) + ((boxC (setC raw)).1.2.2.1)) - 1) + ((pickI dx (2199023255552 : Int)) - 1099511627776)) ≤ 1099511627776)) rfl (dec_f h29) rfl) rfl rfl rfl ?_
     refine rw_ev (ev_assign rfl) rfl rfl rfl ?_
     refine rw_nil ?_
     refine nw_seq ?_
     refine cw_seq ?_
     refine cw_region ?_
     refine rw_ev (ev_move rfl) rfl rfl rfl ?_
     refine rw_ev (ev_move rfl) rfl rfl rfl ?_
     refine rw_ev (ev_move rfl) rfl rfl rfl ?_
     refine rw_ev (ev_eq rfl rfl) rfl rfl rfl ?_
     refine rw_ev (ev_move rfl) rfl rfl rfl ?_
     refine rw_ev (ev_not rfl rfl) rfl rfl rfl ?_
     refine rw_ev (ev_move rfl) rfl rfl rfl ?_
     rcases Bool.eq_false_or_eq_true ((boxC (setC raw)).2) with h35 | h35
     ·
      refine rw_ev (ev_move rfl) (gd_ff rfl (not_f h35)) rfl rfl ?_
      refine rw_ev (ev_pk_f rfl (not_f h35) rfl) rfl rfl rfl ?_
      refine rw_ev (ev_eqb (p := decide (((shiftC (setC raw) ((pickI dx (2199023255552 : Int)) - 1099511627776) ((pickI dy (2199023255552 : Int)) - 1099511627776)).2) = 0)) (q := false) bool_4 rfl rfl) rfl rfl rfl ?_
      refine rw_ev (ev_pk_t rfl rfl rfl) rfl rfl rfl ?_
      refine rw_ev (ev_move rfl) rfl rfl rfl ?_
      by_cases h36 : (decide (((shiftC (setC raw) ((pickI dx (2199023255552 : Int)) - 1099511627776) ((pickI dy (2199023255552 : Int)) - 1099511627776)).2) = 0)) = false
      ·
       refine rw_ev (ev_move rfl) (gd_tt rfl (dec_t h36)) rfl rfl ?_
       refine rw_ev (ev_eq rfl rfl) (gd_tt rfl (dec_t h36)) rfl rfl ?_
       refine rw_ev (ev_move rfl) (gd_tt rfl (dec_t h36)) rfl rfl ?_
       by_cases h37 : ((shiftC (setC raw) ((pickI dx (2199023255552 : Int)) - 1099511627776) ((pickI dy (2199023255552 : Int)) - 1099511627776)).2) = 0
       ·
        refine rw_skip (gd_ft rfl (dec_t h37)) rfl rfl ?_
        refine rw_skip (gd_ft rfl (dec_t h37)) rfl rfl ?_
        refine rw_ev (ev_pk_t (b := decide (((shiftC (setC raw) ((pickI dx (2199023255552 : Int)) - 1099511627776) ((pickI dy (2199023255552 : Int)) - 1099511627776)).2) = 0)) rfl (dec_t h37) rfl) (gd_tt rfl (dec_t h36)) rfl rfl ?_
        refine rw_ev (ev_pk_t (b := decide ((decide (((shiftC (setC raw) ((pickI dx (2199023255552 : Int)) - 1099511627776) ((pickI dy (2199023255552 : Int)) - 1099511627776)).2) = 0)) = false)) rfl (dec_t h36) rfl) rfl rfl rfl ?_
        refine rw_ev (ev_assign rfl) rfl rfl rfl ?_
        refine rw_nil ?_
        refine nw_seq ?_
        refine cw_ret ?_
        refine ret_post (rs := [.tmp 6]) (vs := [.bool true]) rfl (.tmp rfl .nil) ?_
        refine ⟨?_, K0⟩
        · show (.bool true : Value) = _
          have hB_ := bounds_law raw (pickI dx 2199023255552 - 1099511627776) (pickI dy 2199023255552 - 1099511627776) (by have := pickI_bd dx 2199023255552 (by omega); omega) (by have := pickI_bd dy 2199023255552 (by omega); omega)
          simp only [bX, bY, bW, bH] at hB_
          obtain ⟨hB1_, hB2_⟩ := hB_
          refine congrArg Value.bool ?_
          first | rfl | (simp_all; done) | (simp_all; omega) | (exfalso; simp_all; done) | (exfalso; simp_all; omega)
       ·
        refine rw_ev (ev_move rfl) (gd_ff rfl (dec_f h37)) rfl rfl ?_
        refine rw_ev (ev_eq rfl rfl) (gd_ff rfl (dec_f h37)) rfl rfl ?_
        refine rw_ev (ev_pk_f (b := decide (((shiftC (setC raw) ((pickI dx (2199023255552 : Int)) - 1099511627776) ((pickI dy (2199023255552 : Int)) - 1099511627776)).2) = 0)) rfl (dec_f h37) rfl) (gd_tt rfl (dec_t h36)) rfl rfl ?_
        refine rw_ev (ev_pk_t (b := decide ((decide (((shiftC (setC raw) ((pickI dx (2199023255552 : Int)) - 1099511627776) ((pickI dy (2199023255552 : Int)) - 1099511627776)).2) = 0)) = false)) rfl (dec_t h36) rfl) rfl rfl rfl ?_
        refine rw_ev (ev_assign rfl) rfl rfl rfl ?_
        refine rw_nil ?_
        refine nw_seq ?_
        refine cw_ret ?_
        refine ret_post (rs := [.tmp 6]) (vs := [.bool (decide (((shiftC (setC raw) ((pickI dx (2199023255552 : Int)) - 1099511627776) ((pickI dy (2199023255552 : Int)) - 1099511627776)).2) = 2))]) rfl (.tmp rfl .nil) ?_
        refine ⟨?_, K0⟩
        · show (.bool (decide (((shiftC (setC raw) ((pickI dx (2199023255552 : Int)) - 1099511627776) ((pickI dy (2199023255552 : Int)) - 1099511627776)).2) = 2)) : Value) = _
          have hB_ := bounds_law raw (pickI dx 2199023255552 - 1099511627776) (pickI dy 2199023255552 - 1099511627776) (by have := pickI_bd dx 2199023255552 (by omega); omega) (by have := pickI_bd dy 2199023255552 (by omega); omega)
          simp only [bX, bY, bW, bH] at hB_
          obtain ⟨hB1_, hB2_⟩ := hB_
          refine congrArg Value.bool ?_
          first | rfl | (simp_all; done) | (simp_all; omega) | (exfalso; simp_all; done) | (exfalso; simp_all; omega)
      ·
       refine rw_skip (gd_tf rfl (dec_f h36)) rfl rfl ?_
       refine rw_skip (gd_tf rfl (dec_f h36)) rfl rfl ?_
       refine rw_skip (gd_tf rfl (dec_f h36)) rfl rfl ?_
       refine rw_skip rfl rfl rfl ?_
       refine rw_skip rfl rfl rfl ?_
       refine rw_skip (gd_tf rfl (dec_f h36)) rfl rfl ?_
       refine rw_ev (ev_pk_f (b := decide ((decide (((shiftC (setC raw) ((pickI dx (2199023255552 : Int)) - 1099511627776) ((pickI dy (2199023255552 : Int)) - 1099511627776)).2) = 0)) = false)) rfl (dec_f h36) rfl) rfl rfl rfl ?_
       refine rw_ev (ev_assign rfl) rfl rfl rfl ?_
       refine rw_nil ?_
       refine nw_seq ?_
       refine cw_ret ?_
       refine ret_post (rs := [.tmp 6]) (vs := [.bool false]) rfl (.tmp rfl .nil) ?_
       refine ⟨?_, K0⟩
       · show (.bool false : Value) = _
         have hB_ := bounds_law raw (pickI dx 2199023255552 - 1099511627776) (pickI dy 2199023255552 - 1099511627776) (by have := pickI_bd dx 2199023255552 (by omega); omega) (by have := pickI_bd dy 2199023255552 (by omega); omega)
         simp only [bX, bY, bW, bH] at hB_
         obtain ⟨hB1_, hB2_⟩ := hB_
         refine congrArg Value.bool ?_
         first | rfl | (simp_all; done) | (simp_all; omega) | (exfalso; simp_all; done) | (exfalso; simp_all; omega)
     ·
      refine rw_skip (gd_ft rfl (not_t h35)) rfl rfl ?_
      refine rw_ev (ev_pk_t rfl (not_t h35) rfl) rfl rfl rfl ?_
      refine rw_ev (ev_eqb (p := decide (((shiftC (setC raw) ((pickI dx (2199023255552 : Int)) - 1099511627776) ((pickI dy (2199023255552 : Int)) - 1099511627776)).2) = 0)) (q := true) bool_4 rfl rfl) rfl rfl rfl ?_
      refine rw_ev (ev_pk_t rfl rfl rfl) rfl rfl rfl ?_
      refine rw_ev (ev_move rfl) rfl rfl rfl ?_
      by_cases h38 : (decide (((shiftC (setC raw) ((pickI dx (2199023255552 : Int)) - 1099511627776) ((pickI dy (2199023255552 : Int)) - 1099511627776)).2) = 0)) = true
      ·
       refine rw_ev (ev_move rfl) (gd_tt rfl (dec_t h38)) rfl rfl ?_
       refine rw_ev (ev_eq rfl rfl) (gd_tt rfl (dec_t h38)) rfl rfl ?_
       refine rw_ev (ev_move rfl) (gd_tt rfl (dec_t h38)) rfl rfl ?_
       by_cases h39 : ((shiftC (setC raw) ((pickI dx (2199023255552 : Int)) - 1099511627776) ((pickI dy (2199023255552 : Int)) - 1099511627776)).2) = 0
       ·
        refine rw_skip (gd_ft rfl (dec_t h39)) rfl rfl ?_
        refine rw_skip (gd_ft rfl (dec_t h39)) rfl rfl ?_
        refine rw_ev (ev_pk_t (b := decide (((shiftC (setC raw) ((pickI dx (2199023255552 : Int)) - 1099511627776) ((pickI dy (2199023255552 : Int)) - 1099511627776)).2) = 0)) rfl (dec_t h39) rfl) (gd_tt rfl (dec_t h38)) rfl rfl ?_
        refine rw_ev (ev_pk_t (b := decide ((decide (((shiftC (setC raw) ((pickI dx (2199023255552 : Int)) - 1099511627776) ((pickI dy (2199023255552 : Int)) - 1099511627776)).2) = 0)) = true)) rfl (dec_t h38) rfl) rfl rfl rfl ?_
        refine rw_ev (ev_assign rfl) rfl rfl rfl ?_
        refine rw_nil ?_
        refine nw_seq ?_
        refine cw_ret ?_
        refine ret_post (rs := [.tmp 6]) (vs := [.bool true]) rfl (.tmp rfl .nil) ?_
        refine ⟨?_, K0⟩
        · show (.bool true : Value) = _
          have hB_ := bounds_law raw (pickI dx 2199023255552 - 1099511627776) (pickI dy 2199023255552 - 1099511627776) (by have := pickI_bd dx 2199023255552 (by omega); omega) (by have := pickI_bd dy 2199023255552 (by omega); omega)
          simp only [bX, bY, bW, bH] at hB_
          obtain ⟨hB1_, hB2_⟩ := hB_
          refine congrArg Value.bool ?_
          first | rfl | (simp_all; done) | (simp_all; omega) | (exfalso; simp_all; done) | (exfalso; simp_all; omega)
       ·
        refine rw_ev (ev_move rfl) (gd_ff rfl (dec_f h39)) rfl rfl ?_
        refine rw_ev (ev_eq rfl rfl) (gd_ff rfl (dec_f h39)) rfl rfl ?_
        refine rw_ev (ev_pk_f (b := decide (((shiftC (setC raw) ((pickI dx (2199023255552 : Int)) - 1099511627776) ((pickI dy (2199023255552 : Int)) - 1099511627776)).2) = 0)) rfl (dec_f h39) rfl) (gd_tt rfl (dec_t h38)) rfl rfl ?_
        refine rw_ev (ev_pk_t (b := decide ((decide (((shiftC (setC raw) ((pickI dx (2199023255552 : Int)) - 1099511627776) ((pickI dy (2199023255552 : Int)) - 1099511627776)).2) = 0)) = true)) rfl (dec_t h38) rfl) rfl rfl rfl ?_
        refine rw_ev (ev_assign rfl) rfl rfl rfl ?_
        refine rw_nil ?_
        refine nw_seq ?_
        refine cw_ret ?_
        refine ret_post (rs := [.tmp 6]) (vs := [.bool (decide (((shiftC (setC raw) ((pickI dx (2199023255552 : Int)) - 1099511627776) ((pickI dy (2199023255552 : Int)) - 1099511627776)).2) = 2))]) rfl (.tmp rfl .nil) ?_
        refine ⟨?_, K0⟩
        · show (.bool (decide (((shiftC (setC raw) ((pickI dx (2199023255552 : Int)) - 1099511627776) ((pickI dy (2199023255552 : Int)) - 1099511627776)).2) = 2)) : Value) = _
          have hB_ := bounds_law raw (pickI dx 2199023255552 - 1099511627776) (pickI dy 2199023255552 - 1099511627776) (by have := pickI_bd dx 2199023255552 (by omega); omega) (by have := pickI_bd dy 2199023255552 (by omega); omega)
          simp only [bX, bY, bW, bH] at hB_
          obtain ⟨hB1_, hB2_⟩ := hB_
          refine congrArg Value.bool ?_
          first | rfl | (simp_all; done) | (simp_all; omega) | (exfalso; simp_all; done) | (exfalso; simp_all; omega)
      ·
       refine rw_skip (gd_tf rfl (dec_f h38)) rfl rfl ?_
       refine rw_skip (gd_tf rfl (dec_f h38)) rfl rfl ?_
       refine rw_skip (gd_tf rfl (dec_f h38)) rfl rfl ?_
       refine rw_skip rfl rfl rfl ?_
       refine rw_skip rfl rfl rfl ?_
       refine rw_skip (gd_tf rfl (dec_f h38)) rfl rfl ?_
       refine rw_ev (ev_pk_f (b := decide ((decide (((shiftC (setC raw) ((pickI dx (2199023255552 : Int)) - 1099511627776) ((pickI dy (2199023255552 : Int)) - 1099511627776)).2) = 0)) = true)) rfl (dec_f h38) rfl) rfl rfl rfl ?_
       refine rw_ev (ev_assign rfl) rfl rfl rfl ?_
       refine rw_nil ?_
       refine nw_seq ?_
       refine cw_ret ?_
       refine ret_post (rs := [.tmp 6]) (vs := [.bool false]) rfl (.tmp rfl .nil) ?_
       refine ⟨?_, K0⟩
       · show (.bool false : Value) = _
         have hB_ := bounds_law raw (pickI dx 2199023255552 - 1099511627776) (pickI dy 2199023255552 - 1099511627776) (by have := pickI_bd dx 2199023255552 (by omega); omega) (by have := pickI_bd dy 2199023255552 (by omega); omega)
         simp only [bX, bY, bW, bH] at hB_
         obtain ⟨hB1_, hB2_⟩ := hB_
         refine congrArg Value.bool ?_
         first | rfl | (simp_all; done) | (simp_all; omega) | (exfalso; simp_all; done) | (exfalso; simp_all; omega)
   ·
    refine rw_skip (gd_tf rfl (dec_f h28)) rfl rfl ?_
    refine rw_skip (gd_tf rfl (dec_f h28)) rfl rfl ?_
    refine rw_skip (gd_tf rfl (dec_f h28)) rfl rfl ?_
    refine rw_skip (gd_tf rfl (dec_f h28)) rfl rfl ?_
    refine rw_skip (gd_tf rfl (dec_f h28)) rfl rfl ?_
    refine rw_skip (gd_tf rfl (dec_f h28)) rfl rfl ?_
    refine rw_skip (gd_tf rfl (dec_f h28)) rfl rfl ?_
    refine rw_skip (gd_tf rfl (dec_f h28)) rfl rfl ?_
    refine rw_skip (gd_tf rfl (dec_f h28)) rfl rfl ?_
    refine rw_ev (ev_pk_f (b := decide ((-1099511627776) ≤ (((boxC (setC raw)).1.2.1) + ((pickI dy (2199023255552 : Int)) - 1099511627776)))) rfl (dec_f h28) rfl) rfl rfl rfl ?_
    refine rw_ev (ev_move rfl) rfl rfl rfl ?_
    refine rw_skip rfl rfl rfl ?_
    refine rw_skip rfl rfl rfl ?_
    refine rw_skip rfl rfl rfl ?_
    refine rw_skip rfl rfl rfl ?_
    refine rw_skip rfl rfl rfl ?_
    refine rw_skip rfl rfl rfl ?_
    refine rw_skip rfl rfl rfl ?_
    refine rw_skip rfl rfl rfl ?_
    refine rw_skip rfl rfl rfl ?_
    refine rw_ev (ev_pk_f rfl rfl rfl) rfl rfl rfl ?_
    refine rw_ev (ev_assign rfl) rfl rfl rfl ?_
    refine rw_nil ?_
    refine nw_seq ?_
    refine cw_seq ?_
    refine cw_region ?_
    refine rw_ev (ev_move rfl) rfl rfl rfl ?_
    refine rw_ev (ev_move rfl) rfl rfl rfl ?_
    refine rw_ev (ev_move rfl) rfl rfl rfl ?_
    refine rw_ev (ev_eq rfl rfl) rfl rfl rfl ?_
    refine rw_ev (ev_move rfl) rfl rfl rfl ?_
    refine rw_ev (ev_not rfl rfl) rfl rfl rfl ?_
    refine rw_ev (ev_move rfl) rfl rfl rfl ?_
    rcases Bool.eq_false_or_eq_true ((boxC (setC raw)).2) with h40 | h40
    ·
     refine rw_ev (ev_move rfl) (gd_ff rfl (not_f h40)) rfl rfl ?_
     refine rw_ev (ev_pk_f rfl (not_f h40) rfl) rfl rfl rfl ?_
     refine rw_ev (ev_eqb (p := decide (((shiftC (setC raw) ((pickI dx (2199023255552 : Int)) - 1099511627776) ((pickI dy (2199023255552 : Int)) - 1099511627776)).2) = 0)) (q := false) bool_4 rfl rfl) rfl rfl rfl ?_
     refine rw_ev (ev_pk_t rfl rfl rfl) rfl rfl rfl ?_
     refine rw_ev (ev_move rfl) rfl rfl rfl ?_
     by_cases h41 : (decide (((shiftC (setC raw) ((pickI dx (2199023255552 : Int)) - 1099511627776) ((pickI dy (2199023255552 : Int)) - 1099511627776)).2) = 0)) = false
     ·
      refine rw_ev (ev_move rfl) (gd_tt rfl (dec_t h41)) rfl rfl ?_
      refine rw_ev (ev_eq rfl rfl) (gd_tt rfl (dec_t h41)) rfl rfl ?_
      refine rw_ev (ev_move rfl) (gd_tt rfl (dec_t h41)) rfl rfl ?_
      by_cases h42 : ((shiftC (setC raw) ((pickI dx (2199023255552 : Int)) - 1099511627776) ((pickI dy (2199023255552 : Int)) - 1099511627776)).2) = 0
      ·
       refine rw_skip (gd_ft rfl (dec_t h42)) rfl rfl ?_
       refine rw_skip (gd_ft rfl (dec_t h42)) rfl rfl ?_
       refine rw_ev (ev_pk_t (b := decide (((shiftC (setC raw) ((pickI dx (2199023255552 : Int)) - 1099511627776) ((pickI dy (2199023255552 : Int)) - 1099511627776)).2) = 0)) rfl (dec_t h42) rfl) (gd_tt rfl (dec_t h41)) rfl rfl ?_
       refine rw_ev (ev_pk_t (b := decide ((decide (((shiftC (setC raw) ((pickI dx (2199023255552 : Int)) - 1099511627776) ((pickI dy (2199023255552 : Int)) - 1099511627776)).2) = 0)) = false)) rfl (dec_t h41) rfl) rfl rfl rfl ?_
       refine rw_ev (ev_assign rfl) rfl rfl rfl ?_
       refine rw_nil ?_
       refine nw_seq ?_
       refine cw_ret ?_
       refine ret_post (rs := [.tmp 6]) (vs := [.bool true]) rfl (.tmp rfl .nil) ?_
       refine ⟨?_, K0⟩
       · show (.bool true : Value) = _
         have hB_ := bounds_law raw (pickI dx 2199023255552 - 1099511627776) (pickI dy 2199023255552 - 1099511627776) (by have := pickI_bd dx 2199023255552 (by omega); omega) (by have := pickI_bd dy 2199023255552 (by omega); omega)
         simp only [bX, bY, bW, bH] at hB_
         obtain ⟨hB1_, hB2_⟩ := hB_
         refine congrArg Value.bool ?_
         first | rfl | (simp_all; done) | (simp_all; omega) | (exfalso; simp_all; done) | (exfalso; simp_all; omega)
      ·
       refine rw_ev (ev_move rfl) (gd_ff rfl (dec_f h42)) rfl rfl ?_
       refine rw_ev (ev_eq rfl rfl) (gd_ff rfl (dec_f h42)) rfl rfl ?_
       refine rw_ev (ev_pk_f (b := decide (((shiftC (setC raw) ((pickI dx (2199023255552 : Int)) - 1099511627776) ((pickI dy (2199023255552 : Int)) - 1099511627776)).2) = 0)) rfl (dec_f h42) rfl) (gd_tt rfl (dec_t h41)) rfl rfl ?_
       refine rw_ev (ev_pk_t (b := decide ((decide (((shiftC (setC raw) ((pickI dx (2199023255552 : Int)) - 1099511627776) ((pickI dy (2199023255552 : Int)) - 1099511627776)).2) = 0)) = false)) rfl (dec_t h41) rfl) rfl rfl rfl ?_
       refine rw_ev (ev_assign rfl) rfl rfl rfl ?_
       refine rw_nil ?_
       refine nw_seq ?_
       refine cw_ret ?_
       refine ret_post (rs := [.tmp 6]) (vs := [.bool (decide (((shiftC (setC raw) ((pickI dx (2199023255552 : Int)) - 1099511627776) ((pickI dy (2199023255552 : Int)) - 1099511627776)).2) = 2))]) rfl (.tmp rfl .nil) ?_
       refine ⟨?_, K0⟩
       · show (.bool (decide (((shiftC (setC raw) ((pickI dx (2199023255552 : Int)) - 1099511627776) ((pickI dy (2199023255552 : Int)) - 1099511627776)).2) = 2)) : Value) = _
         have hB_ := bounds_law raw (pickI dx 2199023255552 - 1099511627776) (pickI dy 2199023255552 - 1099511627776) (by have := pickI_bd dx 2199023255552 (by omega); omega) (by have := pickI_bd dy 2199023255552 (by omega); omega)
         simp only [bX, bY, bW, bH] at hB_
         obtain ⟨hB1_, hB2_⟩ := hB_
         refine congrArg Value.bool ?_
         first | rfl | (simp_all; done) | (simp_all; omega) | (exfalso; simp_all; done) | (exfalso; simp_all; omega)
     ·
      refine rw_skip (gd_tf rfl (dec_f h41)) rfl rfl ?_
      refine rw_skip (gd_tf rfl (dec_f h41)) rfl rfl ?_
      refine rw_skip (gd_tf rfl (dec_f h41)) rfl rfl ?_
      refine rw_skip rfl rfl rfl ?_
      refine rw_skip rfl rfl rfl ?_
      refine rw_skip (gd_tf rfl (dec_f h41)) rfl rfl ?_
      refine rw_ev (ev_pk_f (b := decide ((decide (((shiftC (setC raw) ((pickI dx (2199023255552 : Int)) - 1099511627776) ((pickI dy (2199023255552 : Int)) - 1099511627776)).2) = 0)) = false)) rfl (dec_f h41) rfl) rfl rfl rfl ?_
      refine rw_ev (ev_assign rfl) rfl rfl rfl ?_
      refine rw_nil ?_
      refine nw_seq ?_
      refine cw_ret ?_
      refine ret_post (rs := [.tmp 6]) (vs := [.bool false]) rfl (.tmp rfl .nil) ?_
      refine ⟨?_, K0⟩
      · show (.bool false : Value) = _
        have hB_ := bounds_law raw (pickI dx 2199023255552 - 1099511627776) (pickI dy 2199023255552 - 1099511627776) (by have := pickI_bd dx 2199023255552 (by omega); omega) (by have := pickI_bd dy 2199023255552 (by omega); omega)
        simp only [bX, bY, bW, bH] at hB_
        obtain ⟨hB1_, hB2_⟩ := hB_
        refine congrArg Value.bool ?_
        first | rfl | (simp_all; done) | (simp_all; omega) | (exfalso; simp_all; done) | (exfalso; simp_all; omega)
    ·
     refine rw_skip (gd_ft rfl (not_t h40)) rfl rfl ?_
     refine rw_ev (ev_pk_t rfl (not_t h40) rfl) rfl rfl rfl ?_
     refine rw_ev (ev_eqb (p := decide (((shiftC (setC raw) ((pickI dx (2199023255552 : Int)) - 1099511627776) ((pickI dy (2199023255552 : Int)) - 1099511627776)).2) = 0)) (q := true) bool_4 rfl rfl) rfl rfl rfl ?_
     refine rw_ev (ev_pk_t rfl rfl rfl) rfl rfl rfl ?_
     refine rw_ev (ev_move rfl) rfl rfl rfl ?_
     by_cases h43 : (decide (((shiftC (setC raw) ((pickI dx (2199023255552 : Int)) - 1099511627776) ((pickI dy (2199023255552 : Int)) - 1099511627776)).2) = 0)) = true
     ·
      refine rw_ev (ev_move rfl) (gd_tt rfl (dec_t h43)) rfl rfl ?_
      refine rw_ev (ev_eq rfl rfl) (gd_tt rfl (dec_t h43)) rfl rfl ?_
      refine rw_ev (ev_move rfl) (gd_tt rfl (dec_t h43)) rfl rfl ?_
      by_cases h44 : ((shiftC (setC raw) ((pickI dx (2199023255552 : Int)) - 1099511627776) ((pickI dy (2199023255552 : Int)) - 1099511627776)).2) = 0
      ·
       refine rw_skip (gd_ft rfl (dec_t h44)) rfl rfl ?_
       refine rw_skip (gd_ft rfl (dec_t h44)) rfl rfl ?_
       refine rw_ev (ev_pk_t (b := decide (((shiftC (setC raw) ((pickI dx (2199023255552 : Int)) - 1099511627776) ((pickI dy (2199023255552 : Int)) - 1099511627776)).2) = 0)) rfl (dec_t h44) rfl) (gd_tt rfl (dec_t h43)) rfl rfl ?_
       refine rw_ev (ev_pk_t (b := decide ((decide (((shiftC (setC raw) ((pickI dx (2199023255552 : Int)) - 1099511627776) ((pickI dy (2199023255552 : Int)) - 1099511627776)).2) = 0)) = true)) rfl (dec_t h43) rfl) rfl rfl rfl ?_
       refine rw_ev (ev_assign rfl) rfl rfl rfl ?_
       refine rw_nil ?_
       refine nw_seq ?_
       refine cw_ret ?_
       refine ret_post (rs := [.tmp 6]) (vs := [.bool true]) rfl (.tmp rfl .nil) ?_
       refine ⟨?_, K0⟩
       · show (.bool true : Value) = _
         have hB_ := bounds_law raw (pickI dx 2199023255552 - 1099511627776) (pickI dy 2199023255552 - 1099511627776) (by have := pickI_bd dx 2199023255552 (by omega); omega) (by have := pickI_bd dy 2199023255552 (by omega); omega)
         simp only [bX, bY, bW, bH] at hB_
         obtain ⟨hB1_, hB2_⟩ := hB_
         refine congrArg Value.bool ?_
         first | rfl | (simp_all; done) | (simp_all; omega) | (exfalso; simp_all; done) | (exfalso; simp_all; omega)
      ·
       refine rw_ev (ev_move rfl) (gd_ff rfl (dec_f h44)) rfl rfl ?_
       refine rw_ev (ev_eq rfl rfl) (gd_ff rfl (dec_f h44)) rfl rfl ?_
       refine rw_ev (ev_pk_f (b := decide (((shiftC (setC raw) ((pickI dx (2199023255552 : Int)) - 1099511627776) ((pickI dy (2199023255552 : Int)) - 1099511627776)).2) = 0)) rfl (dec_f h44) rfl) (gd_tt rfl (dec_t h43)) rfl rfl ?_
       refine rw_ev (ev_pk_t (b := decide ((decide (((shiftC (setC raw) ((pickI dx (2199023255552 : Int)) - 1099511627776) ((pickI dy (2199023255552 : Int)) - 1099511627776)).2) = 0)) = true)) rfl (dec_t h43) rfl) rfl rfl rfl ?_
       refine rw_ev (ev_assign rfl) rfl rfl rfl ?_
       refine rw_nil ?_
       refine nw_seq ?_
       refine cw_ret ?_
       refine ret_post (rs := [.tmp 6]) (vs := [.bool (decide (((shiftC (setC raw) ((pickI dx (2199023255552 : Int)) - 1099511627776) ((pickI dy (2199023255552 : Int)) - 1099511627776)).2) = 2))]) rfl (.tmp rfl .nil) ?_
       refine ⟨?_, K0⟩
       · show (.bool (decide (((shiftC (setC raw) ((pickI dx (2199023255552 : Int)) - 1099511627776) ((pickI dy (2199023255552 : Int)) - 1099511627776)).2) = 2)) : Value) = _
         have hB_ := bounds_law raw (pickI dx 2199023255552 - 1099511627776) (pickI dy 2199023255552 - 1099511627776) (by have := pickI_bd dx 2199023255552 (by omega); omega) (by have := pickI_bd dy 2199023255552 (by omega); omega)
         simp only [bX, bY, bW, bH] at hB_
         obtain ⟨hB1_, hB2_⟩ := hB_
         refine congrArg Value.bool ?_
         first | rfl | (simp_all; done) | (simp_all; omega) | (exfalso; simp_all; done) | (exfalso; simp_all; omega)
     ·
      refine rw_skip (gd_tf rfl (dec_f h43)) rfl rfl ?_
      refine rw_skip (gd_tf rfl (dec_f h43)) rfl rfl ?_
      refine rw_skip (gd_tf rfl (dec_f h43)) rfl rfl ?_
      refine rw_skip rfl rfl rfl ?_
      refine rw_skip rfl rfl rfl ?_
      refine rw_skip (gd_tf rfl (dec_f h43)) rfl rfl ?_
      refine rw_ev (ev_pk_f (b := decide ((decide (((shiftC (setC raw) ((pickI dx (2199023255552 : Int)) - 1099511627776) ((pickI dy (2199023255552 : Int)) - 1099511627776)).2) = 0)) = true)) rfl (dec_f h43) rfl) rfl rfl rfl ?_
      refine rw_ev (ev_assign rfl) rfl rfl rfl ?_
      refine rw_nil ?_
      refine nw_seq ?_
      refine cw_ret ?_
      refine ret_post (rs := [.tmp 6]) (vs := [.bool false]) rfl (.tmp rfl .nil) ?_
      refine ⟨?_, K0⟩
      · show (.bool false : Value) = _
        have hB_ := bounds_law raw (pickI dx 2199023255552 - 1099511627776) (pickI dy 2199023255552 - 1099511627776) (by have := pickI_bd dx 2199023255552 (by omega); omega) (by have := pickI_bd dy 2199023255552 (by omega); omega)
        simp only [bX, bY, bW, bH] at hB_
        obtain ⟨hB1_, hB2_⟩ := hB_
        refine congrArg Value.bool ?_
        first | rfl | (simp_all; done) | (simp_all; omega) | (exfalso; simp_all; done) | (exfalso; simp_all; omega)
  ·
   refine rw_skip (gd_tf rfl (dec_f h27)) rfl rfl ?_
   refine rw_skip (gd_tf rfl (dec_f h27)) rfl rfl ?_
   refine rw_skip (gd_tf rfl (dec_f h27)) rfl rfl ?_
   refine rw_skip (gd_tf rfl (dec_f h27)) rfl rfl ?_
   refine rw_skip (gd_tf rfl (dec_f h27)) rfl rfl ?_
   refine rw_ev (ev_pk_f (b := decide ((-1099511627776) ≤ (((boxC (setC raw)).1.1) + ((pickI dx (2199023255552 : Int)) - 1099511627776)))) rfl (dec_f h27) rfl) rfl rfl rfl ?_
   refine rw_ev (ev_move rfl) rfl rfl rfl ?_
   refine rw_skip rfl rfl rfl ?_
   refine rw_skip rfl rfl rfl ?_
   refine rw_skip rfl rfl rfl ?_
   refine rw_skip rfl rfl rfl ?_
   refine rw_skip rfl rfl rfl ?_
   refine rw_skip rfl rfl rfl ?_
   refine rw_skip rfl rfl rfl ?_
   refine rw_skip rfl rfl rfl ?_
   refine rw_skip rfl rfl rfl ?_
   refine rw_ev (ev_pk_f rfl rfl rfl) rfl rfl rfl ?_
   refine rw_ev (ev_move rfl) rfl rfl rfl ?_
   refine rw_skip rfl rfl rfl ?_
   refine rw_skip rfl rfl rfl ?_
   refine rw_skip rfl rfl rfl ?_
   refine rw_skip rfl rfl rfl ?_
   refine rw_skip rfl rfl rfl ?_
   refine rw_skip rfl rfl rfl ?_
   refine rw_skip rfl rfl rfl ?_
   refine rw_skip rfl rfl rfl ?_
   refine rw_skip rfl rfl rfl ?_
   refine rw_ev (ev_pk_f rfl rfl rfl) rfl rfl rfl ?_
   refine rw_ev (ev_assign rfl) rfl rfl rfl ?_
   refine rw_nil ?_
   refine nw_seq ?_
   refine cw_seq ?_
   refine cw_region ?_
   refine rw_ev (ev_move rfl) rfl rfl rfl ?_
   refine rw_ev (ev_move rfl) rfl rfl rfl ?_
   refine rw_ev (ev_move rfl) rfl rfl rfl ?_
   refine rw_ev (ev_eq rfl rfl) rfl rfl rfl ?_
   refine rw_ev (ev_move rfl) rfl rfl rfl ?_
   refine rw_ev (ev_not rfl rfl) rfl rfl rfl ?_
   refine rw_ev (ev_move rfl) rfl rfl rfl ?_
   rcases Bool.eq_false_or_eq_true ((boxC (setC raw)).2) with h45 | h45
   ·
    refine rw_ev (ev_move rfl) (gd_ff rfl (not_f h45)) rfl rfl ?_
    refine rw_ev (ev_pk_f rfl (not_f h45) rfl) rfl rfl rfl ?_
    refine rw_ev (ev_eqb (p := decide (((shiftC (setC raw) ((pickI dx (2199023255552 : Int)) - 1099511627776) ((pickI dy (2199023255552 : Int)) - 1099511627776)).2) = 0)) (q := false) bool_4 rfl rfl) rfl rfl rfl ?_
    refine rw_ev (ev_pk_t rfl rfl rfl) rfl rfl rfl ?_
    refine rw_ev (ev_move rfl) rfl rfl rfl ?_
    by_cases h46 : (decide (((shiftC (setC raw) ((pickI dx (2199023255552 : Int)) - 1099511627776) ((pickI dy (2199023255552 : Int)) - 1099511627776)).2) = 0)) = false
    ·
     refine rw_ev (ev_move rfl) (gd_tt rfl (dec_t h46)) rfl rfl ?_
     refine rw_ev (ev_eq rfl rfl) (gd_tt rfl (dec_t h46)) rfl rfl ?_
     refine rw_ev (ev_move rfl) (gd_tt rfl (dec_t h46)) rfl rfl ?_
     by_cases h47 : ((shiftC (setC raw) ((pickI dx (2199023255552 : Int)) - 1099511627776) ((pickI dy (2199023255552 : Int)) - 1099511627776)).2) = 0
     ·
      refine rw_skip (gd_ft rfl (dec_t h47)) rfl rfl ?_
      refine rw_skip (gd_ft rfl (dec_t h47)) rfl rfl ?_
      refine rw_ev (ev_pk_t (b := decide (((shiftC (setC raw) ((pickI dx (2199023255552 : Int)) - 1099511627776) ((pickI dy (2199023255552 : Int)) - 1099511627776)).2) = 0)) rfl (dec_t h47) rfl) (gd_tt rfl (dec_t h46)) rfl rfl ?_
      refine rw_ev (ev_pk_t (b := decide ((decide (((shiftC (setC raw) ((pickI dx (2199023255552 : Int)) - 1099511627776) ((pickI dy (2199023255552 : Int)) - 1099511627776)).2) = 0)) = false)) rfl (dec_t h46) rfl) rfl rfl rfl ?_
      refine rw_ev (ev_assign rfl) rfl rfl rfl ?_
      refine rw_nil ?_
      refine nw_seq ?_
      refine cw_ret ?_
      refine ret_post (rs := [.tmp 6]) (vs := [.bool true]) rfl (.tmp rfl .nil) ?_
      refine ⟨?_, K0⟩
      · show (.bool true : Value) = _
        have hB_ := bounds_law raw (pickI dx 2199023255552 - 1099511627776) (pickI dy 2199023255552 - 1099511627776) (by have := pickI_bd dx 2199023255552 (by omega); omega) (by have := pickI_bd dy 2199023255552 (by omega); omega)
        simp only [bX, bY, bW, bH] at hB_
        obtain ⟨hB1_, hB2_⟩ := hB_
        refine congrArg Value.bool ?_
        first | rfl | (simp_all; done) | (simp_all; omega) | (exfalso; simp_all; done) | (exfalso; simp_all; omega)
     ·
      refine rw_ev (ev_move rfl) (gd_ff rfl (dec_f h47)) rfl rfl ?_
      refine rw_ev (ev_eq rfl rfl) (gd_ff rfl (dec_f h47)) rfl rfl ?_
      refine rw_ev (ev_pk_f (b := decide (((shiftC (setC raw) ((pickI dx (2199023255552 : Int)) - 1099511627776) ((pickI dy (2199023255552 : Int)) - 1099511627776)).2) = 0)) rfl (dec_f h47) rfl) (gd_tt rfl (dec_t h46)) rfl rfl ?_
      refine rw_ev (ev_pk_t (b := decide ((decide (((shiftC (setC raw) ((pickI dx (2199023255552 : Int)) - 1099511627776) ((pickI dy (2199023255552 : Int)) - 1099511627776)).2) = 0)) = false)) rfl (dec_t h46) rfl) rfl rfl rfl ?_
      refine rw_ev (ev_assign rfl) rfl rfl rfl ?_
      refine rw_nil ?_
      refine nw_seq ?_
      refine cw_ret ?_
      refine ret_post (rs := [.tmp 6]) (vs := [.bool (decide (((shiftC (setC raw) ((pickI dx (2199023255552 : Int)) - 1099511627776) ((pickI dy (2199023255552 : Int)) - 1099511627776)).2) = 2))]) rfl (.tmp rfl .nil) ?_
      refine ⟨?_, K0⟩
      · show (.bool (decide (((shiftC (setC raw) ((pickI dx (2199023255552 : Int)) - 1099511627776) ((pickI dy (2199023255552 : Int)) - 1099511627776)).2) = 2)) : Value) = _
        have hB_ := bounds_law raw (pickI dx 2199023255552 - 1099511627776) (pickI dy 2199023255552 - 1099511627776) (by have := pickI_bd dx 2199023255552 (by omega); omega) (by have := pickI_bd dy 2199023255552 (by omega); omega)
        simp only [bX, bY, bW, bH] at hB_
        obtain ⟨hB1_, hB2_⟩ := hB_
        refine congrArg Value.bool ?_
        first | rfl | (simp_all; done) | (simp_all; omega) | (exfalso; simp_all; done) | (exfalso; simp_all; omega)
    ·
     refine rw_skip (gd_tf rfl (dec_f h46)) rfl rfl ?_
     refine rw_skip (gd_tf rfl (dec_f h46)) rfl rfl ?_
     refine rw_skip (gd_tf rfl (dec_f h46)) rfl rfl ?_
     refine rw_skip rfl rfl rfl ?_
     refine rw_skip rfl rfl rfl ?_
     refine rw_skip (gd_tf rfl (dec_f h46)) rfl rfl ?_
     refine rw_ev (ev_pk_f (b := decide ((decide (((shiftC (setC raw) ((pickI dx (2199023255552 : Int)) - 1099511627776) ((pickI dy (2199023255552 : Int)) - 1099511627776)).2) = 0)) = false)) rfl (dec_f h46) rfl) rfl rfl rfl ?_
     refine rw_ev (ev_assign rfl) rfl rfl rfl ?_
     refine rw_nil ?_
     refine nw_seq ?_
     refine cw_ret ?_
     refine ret_post (rs := [.tmp 6]) (vs := [.bool false]) rfl (.tmp rfl .nil) ?_
     refine ⟨?_, K0⟩
     · show (.bool false : Value) = _
       have hB_ := bounds_law raw (pickI dx 2199023255552 - 1099511627776) (pickI dy 2199023255552 - 1099511627776) (by have := pickI_bd dx 2199023255552 (by omega); omega) (by have := pickI_bd dy 2199023255552 (by omega); omega)
       simp only [bX, bY, bW, bH] at hB_
       obtain ⟨hB1_, hB2_⟩ := hB_
       refine congrArg Value.bool ?_
       first | rfl | (simp_all; done) | (simp_all; omega) | (exfalso; simp_all; done) | (exfalso; simp_all; omega)
   ·
    refine rw_skip (gd_ft rfl (not_t h45)) rfl rfl ?_
    refine rw_ev (ev_pk_t rfl (not_t h45) rfl) rfl rfl rfl ?_
    refine rw_ev (ev_eqb (p := decide (((shiftC (setC raw) ((pickI dx (2199023255552 : Int)) - 1099511627776) ((pickI dy (2199023255552 : Int)) - 1099511627776)).2) = 0)) (q := true) bool_4 rfl rfl) rfl rfl rfl ?_
    refine rw_ev (ev_pk_t rfl rfl rfl) rfl rfl rfl ?_
    refine rw_ev (ev_move rfl) rfl rfl rfl ?_
    by_cases h48 : (decide (((shiftC (setC raw) ((pickI dx (2199023255552 : Int)) - 1099511627776) ((pickI dy (2199023255552 : Int)) - 1099511627776)).2) = 0)) = true
    ·
     refine rw_ev (ev_move rfl) (gd_tt rfl (dec_t h48)) rfl rfl ?_
     refine rw_ev (ev_eq rfl rfl) (gd_tt rfl (dec_t h48)) rfl rfl ?_
     refine rw_ev (ev_move rfl) (gd_tt rfl (dec_t h48)) rfl rfl ?_
     by_cases h49 : ((shiftC (setC raw) ((pickI dx (2199023255552 : Int)) - 1099511627776) ((pickI dy (2199023255552 : Int)) - 1099511627776)).2) = 0
     ·
      refine rw_skip (gd_ft rfl (dec_t h49)) rfl rfl ?_
      refine rw_skip (gd_ft rfl (dec_t h49)) rfl rfl ?_
      refine rw_ev (ev_pk_t (b := decide (((shiftC (setC raw) ((pickI dx (2199023255552 : Int)) - 1099511627776) ((pickI dy (2199023255552 : Int)) - 1099511627776)).2) = 0)) rfl (dec_t h49) rfl) (gd_tt rfl (dec_t h48)) rfl rfl ?_
      refine rw_ev (ev_pk_t (b := decide ((decide (((shiftC (setC raw) ((pickI dx (2199023255552 : Int)) - 1099511627776) ((pickI dy (2199023255552 : Int)) - 1099511627776)).2) = 0)) = true)) rfl (dec_t h48) rfl) rfl rfl rfl ?_
      refine rw_ev (ev_assign rfl) rfl rfl rfl ?_
      refine rw_nil ?_
      refine nw_seq ?_
      refine cw_ret ?_
      refine ret_post (rs := [.tmp 6]) (vs := [.bool true]) rfl (.tmp rfl .nil) ?_
      refine ⟨?_, K0⟩
      · show (.bool true : Value) = _
        have hB_ := bounds_law raw (pickI dx 2199023255552 - 1099511627776) (pickI dy 2199023255552 - 1099511627776) (by have := pickI_bd dx 2199023255552 (by omega); omega) (by have := pickI_bd dy 2199023255552 (by omega); omega)
        simp only [bX, bY, bW, bH] at hB_
        obtain ⟨hB1_, hB2_⟩ := hB_
        refine congrArg Value.bool ?_
        first | rfl | (simp_all; done) | (simp_all; omega) | (exfalso; simp_all; done) | (exfalso; simp_all; omega)
     ·
      refine rw_ev (ev_move rfl) (gd_ff rfl (dec_f h49)) rfl rfl ?_
      refine rw_ev (ev_eq rfl rfl) (gd_ff rfl (dec_f h49)) rfl rfl ?_
      refine rw_ev (ev_pk_f (b := decide (((shiftC (setC raw) ((pickI dx (2199023255552 : Int)) - 1099511627776) ((pickI dy (2199023255552 : Int)) - 1099511627776)).2) = 0)) rfl (dec_f h49) rfl) (gd_tt rfl (dec_t h48)) rfl rfl ?_
      refine rw_ev (ev_pk_t (b := decide ((decide (((shiftC (setC raw) ((pickI dx (2199023255552 : Int)) - 1099511627776) ((pickI dy (2199023255552 : Int)) - 1099511627776)).2) = 0)) = true)) rfl (dec_t h48) rfl) rfl rfl rfl ?_
      refine rw_ev (ev_assign rfl) rfl rfl rfl ?_
      refine rw_nil ?_
      refine nw_seq ?_
      refine cw_ret ?_
      refine ret_post (rs := [.tmp 6]) (vs := [.bool (decide (((shiftC (setC raw) ((pickI dx (2199023255552 : Int)) - 1099511627776) ((pickI dy (2199023255552 : Int)) - 1099511627776)).2) = 2))]) rfl (.tmp rfl .nil) ?_
      refine ⟨?_, K0⟩
      · show (.bool (decide (((shiftC (setC raw) ((pickI dx (2199023255552 : Int)) - 1099511627776) ((pickI dy (2199023255552 : Int)) - 1099511627776)).2) = 2)) : Value) = _
        have hB_ := bounds_law raw (pickI dx 2199023255552 - 1099511627776) (pickI dy 2199023255552 - 1099511627776) (by have := pickI_bd dx 2199023255552 (by omega); omega) (by have := pickI_bd dy 2199023255552 (by omega); omega)
        simp only [bX, bY, bW, bH] at hB_
        obtain ⟨hB1_, hB2_⟩ := hB_
        refine congrArg Value.bool ?_
        first | rfl | (simp_all; done) | (simp_all; omega) | (exfalso; simp_all; done) | (exfalso; simp_all; omega)
    ·
     refine rw_skip (gd_tf rfl (dec_f h48)) rfl rfl ?_
     refine rw_skip (gd_tf rfl (dec_f h48)) rfl rfl ?_
     refine rw_skip (gd_tf rfl (dec_f h48)) rfl rfl ?_
     refine rw_skip rfl rfl rfl ?_
     refine rw_skip rfl rfl rfl ?_
     refine rw_skip (gd_tf rfl (dec_f h48)) rfl rfl ?_
     refine rw_ev (ev_pk_f (b := decide ((decide (((shiftC (setC raw) ((pickI dx (2199023255552 : Int)) - 1099511627776) ((pickI dy (2199023255552 : Int)) - 1099511627776)).2) = 0)) = true)) rfl (dec_f h48) rfl) rfl rfl rfl ?_
     refine rw_ev (ev_assign rfl) rfl rfl rfl ?_
     refine rw_nil ?_
     refine nw_seq ?_
     refine cw_ret ?_
     refine ret_post (rs := [.tmp 6]) (vs := [.bool false]) rfl (.tmp rfl .nil) ?_
     refine ⟨?_, K0⟩
     · show (.bool false : Value) = _
       have hB_ := bounds_law raw (pickI dx 2199023255552 - 1099511627776) (pickI dy 2199023255552 - 1099511627776) (by have := pickI_bd dx 2199023255552 (by omega); omega) (by have := pickI_bd dy 2199023255552 (by omega); omega)
       simp only [bX, bY, bW, bH] at hB_
       obtain ⟨hB1_, hB2_⟩ := hB_
       refine congrArg Value.bool ?_
       first | rfl | (simp_all; done) | (simp_all; omega) | (exfalso; simp_all; done) | (exfalso; simp_all; omega)

end Go.Proofs.Ythpaadmpgdglnaa
