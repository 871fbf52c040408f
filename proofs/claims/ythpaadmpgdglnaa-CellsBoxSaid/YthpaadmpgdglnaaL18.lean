/- The law CellsBox: it returns true. Its condition: raw numbers of 64 bits. -/
import Derived.Test.YthpaadmpgdglnaaFg
import Derived.Test.YthpaadmpgdglnaaD9
namespace Go.Proofs.Ythpaadmpgdglnaa
open Go Go.RowKit
set_option linter.unusedVariables false
set_option linter.unusedSimpArgs false
set_option maxRecDepth 100000
set_option maxHeartbeats 4000000

theorem law_CellsBox (w : World) (rv : Value) (raw : List Cell) (hrv : Sl w (fun b => b < w.heap.size) rv 2 (raw.map encC)) (hrvr : RawOk raw) : Fn Try.prog 18 [rv] w (fun v w' =>  v = .bool true ∧ Ex w w') := by
  have K0 : Ex w w := Kp.refl _ _
  refine fn_enter (n := 115) Try.func18 rfl rfl (Nat.le_of_ble_eq_true rfl) ?_
  show CW _ _ _ _ _ _ [(0, rv)] _
  have hlen_ := set_len raw
  have hbx_ := set_box raw
  simp only [bX, bY, bW, bH] at hbx_
  obtain ⟨⟨_, _⟩, ⟨_, _⟩, ⟨_, _⟩, ⟨_, _⟩⟩ := hbx_
  have hbi_ := box_is (set_right raw)
  refine cw_seq ?_
  refine cw_region ?_
  refine rw_ev (ev_assign rfl) rfl rfl rfl ?_
  refine rw_nil ?_
  refine nw_seq ?_
  refine cw_seq ?_
  refine cw_region ?_
  refine rw_op (op_fn (xs := []) ent_56 rfl (c_awake1 w )) rfl rfl rfl ?_
  rintro _ w1 ⟨rfl, k2⟩
  replace K0 := Ex.trans K0 k2
  replace hrv := hrv.ex k2
  have zw1 := k2.size
  refine rw_ev (ev_assign rfl) rfl rfl rfl ?_
  refine rw_nil ?_
  refine nw_seq ?_
  refine cw_seq ?_
  refine cw_region ?_
  refine rw_ev (ev_move rfl) rfl rfl rfl ?_
  refine rw_op (op_fn (xs := [.tmp 12]) ent_44 rfl (c_set w1 rv raw (Sl.below hrv) (by exact hrvr))) rfl rfl rfl ?_
  rintro u3 w4 ⟨_, rfl, k5, sl6⟩
  replace K0 := Ex.trans K0 k5
  replace hrv := hrv.ex k5
  have zw4 := k5.size
  refine rw_ev (ev_assign rfl) rfl rfl rfl ?_
  refine rw_nil ?_
  refine nw_seq ?_
  refine cw_seq ?_
  refine cw_region ?_
  refine rw_ev (ev_move rfl) rfl rfl rfl ?_
  refine rw_op (op_fn (xs := [.tmp 15]) ent_59 rfl (c_cbox w4 u3 (setC raw) (Sl.below sl6))) rfl rfl rfl ?_
  rintro _ w7 ⟨rfl, k8⟩
  replace K0 := Ex.trans K0 k8
  replace hrv := hrv.ex k8
  replace sl6 := sl6.ex k8
  have zw7 := k8.size
  refine rw_ev (ev_move rfl) rfl rfl rfl ?_
  refine rw_ev (ev_extract rfl rfl) rfl rfl rfl ?_
  refine rw_ev (ev_extract rfl rfl) rfl rfl rfl ?_
  refine rw_op (op_alloc zero_69) rfl rfl rfl ?_
  rintro _ w10 ⟨g9, rfl, hg11, k12, b13⟩
  replace K0 := Ex.trans K0 k12
  replace hrv := hrv.ex k12
  replace sl6 := sl6.ex k12
  have zw10 := k12.size
  have lg9 := b13.lt
  refine rw_none (op_store (off := 0) (v := .agg #[.int .i64 ((boxC (setC raw)).1.1), .int .i64 ((boxC (setC raw)).1.2.1), .int .i64 ((boxC (setC raw)).1.2.2.1), .int .i64 ((boxC (setC raw)).1.2.2.2)]) (cs' := #[.int .i64 ((boxC (setC raw)).1.1), .int .i64 ((boxC (setC raw)).1.2.1), .int .i64 ((boxC (setC raw)).1.2.2.1), .int .i64 ((boxC (setC raw)).1.2.2.2)]) b13 rfl rfl size_69 rfl (Nat.le_of_ble_eq_true rfl) (one_cons rfl (one_cons rfl (one_cons rfl (one_cons rfl one_nil)))) rfl) rfl rfl ?_
  rintro _ w14 ⟨k15, b16⟩
  replace K0 := Ex.kp_new K0 k15 (fun _ h => h ▸ Nat.le_trans (Nat.le_trans zw1 (Nat.le_trans zw4 zw7)) hg11)
  replace hrv := hrv.kp k15 (fun b h e => Nat.lt_irrefl _ (Nat.lt_of_lt_of_le (show g9 < _ from e ▸ (show b < _ from h)) (Nat.le_trans (Nat.le_trans zw1 (Nat.le_trans zw4 zw7)) hg11)))
  replace sl6 := sl6.kp k15 (fun b h e => Nat.lt_irrefl _ (Nat.lt_of_lt_of_le (show g9 < _ from e ▸ (show b < _ from h.2)) (Nat.le_trans zw7 hg11)))
  have zw14 := k15.size
  refine rw_ev (ev_assign rfl) rfl rfl rfl ?_
  refine rw_nil ?_
  refine nw_seq ?_
  refine cw_seq ?_
  refine cw_region ?_
  refine rw_op (op_alloc zero_82) rfl rfl rfl ?_
  rintro _ w18 ⟨g17, rfl, hg19, k20, b21⟩
  replace K0 := Ex.trans K0 k20
  replace hrv := hrv.ex k20
  replace sl6 := sl6.ex k20
  replace b16 := b16.ex k20
  have zw18 := k20.size
  have lg17 := b21.lt
  refine rw_nil ?_
  refine nw_seq ?_
  refine cw_seq ?_
  refine cw_seq ?_
  refine cw_region ?_
  refine rw_ev (ev_assign rfl) rfl rfl rfl ?_
  refine rw_nil ?_
  refine nw_seq ?_
  refine cw_block ?_
  refine cw_loop (σ := Nat × Bool × Bool × Bool × Bool) (fun s_ => match s_ with | (i, s0, s1, s2, s3) => [(2, .bool false), (3, .bool true), (4, u3), (5, .pointer (some ⟨g9, 0, none⟩)), (6, .bool ((boxC (setC raw)).2)), (7, .pointer (some ⟨g17, 0, none⟩)), (8, .int .i64 (i : Int))]) (fun s_ wr => match s_ with | (i, s0, s1, s2, s3) => Ex w wr ∧ w18.heap.size ≤ wr.heap.size ∧ Sl wr (fun b => b < w.heap.size) rv 2 (raw.map encC) ∧ Sl wr (fun b => w1.heap.size ≤ b ∧ b < w4.heap.size) u3 2 ((setC raw).map encC) ∧ Bx wr g9 69 #[.int .i64 ((boxC (setC raw)).1.1), .int .i64 ((boxC (setC raw)).1.2.1), .int .i64 ((boxC (setC raw)).1.2.2.1), .int .i64 ((boxC (setC raw)).1.2.2.2)] ∧ Bx wr g17 82 #[.bool s0, .bool s1, .bool s2, .bool s3] ∧ s0 = ((setC raw).take i).any (fun c => decide (c.1 - (boxC (setC raw)).1.1 = 0)) ∧ s1 = ((setC raw).take i).any (fun c => decide (c.2 - (boxC (setC raw)).1.2.1 = 0)) ∧ s2 = ((setC raw).take i).any (fun c => decide (c.1 - (boxC (setC raw)).1.1 = (boxC (setC raw)).1.2.2.1 - 1)) ∧ s3 = ((setC raw).take i).any (fun c => decide (c.2 - (boxC (setC raw)).1.2.1 = (boxC (setC raw)).1.2.2.2 - 1)) ∧ i ≤ (setC raw).length) (fun s_ => match s_ with | (i, s0, s1, s2, s3) => (setC raw).length - i) (0, false, false, false, false) (Sub.cons rfl (Sub.cons rfl (Sub.cons rfl (Sub.cons rfl (Sub.cons rfl (Sub.cons rfl (Sub.int (b := (0 : Int)) rfl (by omega) Sub.nil))))))) ⟨K0, (Nat.le_refl _), hrv, sl6, b16, b21, (by first | omega | rfl), (by first | omega | rfl), (by first | omega | rfl), (by first | omega | rfl), (by first | omega | rfl)⟩ ?_
  rintro ⟨i, s0, s1, s2, s3⟩ w22 ⟨K0, z23, f24, f25, f26, f27, pr28, pr29, pr30, pr31, pr32⟩
  show CW _ _ _ _ _ _ [(2, .bool false), (3, .bool true), (4, u3), (5, .pointer (some ⟨g9, 0, none⟩)), (6, .bool ((boxC (setC raw)).2)), (7, .pointer (some ⟨g17, 0, none⟩)), (8, .int .i64 (i : Int))] _
  refine cw_seq ?_
  refine cw_seq ?_
  refine cw_region ?_
  refine rw_ev (ev_move rfl) rfl rfl rfl ?_
  refine rw_ev (ev_move rfl) rfl rfl rfl ?_
  refine rw_ev (v := .int .i64 ((setC raw).length : Int)) (ev_lenm (l := setC raw) ⟨_, f25⟩ rfl el_46 rfl) rfl rfl rfl ?_
  refine rw_ev (ev_lss rfl rfl) rfl rfl rfl ?_
  refine rw_nil ?_
  refine nw_seq ?_
  by_cases h33 : (i : Int) < ((setC raw).length : Int)
  ·
   refine cw_t (b := decide ((i : Int) < ((setC raw).length : Int))) rfl (dec_t h33) ?_
   refine cw_skip ?_
   refine nw_seq ?_
   refine cw_seq ?_
   refine cw_block ?_
   refine cw_seq ?_
   refine cw_drawn (fun w34 w_ => Ex w34 w_) [] (.take 0 (.take 1 (.take 2 (.take 3 (.take 4 (.take 5 (.take 6 (.take 7 (.take 8 .done))))))))) mixed (by kernel_rfl) (by kernel_rfl) (Nat.le_of_ble_eq_true (by kernel_rfl)) ?_; intro w34 k35 hs_
   replace K0 := Ex.trans K0 k35
   replace f24 := f24.ex k35
   replace f25 := f25.ex k35
   replace f26 := f26.ex k35
   replace f27 := f27.ex k35
   have zw34 := k35.size
   have hS : (fun w_ => Ex w34 w_) w34 := Kp.refl _ _
   refine rp_take hs_ hS rfl rfl (ev_move rfl) rfl rfl rfl ?_
   refine rp_take hs_ hS rfl rfl (ev_move rfl) rfl rfl rfl ?_
   obtain ⟨c36, hc37⟩ := get_of (l := setC raw) (i := i) (by omega)
   have hic36 := set_in hc37
   have hdc36 := set_bd (List.mem_of_getElem? hc37)
   refine rp_take (v := elemPtr u3 i 2 0) hs_ hS rfl rfl (ev_slAt (i := (i : Int)) ⟨_, (f25.ex hS)⟩ rfl rfl el_46 (idx_ok (i := (i : Int)) hc37 (by omega))) rfl rfl rfl ?_
   refine rp_take (v := elemPtr u3 i 2 0) hs_ hS rfl rfl (ev_elField (o := 0) ⟨_, (f25.ex hS)⟩ (len_enc hc37) rfl foff_55_0) rfl rfl rfl ?_
   refine rp_take (v := .int .i64 c36.1) hs_ hS rfl rfl (ev_elLoad1 (u := .int .i64 c36.1) (fun _ h => (f25.ex h)) ⟨_, hS⟩ rfl (get_enc hc37) one_3 (by decide) rfl) rfl rfl rfl ?_
   refine rp_take (v := .pointer (some ⟨g9, 0, none⟩)) hs_ hS rfl rfl (ev_field (o := 0) rfl foff_69_0) rfl rfl rfl ?_
   refine rp_take (v := .int .i64 ((boxC (setC raw)).1.1)) hs_ hS rfl rfl (ev_lb1 (off := 0) (fun _ h => f26.ex h) rfl one_3 rfl) rfl rfl rfl ?_
   refine rp_take hs_ hS rfl rfl (ev_sub rfl rfl (by omega)) rfl rfl rfl ?_
   refine rp_take hs_ hS rfl rfl (ev_assign rfl) rfl rfl rfl ?_
   refine rp_done ?_
   clear hs_
   refine nw_seq ?_
   refine cw_seq ?_
   refine cw_drawn (fun w38 w_ => Ex w38 w_) [] (.take 0 (.take 1 (.take 2 (.take 3 (.take 4 (.take 5 (.take 6 (.take 7 (.take 8 .done))))))))) mixed (by kernel_rfl) (by kernel_rfl) (Nat.le_of_ble_eq_true (by kernel_rfl)) ?_; intro w38 k39 hs_
   replace K0 := Ex.trans K0 k39
   replace f24 := f24.ex k39
   replace f25 := f25.ex k39
   replace f26 := f26.ex k39
   replace f27 := f27.ex k39
   have zw38 := k39.size
   have hS : (fun w_ => Ex w38 w_) w38 := Kp.refl _ _
   refine rp_take hs_ hS rfl rfl (ev_move rfl) rfl rfl rfl ?_
   refine rp_take hs_ hS rfl rfl (ev_move rfl) rfl rfl rfl ?_
   refine rp_take (v := elemPtr u3 i 2 0) hs_ hS rfl rfl (ev_slAt (i := (i : Int)) ⟨_, (f25.ex hS)⟩ rfl rfl el_46 (idx_ok (i := (i : Int)) hc37 (by omega))) rfl rfl rfl ?_
   refine rp_take (v := elemPtr u3 i 2 1) hs_ hS rfl rfl (ev_elField (o := 1) ⟨_, (f25.ex hS)⟩ (len_enc hc37) rfl foff_55_1) rfl rfl rfl ?_
   refine rp_take (v := .int .i64 c36.2) hs_ hS rfl rfl (ev_elLoad1 (u := .int .i64 c36.2) (fun _ h => (f25.ex h)) ⟨_, hS⟩ rfl (get_enc hc37) one_3 (by decide) rfl) rfl rfl rfl ?_
   refine rp_take (v := .pointer (some ⟨g9, 1, none⟩)) hs_ hS rfl rfl (ev_field (o := 1) rfl foff_69_1) rfl rfl rfl ?_
   refine rp_take (v := .int .i64 ((boxC (setC raw)).1.2.1)) hs_ hS rfl rfl (ev_lb1 (off := 1) (fun _ h => f26.ex h) rfl one_3 rfl) rfl rfl rfl ?_
   refine rp_take hs_ hS rfl rfl (ev_sub rfl rfl (by omega)) rfl rfl rfl ?_
   refine rp_take hs_ hS rfl rfl (ev_assign rfl) rfl rfl rfl ?_
   refine rp_done ?_
   clear hs_
   refine nw_seq ?_
   refine cw_seq ?_
   refine cw_seq ?_
   refine cw_region ?_
   refine rw_ev (ev_move rfl) rfl rfl rfl ?_
   refine rw_ev (ev_lss rfl rfl) rfl rfl rfl ?_
   refine rw_ev (ev_move rfl) rfl rfl rfl ?_
   refine rw_ev (ev_move rfl) (gd_ff rfl (dec_f (by omega))) rfl rfl ?_
   refine rw_ev (ev_lss rfl rfl) (gd_ff rfl (dec_f (by omega))) rfl rfl ?_
   refine rw_ev (ev_pk_f (b := decide ((c36.1 - ((boxC (setC raw)).1.1)) < 0)) rfl (dec_f (by omega)) rfl) rfl rfl rfl ?_
   refine rw_ev (ev_move rfl) rfl rfl rfl ?_
   refine rw_ev (ev_move rfl) (gd_ff rfl (dec_f (by omega))) rfl rfl ?_
   refine rw_ev (v := .pointer (some ⟨g9, 2, none⟩)) (ev_field (o := 2) rfl foff_69_2) (gd_ff rfl (dec_f (by omega))) rfl rfl ?_
   refine rw_ev (v := .int .i64 ((boxC (setC raw)).1.2.2.1)) (ev_lb1 (off := 2) (fun _ h => h ▸ f26) rfl one_3 rfl) (gd_ff rfl (dec_f (by omega))) rfl rfl ?_
   refine rw_ev (ev_geq rfl rfl) (gd_ff rfl (dec_f (by omega))) rfl rfl ?_
   refine rw_ev (ev_pk_f (b := decide ((c36.2 - ((boxC (setC raw)).1.2.1)) < 0)) rfl (dec_f (by omega)) rfl) rfl rfl rfl ?_
   refine rw_ev (ev_move rfl) rfl rfl rfl ?_
   refine rw_ev (ev_move rfl) (gd_ff rfl (dec_f (by omega))) rfl rfl ?_
   refine rw_ev (v := .pointer (some ⟨g9, 3, none⟩)) (ev_field (o := 3) rfl foff_69_3) (gd_ff rfl (dec_f (by omega))) rfl rfl ?_
   refine rw_ev (v := .int .i64 ((boxC (setC raw)).1.2.2.2)) (ev_lb1 (off := 3) (fun _ h => h ▸ f26) rfl one_3 rfl) (gd_ff rfl (dec_f (by omega))) rfl rfl ?_
   refine rw_ev (ev_geq rfl rfl) (gd_ff rfl (dec_f (by omega))) rfl rfl ?_
   refine rw_ev (ev_pk_f (b := decide (((boxC (setC raw)).1.2.2.1) ≤ (c36.1 - ((boxC (setC raw)).1.1)))) rfl (dec_f (by omega)) rfl) rfl rfl rfl ?_
   refine rw_nil ?_
   refine nw_seq ?_
   refine cw_f (b := decide (((boxC (setC raw)).1.2.2.2) ≤ (c36.2 - ((boxC (setC raw)).1.2.1)))) rfl (dec_f (by omega)) ?_
   refine cw_skip ?_
   refine nw_seq ?_
   refine cw_region ?_
   refine rw_ev (v := .pointer (some ⟨g17, 0, none⟩)) (ev_arrAt (i := 0) (m := 4) (k := 1) rfl rfl arr_82 (by omega)) rfl rfl rfl ?_
   refine rw_ev (v := .bool s0) (ev_lb1 (off := 0) (fun _ h => h ▸ f27) rfl one_4 rfl) rfl rfl rfl ?_
   refine rw_ev (ev_move rfl) rfl rfl rfl ?_
   rcases Bool.eq_false_or_eq_true (s0) with h40 | h40
   ·
    refine rw_skip (gd_ft rfl h40) rfl rfl ?_
    refine rw_skip (gd_ft rfl h40) rfl rfl ?_
    refine rw_ev (ev_pk_t rfl h40 rfl) rfl rfl rfl ?_
    refine rw_ev (v := .pointer (some ⟨g17, 1, none⟩)) (ev_arrAt (i := 1) (m := 4) (k := 1) rfl rfl arr_82 (by omega)) rfl rfl rfl ?_
    refine rw_ev (v := .bool s1) (ev_lb1 (off := 1) (fun _ h => h ▸ f27) rfl one_4 rfl) rfl rfl rfl ?_
    refine rw_ev (ev_move rfl) rfl rfl rfl ?_
    rcases Bool.eq_false_or_eq_true (s1) with h41 | h41
    ·
     refine rw_skip (gd_ft rfl h41) rfl rfl ?_
     refine rw_skip (gd_ft rfl h41) rfl rfl ?_
     refine rw_ev (ev_pk_t rfl h41 rfl) rfl rfl rfl ?_
     refine rw_ev (v := .pointer (some ⟨g17, 2, none⟩)) (ev_arrAt (i := 2) (m := 4) (k := 1) rfl rfl arr_82 (by omega)) rfl rfl rfl ?_
     refine rw_ev (v := .bool s2) (ev_lb1 (off := 2) (fun _ h => h ▸ f27) rfl one_4 rfl) rfl rfl rfl ?_
     refine rw_ev (ev_move rfl) rfl rfl rfl ?_
     rcases Bool.eq_false_or_eq_true (s2) with h42 | h42
     ·
      refine rw_skip (gd_ft rfl h42) rfl rfl ?_
      refine rw_skip (gd_ft rfl h42) rfl rfl ?_
      refine rw_skip (gd_ft rfl h42) rfl rfl ?_
      refine rw_skip (gd_ft rfl h42) rfl rfl ?_
      refine rw_skip (gd_ft rfl h42) rfl rfl ?_
      refine rw_ev (ev_pk_t rfl h42 rfl) rfl rfl rfl ?_
      refine rw_ev (v := .pointer (some ⟨g17, 3, none⟩)) (ev_arrAt (i := 3) (m := 4) (k := 1) rfl rfl arr_82 (by omega)) rfl rfl rfl ?_
      refine rw_ev (v := .bool s3) (ev_lb1 (off := 3) (fun _ h => h ▸ f27) rfl one_4 rfl) rfl rfl rfl ?_
      refine rw_ev (ev_move rfl) rfl rfl rfl ?_
      rcases Bool.eq_false_or_eq_true (s3) with h43 | h43
      ·
       refine rw_skip (gd_ft rfl h43) rfl rfl ?_
       refine rw_skip (gd_ft rfl h43) rfl rfl ?_
       refine rw_skip (gd_ft rfl h43) rfl rfl ?_
       refine rw_skip (gd_ft rfl h43) rfl rfl ?_
       refine rw_skip (gd_ft rfl h43) rfl rfl ?_
       refine rw_ev (ev_pk_t rfl h43 rfl) rfl rfl rfl ?_
       refine rw_ev (v := .agg #[.bool true, .bool true, .bool true, .bool true]) (ev_pure rfl rfl (fun _ => by kernel_rfl)) rfl rfl rfl ?_
       refine rw_none (op_store (off := 0) (v := .agg #[.bool true, .bool true, .bool true, .bool true]) (cs' := #[.bool true, .bool true, .bool true, .bool true]) f27 rfl rfl size_82 rfl (Nat.le_of_ble_eq_true rfl) (one_cons rfl (one_cons rfl (one_cons rfl (one_cons rfl one_nil)))) rfl) rfl rfl ?_
       rintro _ w44 ⟨k45, b46⟩
       replace K0 := Ex.kp_new K0 k45 (fun _ h => h ▸ Nat.le_trans (Nat.le_trans zw1 (Nat.le_trans zw4 (Nat.le_trans zw7 (Nat.le_trans zw10 zw14)))) hg19)
       replace f24 := f24.kp k45 (fun b h e => Nat.lt_irrefl _ (Nat.lt_of_lt_of_le (show g17 < _ from e ▸ (show b < _ from h)) (Nat.le_trans (Nat.le_trans zw1 (Nat.le_trans zw4 (Nat.le_trans zw7 (Nat.le_trans zw10 zw14)))) hg19)))
       replace f25 := f25.kp k45 (fun b h e => Nat.lt_irrefl _ (Nat.lt_of_lt_of_le (show g17 < _ from e ▸ (show b < _ from h.2)) (Nat.le_trans (Nat.le_trans zw7 (Nat.le_trans zw10 zw14)) hg19)))
       replace f26 := f26.kp k45 (Nat.ne_of_lt (Nat.lt_of_lt_of_le lg9 (Nat.le_trans zw14 hg19)))
       have zw44 := k45.size
       refine rw_nil ?_
       refine nw_block ?_
       refine nw_seq ?_
       refine cw_region ?_
       refine rw_ev (ev_move rfl) rfl rfl rfl ?_
       refine rw_ev (ev_add rfl rfl (by omega)) rfl rfl rfl ?_
       refine rw_ev (ev_assign rfl) rfl rfl rfl ?_
       refine rw_nil ?_
       exact nw_round ((i + 1), true, true, true, true) (Sub.cons rfl (Sub.cons rfl (Sub.cons rfl (Sub.cons rfl (Sub.cons rfl (Sub.cons rfl (Sub.int (b := ((i + 1) : Int)) rfl (by omega) Sub.nil))))))) ⟨K0, (Nat.le_trans z23 (Nat.le_trans zw34 (Nat.le_trans zw38 zw44))), f24, f25, f26, b46, (by first | omega | exact any_step_t (s := s0) (by assumption) (by assumption) (by assumption) | exact any_step_f (s := s0) (by assumption) (by assumption) (by assumption) | exact any_step_t (s := s1) (by assumption) (by assumption) (by assumption) | exact any_step_f (s := s1) (by assumption) (by assumption) (by assumption) | exact any_step_t (s := s2) (by assumption) (by assumption) (by assumption) | exact any_step_f (s := s2) (by assumption) (by assumption) (by assumption) | exact any_step_t (s := s3) (by assumption) (by assumption) (by assumption) | exact any_step_f (s := s3) (by assumption) (by assumption) (by assumption)), (by first | omega | exact any_step_t (s := s0) (by assumption) (by assumption) (by assumption) | exact any_step_f (s := s0) (by assumption) (by assumption) (by assumption) | exact any_step_t (s := s1) (by assumption) (by assumption) (by assumption) | exact any_step_f (s := s1) (by assumption) (by assumption) (by assumption) | exact any_step_t (s := s2) (by assumption) (by assumption) (by assumption) | exact any_step_f (s := s2) (by assumption) (by assumption) (by assumption) | exact any_step_t (s := s3) (by assumption) (by assumption) (by assumption) | exact any_step_f (s := s3) (by assumption) (by assumption) (by assumption)), (by first | omega | exact any_step_t (s := s0) (by assumption) (by assumption) (by assumption) | exact any_step_f (s := s0) (by assumption) (by assumption) (by assumption) | exact any_step_t (s := s1) (by assumption) (by assumption) (by assumption) | exact any_step_f (s := s1) (by assumption) (by assumption) (by assumption) | exact any_step_t (s := s2) (by assumption) (by assumption) (by assumption) | exact any_step_f (s := s2) (by assumption) (by assumption) (by assumption) | exact any_step_t (s := s3) (by assumption) (by assumption) (by assumption) | exact any_step_f (s := s3) (by assumption) (by assumption) (by assumption)), (by first | omega | exact any_step_t (s := s0) (by assumption) (by assumption) (by assumption) | exact any_step_f (s := s0) (by assumption) (by assumption) (by assumption) | exact any_step_t (s := s1) (by assumption) (by assumption) (by assumption) | exact any_step_f (s := s1) (by assumption) (by assumption) (by assumption) | exact any_step_t (s := s2) (by assumption) (by assumption) (by assumption) | exact any_step_f (s := s2) (by assumption) (by assumption) (by assumption) | exact any_step_t (s := s3) (by assumption) (by assumption) (by assumption) | exact any_step_f (s := s3) (by assumption) (by assumption) (by assumption)), (by first | omega | exact any_step_t (s := s0) (by assumption) (by assumption) (by assumption) | exact any_step_f (s := s0) (by assumption) (by assumption) (by assumption) | exact any_step_t (s := s1) (by assumption) (by assumption) (by assumption) | exact any_step_f (s := s1) (by assumption) (by assumption) (by assumption) | exact any_step_t (s := s2) (by assumption) (by assumption) (by assumption) | exact any_step_f (s := s2) (by assumption) (by assumption) (by assumption) | exact any_step_t (s := s3) (by assumption) (by assumption) (by assumption) | exact any_step_f (s := s3) (by assumption) (by assumption) (by assumption))⟩ (by first | omega | (dsimp only; omega))
      ·
       refine rw_ev (ev_move rfl) (gd_ff rfl h43) rfl rfl ?_
       refine rw_ev (v := .pointer (some ⟨g9, 3, none⟩)) (ev_field (o := 3) rfl foff_69_3) (gd_ff rfl h43) rfl rfl ?_
       refine rw_ev (v := .int .i64 ((boxC (setC raw)).1.2.2.2)) (ev_lb1 (off := 3) (fun _ h => h ▸ f26) rfl one_3 rfl) (gd_ff rfl h43) rfl rfl ?_
       refine rw_ev (ev_sub rfl rfl (by omega)) (gd_ff rfl h43) rfl rfl ?_
       refine rw_ev (ev_eq rfl rfl) (gd_ff rfl h43) rfl rfl ?_
       refine rw_ev (ev_pk_f rfl h43 rfl) rfl rfl rfl ?_
       refine rw_ev (v := .agg #[.bool true, .bool true, .bool true, .bool (decide ((c36.2 - ((boxC (setC raw)).1.2.1)) = (((boxC (setC raw)).1.2.2.2) - 1)))]) (ev_pure rfl rfl (fun _ => by kernel_rfl)) rfl rfl rfl ?_
       refine rw_none (op_store (off := 0) (v := .agg #[.bool true, .bool true, .bool true, .bool (decide ((c36.2 - ((boxC (setC raw)).1.2.1)) = (((boxC (setC raw)).1.2.2.2) - 1)))]) (cs' := #[.bool true, .bool true, .bool true, .bool (decide ((c36.2 - ((boxC (setC raw)).1.2.1)) = (((boxC (setC raw)).1.2.2.2) - 1)))]) f27 rfl rfl size_82 rfl (Nat.le_of_ble_eq_true rfl) (one_cons rfl (one_cons rfl (one_cons rfl (one_cons rfl one_nil)))) rfl) rfl rfl ?_
       rintro _ w47 ⟨k48, b49⟩
       replace K0 := Ex.kp_new K0 k48 (fun _ h => h ▸ Nat.le_trans (Nat.le_trans zw1 (Nat.le_trans zw4 (Nat.le_trans zw7 (Nat.le_trans zw10 zw14)))) hg19)
       replace f24 := f24.kp k48 (fun b h e => Nat.lt_irrefl _ (Nat.lt_of_lt_of_le (show g17 < _ from e ▸ (show b < _ from h)) (Nat.le_trans (Nat.le_trans zw1 (Nat.le_trans zw4 (Nat.le_trans zw7 (Nat.le_trans zw10 zw14)))) hg19)))
       replace f25 := f25.kp k48 (fun b h e => Nat.lt_irrefl _ (Nat.lt_of_lt_of_le (show g17 < _ from e ▸ (show b < _ from h.2)) (Nat.le_trans (Nat.le_trans zw7 (Nat.le_trans zw10 zw14)) hg19)))
       replace f26 := f26.kp k48 (Nat.ne_of_lt (Nat.lt_of_lt_of_le lg9 (Nat.le_trans zw14 hg19)))
       have zw47 := k48.size
       refine rw_nil ?_
       refine nw_block ?_
       refine nw_seq ?_
       refine cw_region ?_
       refine rw_ev (ev_move rfl) rfl rfl rfl ?_
       refine rw_ev (ev_add rfl rfl (by omega)) rfl rfl rfl ?_
       refine rw_ev (ev_assign rfl) rfl rfl rfl ?_
       refine rw_nil ?_
       exact nw_round ((i + 1), true, true, true, decide ((c36.2 - ((boxC (setC raw)).1.2.1)) = (((boxC (setC raw)).1.2.2.2) - 1))) (Sub.cons rfl (Sub.cons rfl (Sub.cons rfl (Sub.cons rfl (Sub.cons rfl (Sub.cons rfl (Sub.int (b := ((i + 1) : Int)) rfl (by omega) Sub.nil))))))) ⟨K0, (Nat.le_trans z23 (Nat.le_trans zw34 (Nat.le_trans zw38 zw47))), f24, f25, f26, b49, (by first | omega | exact any_step_t (s := s0) (by assumption) (by assumption) (by assumption) | exact any_step_f (s := s0) (by assumption) (by assumption) (by assumption) | exact any_step_t (s := s1) (by assumption) (by assumption) (by assumption) | exact any_step_f (s := s1) (by assumption) (by assumption) (by assumption) | exact any_step_t (s := s2) (by assumption) (by assumption) (by assumption) | exact any_step_f (s := s2) (by assumption) (by assumption) (by assumption) | exact any_step_t (s := s3) (by assumption) (by assumption) (by assumption) | exact any_step_f (s := s3) (by assumption) (by assumption) (by assumption)), (by first | omega | exact any_step_t (s := s0) (by assumption) (by assumption) (by assumption) | exact any_step_f (s := s0) (by assumption) (by assumption) (by assumption) | exact any_step_t (s := s1) (by assumption) (by assumption) (by assumption) | exact any_step_f (s := s1) (by assumption) (by assumption) (by assumption) | exact any_step_t (s := s2) (by assumption) (by assumption) (by assumption) | exact any_step_f (s := s2) (by assumption) (by assumption) (by assumption) | exact any_step_t (s := s3) (by assumption) (by assumption) (by assumption) | exact any_step_f (s := s3) (by assumption) (by assumption) (by assumption)), (by first | omega | exact any_step_t (s := s0) (by assumption) (by assumption) (by assumption) | exact any_step_f (s := s0) (by assumption) (by assumption) (by assumption) | exact any_step_t (s := s1) (by assumption) (by assumption) (by assumption) | exact any_step_f (s := s1) (by assumption) (by assumption) (by assumption) | exact any_step_t (s := s2) (by assumption) (by assumption) (by assumption) | exact any_step_f (s := s2) (by assumption) (by assumption) (by assumption) | exact any_step_t (s := s3) (by assumption) (by assumption) (by assumption) | exact any_step_f (s := s3) (by assumption) (by assumption) (by assumption)), (by first | omega | exact any_step_t (s := s0) (by assumption) (by assumption) (by assumption) | exact any_step_f (s := s0) (by assumption) (by assumption) (by assumption) | exact any_step_t (s := s1) (by assumption) (by assumption) (by assumption) | exact any_step_f (s := s1) (by assumption) (by assumption) (by assumption) | exact any_step_t (s := s2) (by assumption) (by assumption) (by assumption) | exact any_step_f (s := s2) (by assumption) (by assumption) (by assumption) | exact any_step_t (s := s3) (by assumption) (by assumption) (by assumption) | exact any_step_f (s := s3) (by assumption) (by assumption) (by assumption)), (by first | omega | exact any_step_t (s := s0) (by assumption) (by assumption) (by assumption) | exact any_step_f (s := s0) (by assumption) (by assumption) (by assumption) | exact any_step_t (s := s1) (by assumption) (by assumption) (by assumption) | exact any_step_f (s := s1) (by assumption) (by assumption) (by assumption) | exact any_step_t (s := s2) (by assumption) (by assumption) (by assumption) | exact any_step_f (s := s2) (by assumption) (by assumption) (by assumption) | exact any_step_t (s := s3) (by assumption) (by assumption) (by assumption) | exact any_step_f (s := s3) (by assumption) (by assumption) (by assumption))⟩ (by first | omega | (dsimp only; omega))
     ·
      refine rw_ev (ev_move rfl) (gd_ff rfl h42) rfl rfl ?_
      refine rw_ev (v := .pointer (some ⟨g9, 2, none⟩)) (ev_field (o := 2) rfl foff_69_2) (gd_ff rfl h42) rfl rfl ?_
      refine rw_ev (v := .int .i64 ((boxC (setC raw)).1.2.2.1)) (ev_lb1 (off := 2) (fun _ h => h ▸ f26) rfl one_3 rfl) (gd_ff rfl h42) rfl rfl ?_
      refine rw_ev (ev_sub rfl rfl (by omega)) (gd_ff rfl h42) rfl rfl ?_
      refine rw_ev (ev_eq rfl rfl) (gd_ff rfl h42) rfl rfl ?_
      refine rw_ev (ev_pk_f rfl h42 rfl) rfl rfl rfl ?_
      refine rw_ev (v := .pointer (some ⟨g17, 3, none⟩)) (ev_arrAt (i := 3) (m := 4) (k := 1) rfl rfl arr_82 (by omega)) rfl rfl rfl ?_
      refine rw_ev (v := .bool s3) (ev_lb1 (off := 3) (fun _ h => h ▸ f27) rfl one_4 rfl) rfl rfl rfl ?_
      refine rw_ev (ev_move rfl) rfl rfl rfl ?_
      rcases Bool.eq_false_or_eq_true (s3) with h50 | h50
      ·
       refine rw_skip (gd_ft rfl h50) rfl rfl ?_
       refine rw_skip (gd_ft rfl h50) rfl rfl ?_
       refine rw_skip (gd_ft rfl h50) rfl rfl ?_
       refine rw_skip (gd_ft rfl h50) rfl rfl ?_
       refine rw_skip (gd_ft rfl h50) rfl rfl ?_
       refine rw_ev (ev_pk_t rfl h50 rfl) rfl rfl rfl ?_
       refine rw_ev (v := .agg #[.bool true, .bool true, .bool (decide ((c36.1 - ((boxC (setC raw)).1.1)) = (((boxC (setC raw)).1.2.2.1) - 1))), .bool true]) (ev_pure rfl rfl (fun _ => by kernel_rfl)) rfl rfl rfl ?_
       refine rw_none (op_store (off := 0) (v := .agg #[.bool true, .bool true, .bool (decide ((c36.1 - ((boxC (setC raw)).1.1)) = (((boxC (setC raw)).1.2.2.1) - 1))), .bool true]) (cs' := #[.bool true, .bool true, .bool (decide ((c36.1 - ((boxC (setC raw)).1.1)) = (((boxC (setC raw)).1.2.2.1) - 1))), .bool true]) f27 rfl rfl size_82 rfl (Nat.le_of_ble_eq_true rfl) (one_cons rfl (one_cons rfl (one_cons rfl (one_cons rfl one_nil)))) rfl) rfl rfl ?_
       rintro _ w51 ⟨k52, b53⟩
       replace K0 := Ex.kp_new K0 k52 (fun _ h => h ▸ Nat.le_trans (Nat.le_trans zw1 (Nat.le_trans zw4 (Nat.le_trans zw7 (Nat.le_trans zw10 zw14)))) hg19)
       replace f24 := f24.kp k52 (fun b h e => Nat.lt_irrefl _ (Nat.lt_of_lt_of_le (show g17 < _ from e ▸ (show b < _ from h)) (Nat.le_trans (Nat.le_trans zw1 (Nat.le_trans zw4 (Nat.le_trans zw7 (Nat.le_trans zw10 zw14)))) hg19)))
       replace f25 := f25.kp k52 (fun b h e => Nat.lt_irrefl _ (Nat.lt_of_lt_of_le (show g17 < _ from e ▸ (show b < _ from h.2)) (Nat.le_trans (Nat.le_trans zw7 (Nat.le_trans zw10 zw14)) hg19)))
       replace f26 := f26.kp k52 (Nat.ne_of_lt (Nat.lt_of_lt_of_le lg9 (Nat.le_trans zw14 hg19)))
       have zw51 := k52.size
       refine rw_nil ?_
       refine nw_block ?_
       refine nw_seq ?_
       refine cw_region ?_
       refine rw_ev (ev_move rfl) rfl rfl rfl ?_
       refine rw_ev (ev_add rfl rfl (by omega)) rfl rfl rfl ?_
       refine rw_ev (ev_assign rfl) rfl rfl rfl ?_
       refine rw_nil ?_
       exact nw_round ((i + 1), true, true, decide ((c36.1 - ((boxC (setC raw)).1.1)) = (((boxC (setC raw)).1.2.2.1) - 1)), true) (Sub.cons rfl (Sub.cons rfl (Sub.cons rfl (Sub.cons rfl (Sub.cons rfl (Sub.cons rfl (Sub.int (b := ((i + 1) : Int)) rfl (by omega) Sub.nil))))))) ⟨K0, (Nat.le_trans z23 (Nat.le_trans zw34 (Nat.le_trans zw38 zw51))), f24, f25, f26, b53, (by first | omega | exact any_step_t (s := s0) (by assumption) (by assumption) (by assumption) | exact any_step_f (s := s0) (by assumption) (by assumption) (by assumption) | exact any_step_t (s := s1) (by assumption) (by assumption) (by assumption) | exact any_step_f (s := s1) (by assumption) (by assumption) (by assumption) | exact any_step_t (s := s2) (by assumption) (by assumption) (by assumption) | exact any_step_f (s := s2) (by assumption) (by assumption) (by assumption) | exact any_step_t (s := s3) (by assumption) (by assumption) (by assumption) | exact any_step_f (s := s3) (by assumption) (by assumption) (by assumption)), (by first | omega | exact any_step_t (s := s0) (by assumption) (by assumption) (by assumption) | exact any_step_f (s := s0) (by assumption) (by assumption) (by assumption) | exact any_step_t (s := s1) (by assumption) (by assumption) (by assumption) | exact any_step_f (s := s1) (by assumption) (by assumption) (by assumption) | exact any_step_t (s := s2) (by assumption) (by assumption) (by assumption) | exact any_step_f (s := s2) (by assumption) (by assumption) (by assumption) | exact any_step_t (s := s3) (by assumption) (by assumption) (by assumption) | exact any_step_f (s := s3) (by assumption) (by assumption) (by assumption)), (by first | omega | exact any_step_t (s := s0) (by assumption) (by assumption) (by assumption) | exact any_step_f (s := s0) (by assumption) (by assumption) (by assumption) | exact any_step_t (s := s1) (by assumption) (by assumption) (by assumption) | exact any_step_f (s := s1) (by assumption) (by assumption) (by assumption) | exact any_step_t (s := s2) (by assumption) (by assumption) (by assumption) | exact any_step_f (s := s2) (by assumption) (by assumption) (by assumption) | exact any_step_t (s := s3) (by assumption) (by assumption) (by assumption) | exact any_step_f (s := s3) (by assumption) (by assumption) (by assumption)), (by first | omega | exact any_step_t (s := s0) (by assumption) (by assumption) (by assumption) | exact any_step_f (s := s0) (by assumption) (by assumption) (by assumption) | exact any_step_t (s := s1) (by assumption) (by assumption) (by assumption) | exact any_step_f (s := s1) (by assumption) (by assumption) (by assumption) | exact any_step_t (s := s2) (by assumption) (by assumption) (by assumption) | exact any_step_f (s := s2) (by assumption) (by assumption) (by assumption) | exact any_step_t (s := s3) (by assumption) (by assumption) (by assumption) | exact any_step_f (s := s3) (by assumption) (by assumption) (by assumption)), (by first | omega | exact any_step_t (s := s0) (by assumption) (by assumption) (by assumption) | exact any_step_f (s := s0) (by assumption) (by assumption) (by assumption) | exact any_step_t (s := s1) (by assumption) (by assumption) (by assumption) | exact any_step_f (s := s1) (by assumption) (by assumption) (by assumption) | exact any_step_t (s := s2) (by assumption) (by assumption) (by assumption) | exact any_step_f (s := s2) (by assumption) (by assumption) (by assumption) | exact any_step_t (s := s3) (by assumption) (by assumption) (by assumption) | exact any_step_f (s := s3) (by assumption) (by assumption) (by assumption))⟩ (by first | omega | (dsimp only; omega))
      ·
       refine rw_ev (ev_move rfl) (gd_ff rfl h50) rfl rfl ?_
       refine rw_ev (v := .pointer (some ⟨g9, 3, none⟩)) (ev_field (o := 3) rfl foff_69_3) (gd_ff rfl h50) rfl rfl ?_
       refine rw_ev (v := .int .i64 ((boxC (setC raw)).1.2.2.2)) (ev_lb1 (off := 3) (fun _ h => h ▸ f26) rfl one_3 rfl) (gd_ff rfl h50) rfl rfl ?_
       refine rw_ev (ev_sub rfl rfl (by omega)) (gd_ff rfl h50) rfl rfl ?_
       refine rw_ev (ev_eq rfl rfl) (gd_ff rfl h50) rfl rfl ?_
       refine rw_ev (ev_pk_f rfl h50 rfl) rfl rfl rfl ?_
       refine rw_ev (v := .agg #[.bool true, .bool true, .bool (decide ((c36.1 - ((boxC (setC raw)).1.1)) = (((boxC (setC raw)).1.2.2.1) - 1))), .bool (decide ((c36.2 - ((boxC (setC raw)).1.2.1)) = (((boxC (setC raw)).1.2.2.2) - 1)))]) (ev_pure rfl rfl (fun _ => by kernel_rfl)) rfl rfl rfl ?_
       refine rw_none (op_store (off := 0) (v := .agg #[.bool true, .bool true, .bool (decide ((c36.1 - ((boxC (setC raw)).1.1)) = (((boxC (setC raw)).1.2.2.1) - 1))), .bool (decide ((c36.2 - ((boxC (setC raw)).1.2.1)) = (((boxC (setC raw)).1.2.2.2) - 1)))]) (cs' := #[.bool true, .bool true, .bool (decide ((c36.1 - ((boxC (setC raw)).1.1)) = (((boxC (setC raw)).1.2.2.1) - 1))), .bool (decide ((c36.2 - ((boxC (setC raw)).1.2.1)) = (((boxC (setC raw)).1.2.2.2) - 1)))]) f27 rfl rfl size_82 rfl (Nat.le_of_ble_eq_true rfl) (one_cons rfl (one_cons rfl (one_cons rfl (one_cons rfl one_nil)))) rfl) rfl rfl ?_
       rintro _ w54 ⟨k55, b56⟩
       replace K0 := Ex.kp_new K0 k55 (fun _ h => h ▸ Nat.le_trans (Nat.le_trans zw1 (Nat.le_trans zw4 (Nat.le_trans zw7 (Nat.le_trans zw10 zw14)))) hg19)
       replace f24 := f24.kp k55 (fun b h e => Nat.lt_irrefl _ (Nat.lt_of_lt_of_le (show g17 < _ from e ▸ (show b < _ from h)) (Nat.le_trans (Nat.le_trans zw1 (Nat.le_trans zw4 (Nat.le_trans zw7 (Nat.le_trans zw10 zw14)))) hg19)))
       replace f25 := f25.kp k55 (fun b h e => Nat.lt_irrefl _ (Nat.lt_of_lt_of_le (show g17 < _ from e ▸ (show b < _ from h.2)) (Nat.le_trans (Nat.le_trans zw7 (Nat.le_trans zw10 zw14)) hg19)))
       replace f26 := f26.kp k55 (Nat.ne_of_lt (Nat.lt_of_lt_of_le lg9 (Nat.le_trans zw14 hg19)))
       have zw54 := k55.size
       refine rw_nil ?_
       refine nw_block ?_
       refine nw_seq ?_
       refine cw_region ?_
       refine rw_ev (ev_move rfl) rfl rfl rfl ?_
       refine rw_ev (ev_add rfl rfl (by omega)) rfl rfl rfl ?_
       refine rw_ev (ev_assign rfl) rfl rfl rfl ?_
       refine rw_nil ?_
       exact nw_round ((i + 1), true, true, decide ((c36.1 - ((boxC (setC raw)).1.1)) = (((boxC (setC raw)).1.2.2.1) - 1)), decide ((c36.2 - ((boxC (setC raw)).1.2.1)) = (((boxC (setC raw)).1.2.2.2) - 1))) (Sub.cons rfl (Sub.cons rfl (Sub.cons rfl (Sub.cons rfl (Sub.cons rfl (Sub.cons rfl (Sub.int (b := ((i + 1) : Int)) rfl (by omega) Sub.nil))))))) ⟨K0, (Nat.le_trans z23 (Nat.le_trans zw34 (Nat.le_trans zw38 zw54))), f24, f25, f26, b56, (by first | omega | exact any_step_t (s := s0) (by assumption) (by assumption) (by assumption) | exact any_step_f (s := s0) (by assumption) (by assumption) (by assumption) | exact any_step_t (s := s1) (by assumption) (by assumption) (by assumption) | exact any_step_f (s := s1) (by assumption) (by assumption) (by assumption) | exact any_step_t (s := s2) (by assumption) (by assumption) (by assumption) | exact any_step_f (s := s2) (by assumption) (by assumption) (by assumption) | exact any_step_t (s := s3) (by assumption) (by assumption) (by assumption) | exact any_step_f (s := s3) (by assumption) (by assumption) (by assumption)), (by first | omega | exact any_step_t (s := s0) (by assumption) (by assumption) (by assumption) | exact any_step_f (s := s0) (by assumption) (by assumption) (by assumption) | exact any_step_t (s := s1) (by assumption) (by assumption) (by assumption) | exact any_step_f (s := s1) (by assumption) (by assumption) (by assumption) | exact any_step_t (s := s2) (by assumption) (by assumption) (by assumption) | exact any_step_f (s := s2) (by assumption) (by assumption) (by assumption) | exact any_step_t (s := s3) (by assumption) (by assumption) (by assumption) | exact any_step_f (s := s3) (by assumption) (by assumption) (by assumption)), (by first | omega | exact any_step_t (s := s0) (by assumption) (by assumption) (by assumption) | exact any_step_f (s := s0) (by assumption) (by assumption) (by assumption) | exact any_step_t (s := s1) (by assumption) (by assumption) (by assumption) | exact any_step_f (s := s1) (by assumption) (by assumption) (by assumption) | exact any_step_t (s := s2) (by assumption) (by assumption) (by assumption) | exact any_step_f (s := s2) (by assumption) (by assumption) (by assumption) | exact any_step_t (s := s3) (by assumption) (by assumption) (by assumption) | exact any_step_f (s := s3) (by assumption) (by assumption) (by assumption)), (by first | omega | exact any_step_t (s := s0) (by assumption) (by assumption) (by assumption) | exact any_step_f (s := s0) (by assumption) (by assumption) (by assumption) | exact any_step_t (s := s1) (by assumption) (by assumption) (by assumption) | exact any_step_f (s := s1) (by assumption) (by assumption) (by assumption) | exact any_step_t (s := s2) (by assumption) (by assumption) (by assumption) | exact any_step_f (s := s2) (by assumption) (by assumption) (by assumption) | exact any_step_t (s := s3) (by assumption) (by assumption) (by assumption) | exact any_step_f (s := s3) (by assumption) (by assumption) (by assumption)), (by first | omega | exact any_step_t (s := s0) (by assumption) (by assumption) (by assumption) | exact any_step_f (s := s0) (by assumption) (by assumption) (by assumption) | exact any_step_t (s := s1) (by assumption) (by assumption) (by assumption) | exact any_step_f (s := s1) (by assumption) (by assumption) (by assumption) | exact any_step_t (s := s2) (by assumption) (by assumption) (by assumption) | exact any_step_f (s := s2) (by assumption) (by assumption) (by assumption) | exact any_step_t (s := s3) (by assumption) (by assumption) (by assumption) | exact any_step_f (s := s3) (by assumption) (by assumption) (by assumption))⟩ (by first | omega | (dsimp only; omega))
    ·
     refine rw_ev (ev_move rfl) (gd_ff rfl h41) rfl rfl ?_
     refine rw_ev (ev_eq rfl rfl) (gd_ff rfl h41) rfl rfl ?_
     refine rw_ev (ev_pk_f rfl h41 rfl) rfl rfl rfl ?_
     refine rw_ev (v := .pointer (some ⟨g17, 2, none⟩)) (ev_arrAt (i := 2) (m := 4) (k := 1) rfl rfl arr_82 (by omega)) rfl rfl rfl ?_
     refine rw_ev (v := .bool s2) (ev_lb1 (off := 2) (fun _ h => h ▸ f27) rfl one_4 rfl) rfl rfl rfl ?_
     refine rw_ev (ev_move rfl) rfl rfl rfl ?_
     rcases Bool.eq_false_or_eq_true (s2) with h57 | h57
     ·
      refine rw_skip (gd_ft rfl h57) rfl rfl ?_
      refine rw_skip (gd_ft rfl h57) rfl rfl ?_
      refine rw_skip (gd_ft rfl h57) rfl rfl ?_
      refine rw_skip (gd_ft rfl h57) rfl rfl ?_
      refine rw_skip (gd_ft rfl h57) rfl rfl ?_
      refine rw_ev (ev_pk_t rfl h57 rfl) rfl rfl rfl ?_
      refine rw_ev (v := .pointer (some ⟨g17, 3, none⟩)) (ev_arrAt (i := 3) (m := 4) (k := 1) rfl rfl arr_82 (by omega)) rfl rfl rfl ?_
      refine rw_ev (v := .bool s3) (ev_lb1 (off := 3) (fun _ h => h ▸ f27) rfl one_4 rfl) rfl rfl rfl ?_
      refine rw_ev (ev_move rfl) rfl rfl rfl ?_
      rcases Bool.eq_false_or_eq_true (s3) with h58 | h58
      ·
       refine rw_skip (gd_ft rfl h58) rfl rfl ?_
       refine rw_skip (gd_ft rfl h58) rfl rfl ?_
       refine rw_skip (gd_ft rfl h58) rfl rfl ?_
       refine rw_skip (gd_ft rfl h58) rfl rfl ?_
       refine rw_skip (gd_ft rfl h58) rfl rfl ?_
       refine rw_ev (ev_pk_t rfl h58 rfl) rfl rfl rfl ?_
       refine rw_ev (v := .agg #[.bool true, .bool (decide ((c36.2 - ((boxC (setC raw)).1.2.1)) = 0)), .bool true, .bool true]) (ev_pure rfl rfl (fun _ => by kernel_rfl)) rfl rfl rfl ?_
       refine rw_none (op_store (off := 0) (v := .agg #[.bool true, .bool (decide ((c36.2 - ((boxC (setC raw)).1.2.1)) = 0)), .bool true, .bool true]) (cs' := #[.bool true, .bool (decide ((c36.2 - ((boxC (setC raw)).1.2.1)) = 0)), .bool true, .bool true]) f27 rfl rfl size_82 rfl (Nat.le_of_ble_eq_true rfl) (one_cons rfl (one_cons rfl (one_cons rfl (one_cons rfl one_nil)))) rfl) rfl rfl ?_
       rintro _ w59 ⟨k60, b61⟩
       replace K0 := Ex.kp_new K0 k60 (fun _ h => h ▸ Nat.le_trans (Nat.le_trans zw1 (Nat.le_trans zw4 (Nat.le_trans zw7 (Nat.le_trans zw10 zw14)))) hg19)
       replace f24 := f24.kp k60 (fun b h e => Nat.lt_irrefl _ (Nat.lt_of_lt_of_le (show g17 < _ from e ▸ (show b < _ from h)) (Nat.le_trans (Nat.le_trans zw1 (Nat.le_trans zw4 (Nat.le_trans zw7 (Nat.le_trans zw10 zw14)))) hg19)))
       replace f25 := f25.kp k60 (fun b h e => Nat.lt_irrefl _ (Nat.lt_of_lt_of_le (show g17 < _ from e ▸ (show b < _ from h.2)) (Nat.le_trans (Nat.le_trans zw7 (Nat.le_trans zw10 zw14)) hg19)))
       replace f26 := f26.kp k60 (Nat.ne_of_lt (Nat.lt_of_lt_of_le lg9 (Nat.le_trans zw14 hg19)))
       have zw59 := k60.size
       refine rw_nil ?_
       refine nw_block ?_
       refine nw_seq ?_
       refine cw_region ?_
       refine rw_ev (ev_move rfl) rfl rfl rfl ?_
       refine rw_ev (ev_add rfl rfl (by omega)) rfl rfl rfl ?_
       refine rw_ev (ev_assign rfl) rfl rfl rfl ?_
       refine rw_nil ?_
       exact nw_round ((i + 1), true, decide ((c36.2 - ((boxC (setC raw)).1.2.1)) = 0), true, true) (Sub.cons rfl (Sub.cons rfl (Sub.cons rfl (Sub.cons rfl (Sub.cons rfl (Sub.cons rfl (Sub.int (b := ((i + 1) : Int)) rfl (by omega) Sub.nil))))))) ⟨K0, (Nat.le_trans z23 (Nat.le_trans zw34 (Nat.le_trans zw38 zw59))), f24, f25, f26, b61, (by first | omega | exact any_step_t (s := s0) (by assumption) (by assumption) (by assumption) | exact any_step_f (s := s0) (by assumption) (by assumption) (by assumption) | exact any_step_t (s := s1) (by assumption) (by assumption) (by assumption) | exact any_step_f (s := s1) (by assumption) (by assumption) (by assumption) | exact any_step_t (s := s2) (by assumption) (by assumption) (by assumption) | exact any_step_f (s := s2) (by assumption) (by assumption) (by assumption) | exact any_step_t (s := s3) (by assumption) (by assumption) (by assumption) | exact any_step_f (s := s3) (by assumption) (by assumption) (by assumption)), (by first | omega | exact any_step_t (s := s0) (by assumption) (by assumption) (by assumption) | exact any_step_f (s := s0) (by assumption) (by assumption) (by assumption) | exact any_step_t (s := s1) (by assumption) (by assumption) (by assumption) | exact any_step_f (s := s1) (by assumption) (by assumption) (by assumption) | exact any_step_t (s := s2) (by assumption) (by assumption) (by assumption) | exact any_step_f (s := s2) (by assumption) (by assumption) (by assumption) | exact any_step_t (s := s3) (by assumption) (by assumption) (by assumption) | exact any_step_f (s := s3) (by assumption) (by assumption) (by assumption)), (by first | omega | exact any_step_t (s := s0) (by assumption) (by assumption) (by assumption) | exact any_step_f (s := s0) (by assumption) (by assumption) (by assumption) | exact any_step_t (s := s1) (by assumption) (by assumption) (by assumption) | exact any_step_f (s := s1) (by assumption) (by assumption) (by assumption) | exact any_step_t (s := s2) (by assumption) (by assumption) (by assumption) | exact any_step_f (s := s2) (by assumption) (by assumption) (by assumption) | exact any_step_t (s := s3) (by assumption) (by assumption) (by assumption) | exact any_step_f (s := s3) (by assumption) (by assumption) (by assumption)), (by first | omega | exact any_step_t (s := s0) (by assumption) (by assumption) (by assumption) | exact any_step_f (s := s0) (by assumption) (by assumption) (by assumption) | exact any_step_t (s := s1) (by assumption) (by assumption) (by assumption) | exact any_step_f (s := s1) (by assumption) (by assumption) (by assumption) | exact any_step_t (s := s2) (by assumption) (by assumption) (by assumption) | exact any_step_f (s := s2) (by assumption) (by assumption) (by assumption) | exact any_step_t (s := s3) (by assumption) (by assumption) (by assumption) | exact any_step_f (s := s3) (by assumption) (by assumption) (by assumption)), (by first | omega | exact any_step_t (s := s0) (by assumption) (by assumption) (by assumption) | exact any_step_f (s := s0) (by assumption) (by assumption) (by assumption) | exact any_step_t (s := s1) (by assumption) (by assumption) (by assumption) | exact any_step_f (s := s1) (by assumption) (by assumption) (by assumption) | exact any_step_t (s := s2) (by assumption) (by assumption) (by assumption) | exact any_step_f (s := s2) (by assumption) (by assumption) (by assumption) | exact any_step_t (s := s3) (by assumption) (by assumption) (by assumption) | exact any_step_f (s := s3) (by assumption) (by assumption) (by assumption))⟩ (by first | omega | (dsimp only; omega))
      ·
       refine rw_ev (ev_move rfl) (gd_ff rfl h58) rfl rfl ?_
       refine rw_ev (v := .pointer (some ⟨g9, 3, none⟩)) (ev_field (o := 3) rfl foff_69_3) (gd_ff rfl h58) rfl rfl ?_
       refine rw_ev (v := .int .i64 ((boxC (setC raw)).1.2.2.2)) (ev_lb1 (off := 3) (fun _ h => h ▸ f26) rfl one_3 rfl) (gd_ff rfl h58) rfl rfl ?_
       refine rw_ev (ev_sub rfl rfl (by omega)) (gd_ff rfl h58) rfl rfl ?_
       refine rw_ev (ev_eq rfl rfl) (gd_ff rfl h58) rfl rfl ?_
       refine rw_ev (ev_pk_f rfl h58 rfl) rfl rfl rfl ?_
       refine rw_ev (v := .agg #[.bool true, .bool (decide ((c36.2 - ((boxC (setC raw)).1.2.1)) = 0)), .bool true, .bool (decide ((c36.2 - ((boxC (setC raw)).1.2.1)) = (((boxC (setC raw)).1.2.2.2) - 1)))]) (ev_pure rfl rfl (fun _ => by kernel_rfl)) rfl rfl rfl ?_
       refine rw_none (op_store (off := 0) (v := .agg #[.bool true, .bool (decide ((c36.2 - ((boxC (setC raw)).1.2.1)) = 0)), .bool true, .bool (decide ((c36.2 - ((boxC (setC raw)).1.2.1)) = (((boxC (setC raw)).1.2.2.2) - 1)))]) (cs' := #[.bool true, .bool (decide ((c36.2 - ((boxC (setC raw)).1.2.1)) = 0)), .bool true, .bool (decide ((c36.2 - ((boxC (setC raw)).1.2.1)) = (((boxC (setC raw)).1.2.2.2) - 1)))]) f27 rfl rfl size_82 rfl (Nat.le_of_ble_eq_true rfl) (one_cons rfl (one_cons rfl (one_cons rfl (one_cons rfl one_nil)))) rfl) rfl rfl ?_
       rintro _ w62 ⟨k63, b64⟩
       replace K0 := Ex.kp_new K0 k63 (fun _ h => h ▸ Nat.le_trans (Nat.le_trans zw1 (Nat.le_trans zw4 (Nat.le_trans zw7 (Nat.le_trans zw10 zw14)))) hg19)
       replace f24 := f24.kp k63 (fun b h e => Nat.lt_irrefl _ (Nat.lt_of_lt_of_le (show g17 < _ from e ▸ (show b < _ from h)) (Nat.le_trans (Nat.le_trans zw1 (Nat.le_trans zw4 (Nat.le_trans zw7 (Nat.le_trans zw10 zw14)))) hg19)))
       replace f25 := f25.kp k63 (fun b h e => Nat.lt_irrefl _ (Nat.lt_of_lt_of_le (show g17 < _ from e ▸ (show b < _ from h.2)) (Nat.le_trans (Nat.le_trans zw7 (Nat.le_trans zw10 zw14)) hg19)))
       replace f26 := f26.kp k63 (Nat.ne_of_lt (Nat.lt_of_lt_of_le lg9 (Nat.le_trans zw14 hg19)))
       have zw62 := k63.size
       refine rw_nil ?_
       refine nw_block ?_
       refine nw_seq ?_
       refine cw_region ?_
       refine rw_ev (ev_move rfl) rfl rfl rfl ?_
       refine rw_ev (ev_add rfl rfl (by omega)) rfl rfl rfl ?_
       refine rw_ev (ev_assign rfl) rfl rfl rfl ?_
       refine rw_nil ?_
       exact nw_round ((i + 1), true, decide ((c36.2 - ((boxC (setC raw)).1.2.1)) = 0), true, decide ((c36.2 - ((boxC (setC raw)).1.2.1)) = (((boxC (setC raw)).1.2.2.2) - 1))) (Sub.cons rfl (Sub.cons rfl (Sub.cons rfl (Sub.cons rfl (Sub.cons rfl (Sub.cons rfl (Sub.int (b := ((i + 1) : Int)) rfl (by omega) Sub.nil))))))) ⟨K0, (Nat.le_trans z23 (Nat.le_trans zw34 (Nat.le_trans zw38 zw62))), f24, f25, f26, b64, (by first | omega | exact any_step_t (s := s0) (by assumption) (by assumption) (by assumption) | exact any_step_f (s := s0) (by assumption) (by assumption) (by assumption) | exact any_step_t (s := s1) (by assumption) (by assumption) (by assumption) | exact any_step_f (s := s1) (by assumption) (by assumption) (by assumption) | exact any_step_t (s := s2) (by assumption) (by assumption) (by assumption) | exact any_step_f (s := s2) (by assumption) (by assumption) (by assumption) | exact any_step_t (s := s3) (by assumption) (by assumption) (by assumption) | exact any_step_f (s := s3) (by assumption) (by assumption) (by assumption)), (by first | omega | exact any_step_t (s := s0) (by assumption) (by assumption) (by assumption) | exact any_step_f (s := s0) (by assumption) (by assumption) (by assumption) | exact any_step_t (s := s1) (by assumption) (by assumption) (by assumption) | exact any_step_f (s := s1) (by assumption) (by assumption) (by assumption) | exact any_step_t (s := s2) (by assumption) (by assumption) (by assumption) | exact any_step_f (s := s2) (by assumption) (by assumption) (by assumption) | exact any_step_t (s := s3) (by assumption) (by assumption) (by assumption) | exact any_step_f (s := s3) (by assumption) (by assumption) (by assumption)), (by first | omega | exact any_step_t (s := s0) (by assumption) (by assumption) (by assumption) | exact any_step_f (s := s0) (by assumption) (by assumption) (by assumption) | exact any_step_t (s := s1) (by assumption) (by assumption) (by assumption) | exact any_step_f (s := s1) (by assumption) (by assumption) (by assumption) | exact any_step_t (s := s2) (by assumption) (by assumption) (by assumption) | exact any_step_f (s := s2) (by assumption) (by assumption) (by assumption) | exact any_step_t (s := s3) (by assumption) (by assumption) (by assumption) | exact any_step_f (s := s3) (by assumption) (by assumption) (by assumption)), (by first | omega | exact any_step_t (s := s0) (by assumption) (by assumption) (by assumption) | exact any_step_f (s := s0) (by assumption) (by assumption) (by assumption) | exact any_step_t (s := s1) (by assumption) (by assumption) (by assumption) | exact any_step_f (s := s1) (by assumption) (by assumption) (by assumption) | exact any_step_t (s := s2) (by assumption) (by assumption) (by assumption) | exact any_step_f (s := s2) (by assumption) (by assumption) (by assumption) | exact any_step_t (s := s3) (by assumption) (by assumption) (by assumption) | exact any_step_f (s := s3) (by assumption) (by assumption) (by assumption)), (by first | omega | exact any_step_t (s := s0) (by assumption) (by assumption) (by assumption) | exact any_step_f (s := s0) (by assumption) (by assumption) (by assumption) | exact any_step_t (s := s1) (by assumption) (by assumption) (by assumption) | exact any_step_f (s := s1) (by assumption) (by assumption) (by assumption) | exact any_step_t (s := s2) (by assumption) (by assumption) (by assumption) | exact any_step_f (s := s2) (by assumption) (by assumption) (by assumption) | exact any_step_t (s := s3) (by assumption) (by assumption) (by assumption) | exact any_step_f (s := s3) (by assumption) (by assumption) (by assumption))⟩ (by first | omega | (dsimp only; omega))
     ·
      refine rw_ev (ev_move rfl) (gd_ff rfl h57) rfl rfl ?_
      refine rw_ev (v := .pointer (some ⟨g9, 2, none⟩)) (ev_field (o := 2) rfl foff_69_2) (gd_ff rfl h57) rfl rfl ?_
      refine rw_ev (v := .int .i64 ((boxC (setC raw)).1.2.2.1)) (ev_lb1 (off := 2) (fun _ h => h ▸ f26) rfl one_3 rfl) (gd_ff rfl h57) rfl rfl ?_
      refine rw_ev (ev_sub rfl rfl (by omega)) (gd_ff rfl h57) rfl rfl ?_
      refine rw_ev (ev_eq rfl rfl) (gd_ff rfl h57) rfl rfl ?_
      refine rw_ev (ev_pk_f rfl h57 rfl) rfl rfl rfl ?_
      refine rw_ev (v := .pointer (some ⟨g17, 3, none⟩)) (ev_arrAt (i := 3) (m := 4) (k := 1) rfl rfl arr_82 (by omega)) rfl rfl rfl ?_
      refine rw_ev (v := .bool s3) (ev_lb1 (off := 3) (fun _ h => h ▸ f27) rfl one_4 rfl) rfl rfl rfl ?_
      refine rw_ev (ev_move rfl) rfl rfl rfl ?_
      rcases Bool.eq_false_or_eq_true (s3) with h65 | h65
      ·
       refine rw_skip (gd_ft rfl h65) rfl rfl ?_
       refine rw_skip (gd_ft rfl h65) rfl rfl ?_
       refine rw_skip (gd_ft rfl h65) rfl rfl ?_
       refine rw_skip (gd_ft rfl h65) rfl rfl ?_
       refine rw_skip (gd_ft rfl h65) rfl rfl ?_
       refine rw_ev (ev_pk_t rfl h65 rfl) rfl rfl rfl ?_
       refine rw_ev (v := .agg #[.bool true, .bool (decide ((c36.2 - ((boxC (setC raw)).1.2.1)) = 0)), .bool (decide ((c36.1 - ((boxC (setC raw)).1.1)) = (((boxC (setC raw)).1.2.2.1) - 1))), .bool true]) (ev_pure rfl rfl (fun _ => by kernel_rfl)) rfl rfl rfl ?_
       refine rw_none (op_store (off := 0) (v := .agg #[.bool true, .bool (decide ((c36.2 - ((boxC (setC raw)).1.2.1)) = 0)), .bool (decide ((c36.1 - ((boxC (setC raw)).1.1)) = (((boxC (setC raw)).1.2.2.1) - 1))), .bool true]) (cs' := #[.bool true, .bool (decide ((c36.2 - ((boxC (setC raw)).1.2.1)) = 0)), .bool (decide ((c36.1 - ((boxC (setC raw)).1.1)) = (((boxC (setC raw)).1.2.2.1) - 1))), .bool true]) f27 rfl rfl size_82 rfl (Nat.le_of_ble_eq_true rfl) (one_cons rfl (one_cons rfl (one_cons rfl (one_cons rfl one_nil)))) rfl) rfl rfl ?_
       rintro _ w66 ⟨k67, b68⟩
       replace K0 := Ex.kp_new K0 k67 (fun _ h => h ▸ Nat.le_trans (Nat.le_trans zw1 (Nat.le_trans zw4 (Nat.le_trans zw7 (Nat.le_trans zw10 zw14)))) hg19)
       replace f24 := f24.kp k67 (fun b h e => Nat.lt_irrefl _ (Nat.lt_of_lt_of_le (show g17 < _ from e ▸ (show b < _ from h)) (Nat.le_trans (Nat.le_trans zw1 (Nat.le_trans zw4 (Nat.le_trans zw7 (Nat.le_trans zw10 zw14)))) hg19)))
       replace f25 := f25.kp k67 (fun b h e => Nat.lt_irrefl _ (Nat.lt_of_lt_of_le (show g17 < _ from e ▸ (show b < _ from h.2)) (Nat.le_trans (Nat.le_trans zw7 (Nat.le_trans zw10 zw14)) hg19)))
       replace f26 := f26.kp k67 (Nat.ne_of_lt (Nat.lt_of_lt_of_le lg9 (Nat.le_trans zw14 hg19)))
       have zw66 := k67.size
       refine rw_nil ?_
       refine nw_block ?_
       refine nw_seq ?_
       refine cw_region ?_
       refine rw_ev (ev_move rfl) rfl rfl rfl ?_
       refine rw_ev (ev_add rfl rfl (by omega)) rfl rfl rfl ?_
       refine rw_ev (ev_assign rfl) rfl rfl rfl ?_
       refine rw_nil ?_
       exact nw_round ((i + 1), true, decide ((c36.2 - ((boxC (setC raw)).1.2.1)) = 0), decide ((c36.1 - ((boxC (setC raw)).1.1)) = (((boxC (setC raw)).1.2.2.1) - 1)), true) (Sub.cons rfl (Sub.cons rfl (Sub.cons rfl (Sub.cons rfl (Sub.cons rfl (Sub.cons rfl (Sub.int (b := ((i + 1) : Int)) rfl (by omega) Sub.nil))))))) ⟨K0, (Nat.le_trans z23 (Nat.le_trans zw34 (Nat.le_trans zw38 zw66))), f24, f25, f26, b68, (by first | omega | exact any_step_t (s := s0) (by assumption) (by assumption) (by assumption) | exact any_step_f (s := s0) (by assumption) (by assumption) (by assumption) | exact any_step_t (s := s1) (by assumption) (by assumption) (by assumption) | exact any_step_f (s := s1) (by assumption) (by assumption) (by assumption) | exact any_step_t (s := s2) (by assumption) (by assumption) (by assumption) | exact any_step_f (s := s2) (by assumption) (by assumption) (by assumption) | exact any_step_t (s := s3) (by assumption) (by assumption) (by assumption) | exact any_step_f (s := s3) (by assumption) (by assumption) (by assumption)), (by first | omega | exact any_step_t (s := s0) (by assumption) (by assumption) (by assumption) | exact any_step_f (s := s0) (by assumption) (by assumption) (by assumption) | exact any_step_t (s := s1) (by assumption) (by assumption) (by assumption) | exact any_step_f (s := s1) (by assumption) (by assumption) (by assumption) | exact any_step_t (s := s2) (by assumption) (by assumption) (by assumption) | exact any_step_f (s := s2) (by assumption) (by assumption) (by assumption) | exact any_step_t (s := s3) (by assumption) (by assumption) (by assumption) | exact any_step_f (s := s3) (by assumption) (by assumption) (by assumption)), (by first | omega | exact any_step_t (s := s0) (by assumption) (by assumption) (by assumption) | exact any_step_f (s := s0) (by assumption) (by assumption) (by assumption) | exact any_step_t (s := s1) (by assumption) (by assumption) (by assumption) | exact any_step_f (s := s1) (by assumption) (by assumption) (by assumption) | exact any_step_t (s := s2) (by assumption) (by assumption) (by assumption) | exact any_step_f (s := s2) (by assumption) (by assumption) (by assumption) | exact any_step_t (s := s3) (by assumption) (by assumption) (by assumption) | exact any_step_f (s := s3) (by assumption) (by assumption) (by assumption)), (by first | omega | exact any_step_t (s := s0) (by assumption) (by assumption) (by assumption) | exact any_step_f (s := s0) (by assumption) (by assumption) (by assumption) | exact any_step_t (s := s1) (by assumption) (by assumption) (by assumption) | exact any_step_f (s := s1) (by assumption) (by assumption) (by assumption) | exact any_step_t (s := s2) (by assumption) (by assumption) (by assumption) | exact any_step_f (s := s2) (by assumption) (by assumption) (by assumption) | exact any_step_t (s := s3) (by assumption) (by assumption) (by assumption) | exact any_step_f (s := s3) (by assumption) (by assumption) (by assumption)), (by first | omega | exact any_step_t (s := s0) (by assumption) (by assumption) (by assumption) | exact any_step_f (s := s0) (by assumption) (by assumption) (by assumption) | exact any_step_t (s := s1) (by assumption) (by assumption) (by assumption) | exact any_step_f (s := s1) (by assumption) (by assumption) (by assumption) | exact any_step_t (s := s2) (by assumption) (by assumption) (by assumption) | exact any_step_f (s := s2) (by assumption) (by assumption) (by assumption) | exact any_step_t (s := s3) (by assumption) (by assumption) (by assumption) | exact any_step_f (s := s3) (by assumption) (by assumption) (by assumption))⟩ (by first | omega | (dsimp only; omega))
      ·
       refine rw_ev (ev_move rfl) (gd_ff rfl h65) rfl rfl ?_
       refine rw_ev (v := .pointer (some ⟨g9, 3, none⟩)) (ev_field (o := 3) rfl foff_69_3) (gd_ff rfl h65) rfl rfl ?_
       refine rw_ev (v := .int .i64 ((boxC (setC raw)).1.2.2.2)) (ev_lb1 (off := 3) (fun _ h => h ▸ f26) rfl one_3 rfl) (gd_ff rfl h65) rfl rfl ?_
       refine rw_ev (ev_sub rfl rfl (by omega)) (gd_ff rfl h65) rfl rfl ?_
       refine rw_ev (ev_eq rfl rfl) (gd_ff rfl h65) rfl rfl ?_
       refine rw_ev (ev_pk_f rfl h65 rfl) rfl rfl rfl ?_
       refine rw_ev (v := .agg #[.bool true, .bool (decide ((c36.2 - ((boxC (setC raw)).1.2.1)) = 0)), .bool (decide ((c36.1 - ((boxC (setC raw)).1.1)) = (((boxC (setC raw)).1.2.2.1) - 1))), .bool (decide ((c36.2 - ((boxC (setC raw)).1.2.1)) = (((boxC (setC raw)).1.2.2.2) - 1)))]) (ev_pure rfl rfl (fun _ => by kernel_rfl)) rfl rfl rfl ?_
       refine rw_none (op_store (off := 0) (v := .agg #[.bool true, .bool (decide ((c36.2 - ((boxC (setC raw)).1.2.1)) = 0)), .bool (decide ((c36.1 - ((boxC (setC raw)).1.1)) = (((boxC (setC raw)).1.2.2.1) - 1))), .bool (decide ((c36.2 - ((boxC (setC raw)).1.2.1)) = (((boxC (setC raw)).1.2.2.2) - 1)))]) (cs' := #[.bool true, .bool (decide ((c36.2 - ((boxC (setC raw)).1.2.1)) = 0)), .bool (decide ((c36.1 - ((boxC (setC raw)).1.1)) = (((boxC (setC raw)).1.2.2.1) - 1))), .bool (decide ((c36.2 - ((boxC (setC raw)).1.2.1)) = (((boxC (setC raw)).1.2.2.2) - 1)))]) f27 rfl rfl size_82 rfl (Nat.le_of_ble_eq_true rfl) (one_cons rfl (one_cons rfl (one_cons rfl (one_cons rfl one_nil)))) rfl) rfl rfl ?_
       rintro _ w69 ⟨k70, b71⟩
       replace K0 := Ex.kp_new K0 k70 (fun _ h => h ▸ Nat.le_trans (Nat.le_trans zw1 (Nat.le_trans zw4 (Nat.le_trans zw7 (Nat.le_trans zw10 zw14)))) hg19)
       replace f24 := f24.kp k70 (fun b h e => Nat.lt_irrefl _ (Nat.lt_of_lt_of_le (show g17 < _ from e ▸ (show b < _ from h)) (Nat.le_trans (Nat.le_trans zw1 (Nat.le_trans zw4 (Nat.le_trans zw7 (Nat.le_trans zw10 zw14)))) hg19)))
       replace f25 := f25.kp k70 (fun b h e => Nat.lt_irrefl _ (Nat.lt_of_lt_of_le (show g17 < _ from e ▸ (show b < _ from h.2)) (Nat.le_trans (Nat.le_trans zw7 (Nat.le_trans zw10 zw14)) hg19)))
       replace f26 := f26.kp k70 (Nat.ne_of_lt (Nat.lt_of_lt_of_le lg9 (Nat.le_trans zw14 hg19)))
       have zw69 := k70.size
       refine rw_nil ?_
       refine nw_block ?_
       refine nw_seq ?_
       refine cw_region ?_
       refine rw_ev (ev_move rfl) rfl rfl rfl ?_
       refine rw_ev (ev_add rfl rfl (by omega)) rfl rfl rfl ?_
       refine rw_ev (ev_assign rfl) rfl rfl rfl ?_
       refine rw_nil ?_
       exact nw_round ((i + 1), true, decide ((c36.2 - ((boxC (setC raw)).1.2.1)) = 0), decide ((c36.1 - ((boxC (setC raw)).1.1)) = (((boxC (setC raw)).1.2.2.1) - 1)), decide ((c36.2 - ((boxC (setC raw)).1.2.1)) = (((boxC (setC raw)).1.2.2.2) - 1))) (Sub.cons rfl (Sub.cons rfl (Sub.cons rfl (Sub.cons rfl (Sub.cons rfl (Sub.cons rfl (Sub.int (b := ((i + 1) : Int)) rfl (by omega) Sub.nil))))))) ⟨K0, (Nat.le_trans z23 (Nat.le_trans zw34 (Nat.le_trans zw38 zw69))), f24, f25, f26, b71, (by first | omega | exact any_step_t (s := s0) (by assumption) (by assumption) (by assumption) | exact any_step_f (s := s0) (by assumption) (by assumption) (by assumption) | exact any_step_t (s := s1) (by assumption) (by assumption) (by assumption) | exact any_step_f (s := s1) (by assumption) (by assumption) (by assumption) | exact any_step_t (s := s2) (by assumption) (by assumption) (by assumption) | exact any_step_f (s := s2) (by assumption) (by assumption) (by assumption) | exact any_step_t (s := s3) (by assumption) (by assumption) (by assumption) | exact any_step_f (s := s3) (by assumption) (by assumption) (by assumption)), (by first | omega | exact any_step_t (s := s0) (by assumption) (by assumption) (by assumption) | exact any_step_f (s := s0) (by assumption) (by assumption) (by assumption) | exact any_step_t (s := s1) (by assumption) (by assumption) (by assumption) | exact any_step_f (s := s1) (by assumption) (by assumption) (by assumption) | exact any_step_t (s := s2) (by assumption) (by assumption) (by assumption) | exact any_step_f (s := s2) (by assumption) (by assumption) (by assumption) | exact any_step_t (s := s3) (by assumption) (by assumption) (by assumption) | exact any_step_f (s := s3) (by assumption) (by assumption) (by assumption)), (by first | omega | exact any_step_t (s := s0) (by assumption) (by assumption) (by assumption) | exact any_step_f (s := s0) (by assumption) (by assumption) (by assumption) | exact any_step_t (s := s1) (by assumption) (by assumption) (by assumption) | exact any_step_f (s := s1) (by assumption) (by assumption) (by assumption) | exact any_step_t (s := s2) (by assumption) (by assumption) (by assumption) | exact any_step_f (s := s2) (by assumption) (by assumption) (by assumption) | exact any_step_t (s := s3) (by assumption) (by assumption) (by assumption) | exact any_step_f (s := s3) (by assumption) (by assumption) (by assumption)), (by first | omega | exact any_step_t (s := s0) (by assumption) (by assumption) (by assumption) | exact any_step_f (s := s0) (by assumption) (by assumption) (by assumption) | exact any_step_t (s := s1) (by assumption) (by assumption) (by assumption) | exact any_step_f (s := s1) (by assumption) (by assumption) (by assumption) | exact any_step_t (s := s2) (by assumption) (by assumption) (by assumption) | exact any_step_f (s := s2) (by assumption) (by assumption) (by assumption) | exact any_step_t (s := s3) (by assumption) (by assumption) (by assumption) | exact any_step_f (s := s3) (by assumption) (by assumption) (by assumption)), (by first | omega | exact any_step_t (s := s0) (by assumption) (by assumption) (by assumption) | exact any_step_f (s := s0) (by assumption) (by assumption) (by assumption) | exact any_step_t (s := s1) (by assumption) (by assumption) (by assumption) | exact any_step_f (s := s1) (by assumption) (by assumption) (by assumption) | exact any_step_t (s := s2) (by assumption) (by assumption) (by assumption) | exact any_step_f (s := s2) (by assumption) (by assumption) (by assumption) | exact any_step_t (s := s3) (by assumption) (by assumption) (by assumption) | exact any_step_f (s := s3) (by assumption) (by assumption) (by assumption))⟩ (by first | omega | (dsimp only; omega))
   ·
    refine rw_ev (ev_move rfl) (gd_ff rfl h40) rfl rfl ?_
    refine rw_ev (ev_eq rfl rfl) (gd_ff rfl h40) rfl rfl ?_
    refine rw_ev (ev_pk_f rfl h40 rfl) rfl rfl rfl ?_
    refine rw_ev (v := .pointer (some ⟨g17, 1, none⟩)) (ev_arrAt (i := 1) (m := 4) (k := 1) rfl rfl arr_82 (by omega)) rfl rfl rfl ?_
    refine rw_ev (v := .bool s1) (ev_lb1 (off := 1) (fun _ h => h ▸ f27) rfl one_4 rfl) rfl rfl rfl ?_
    refine rw_ev (ev_move rfl) rfl rfl rfl ?_
    rcases Bool.eq_false_or_eq_true (s1) with h72 | h72
    ·
     refine rw_skip (gd_ft rfl h72) rfl rfl ?_
     refine rw_skip (gd_ft rfl h72) rfl rfl ?_
     refine rw_ev (ev_pk_t rfl h72 rfl) rfl rfl rfl ?_
     refine rw_ev (v := .pointer (some ⟨g17, 2, none⟩)) (ev_arrAt (i := 2) (m := 4) (k := 1) rfl rfl arr_82 (by omega)) rfl rfl rfl ?_
     refine rw_ev (v := .bool s2) (ev_lb1 (off := 2) (fun _ h => h ▸ f27) rfl one_4 rfl) rfl rfl rfl ?_
     refine rw_ev (ev_move rfl) rfl rfl rfl ?_
     rcases Bool.eq_false_or_eq_true (s2) with h73 | h73
     ·
      refine rw_skip (gd_ft rfl h73) rfl rfl ?_
      refine rw_skip (gd_ft rfl h73) rfl rfl ?_
      refine rw_skip (gd_ft rfl h73) rfl rfl ?_
      refine rw_skip (gd_ft rfl h73) rfl rfl ?_
      refine rw_skip (gd_ft rfl h73) rfl rfl ?_
      refine rw_ev (ev_pk_t rfl h73 rfl) rfl rfl rfl ?_
      refine rw_ev (v := .pointer (some ⟨g17, 3, none⟩)) (ev_arrAt (i := 3) (m := 4) (k := 1) rfl rfl arr_82 (by omega)) rfl rfl rfl ?_
      refine rw_ev (v := .bool s3) (ev_lb1 (off := 3) (fun _ h => h ▸ f27) rfl one_4 rfl) rfl rfl rfl ?_
      refine rw_ev (ev_move rfl) rfl rfl rfl ?_
      rcases Bool.eq_false_or_eq_true (s3) with h74 | h74
      ·
       refine rw_skip (gd_ft rfl h74) rfl rfl ?_
       refine rw_skip (gd_ft rfl h74) rfl rfl ?_
       refine rw_skip (gd_ft rfl h74) rfl rfl ?_
       refine rw_skip (gd_ft rfl h74) rfl rfl ?_
       refine rw_skip (gd_ft rfl h74) rfl rfl ?_
       refine rw_ev (ev_pk_t rfl h74 rfl) rfl rfl rfl ?_
       refine rw_ev (v := .agg #[.bool (decide ((c36.1 - ((boxC (setC raw)).1.1)) = 0)), .bool true, .bool true, .bool true]) (ev_pure rfl rfl (fun _ => by kernel_rfl)) rfl rfl rfl ?_
       refine rw_none (op_store (off := 0) (v := .agg #[.bool (decide ((c36.1 - ((boxC (setC raw)).1.1)) = 0)), .bool true, .bool true, .bool true]) (cs' := #[.bool (decide ((c36.1 - ((boxC (setC raw)).1.1)) = 0)), .bool true, .bool true, .bool true]) f27 rfl rfl size_82 rfl (Nat.le_of_ble_eq_true rfl) (one_cons rfl (one_cons rfl (one_cons rfl (one_cons rfl one_nil)))) rfl) rfl rfl ?_
       rintro _ w75 ⟨k76, b77⟩
       replace K0 := Ex.kp_new K0 k76 (fun _ h => h ▸ Nat.le_trans (Nat.le_trans zw1 (Nat.le_trans zw4 (Nat.le_trans zw7 (Nat.le_trans zw10 zw14)))) hg19)
       replace f24 := f24.kp k76 (fun b h e => Nat.lt_irrefl _ (Nat.lt_of_lt_of_le (show g17 < _ from e ▸ (show b < _ from h)) (Nat.le_trans (Nat.le_trans zw1 (Nat.le_trans zw4 (Nat.le_trans zw7 (Nat.le_trans zw10 zw14)))) hg19)))
       replace f25 := f25.kp k76 (fun b h e => Nat.lt_irrefl _ (Nat.lt_of_lt_of_le (show g17 < _ from e ▸ (show b < _ from h.2)) (Nat.le_trans (Nat.le_trans zw7 (Nat.le_trans zw10 zw14)) hg19)))
       replace f26 := f26.kp k76 (Nat.ne_of_lt (Nat.lt_of_lt_of_le lg9 (Nat.le_trans zw14 hg19)))
       have zw75 := k76.size
       refine rw_nil ?_
       refine nw_block ?_
       refine nw_seq ?_
       refine cw_region ?_
       refine rw_ev (ev_move rfl) rfl rfl rfl ?_
       refine rw_ev (ev_add rfl rfl (by omega)) rfl rfl rfl ?_
       refine rw_ev (ev_assign rfl) rfl rfl rfl ?_
       refine rw_nil ?_
       exact nw_round ((i + 1), decide ((c36.1 - ((boxC (setC raw)).1.1)) = 0), true, true, true) (Sub.cons rfl (Sub.cons rfl (Sub.cons rfl (Sub.cons rfl (Sub.cons rfl (Sub.cons rfl (Sub.int (b := ((i + 1) : Int)) rfl (by omega) Sub.nil))))))) ⟨K0, (Nat.le_trans z23 (Nat.le_trans zw34 (Nat.le_trans zw38 zw75))), f24, f25, f26, b77, (by first | omega | exact any_step_t (s := s0) (by assumption) (by assumption) (by assumption) | exact any_step_f (s := s0) (by assumption) (by assumption) (by assumption) | exact any_step_t (s := s1) (by assumption) (by assumption) (by assumption) | exact any_step_f (s := s1) (by assumption) (by assumption) (by assumption) | exact any_step_t (s := s2) (by assumption) (by assumption) (by assumption) | exact any_step_f (s := s2) (by assumption) (by assumption) (by assumption) | exact any_step_t (s := s3) (by assumption) (by assumption) (by assumption) | exact any_step_f (s := s3) (by assumption) (by assumption) (by assumption)), (by first | omega | exact any_step_t (s := s0) (by assumption) (by assumption) (by assumption) | exact any_step_f (s := s0) (by assumption) (by assumption) (by assumption) | exact any_step_t (s := s1) (by assumption) (by assumption) (by assumption) | exact any_step_f (s := s1) (by assumption) (by assumption) (by assumption) | exact any_step_t (s := s2) (by assumption) (by assumption) (by assumption) | exact any_step_f (s := s2) (by assumption) (by assumption) (by assumption) | exact any_step_t (s := s3) (by assumption) (by assumption) (by assumption) | exact any_step_f (s := s3) (by assumption) (by assumption) (by assumption)), (by first | omega | exact any_step_t (s := s0) (by assumption) (by assumption) (by assumption) | exact any_step_f (s := s0) (by assumption) (by assumption) (by assumption) | exact any_step_t (s := s1) (by assumption) (by assumption) (by assumption) | exact any_step_f (s := s1) (by assumption) (by assumption) (by assumption) | exact any_step_t (s := s2) (by assumption) (by assumption) (by assumption) | exact any_step_f (s := s2) (by assumption) (by assumption) (by assumption) | exact any_step_t (s := s3) (by assumption) (by assumption) (by assumption) | exact any_step_f (s := s3) (by assumption) (by assumption) (by assumption)), (by first | omega | exact any_step_t (s := s0) (by assumption) (by assumption) (by assumption) | exact any_step_f (s := s0) (by assumption) (by assumption) (by assumption) | exact any_step_t (s := s1) (by assumption) (by assumption) (by assumption) | exact any_step_f (s := s1) (by assumption) (by assumption) (by assumption) | exact any_step_t (s := s2) (by assumption) (by assumption) (by assumption) | exact any_step_f (s := s2) (by assumption) (by assumption) (by assumption) | exact any_step_t (s := s3) (by assumption) (by assumption) (by assumption) | exact any_step_f (s := s3) (by assumption) (by assumption) (by assumption)), (by first | omega | exact any_step_t (s := s0) (by assumption) (by assumption) (by assumption) | exact any_step_f (s := s0) (by assumption) (by assumption) (by assumption) | exact any_step_t (s := s1) (by assumption) (by assumption) (by assumption) | exact any_step_f (s := s1) (by assumption) (by assumption) (by assumption) | exact any_step_t (s := s2) (by assumption) (by assumption) (by assumption) | exact any_step_f (s := s2) (by assumption) (by assumption) (by assumption) | exact any_step_t (s := s3) (by assumption) (by assumption) (by assumption) | exact any_step_f (s := s3) (by assumption) (by assumption) (by assumption))⟩ (by first | omega | (dsimp only; omega))
      ·
       refine rw_ev (ev_move rfl) (gd_ff rfl h74) rfl rfl ?_
       refine rw_ev (v := .pointer (some ⟨g9, 3, none⟩)) (ev_field (o := 3) rfl foff_69_3) (gd_ff rfl h74) rfl rfl ?_
       refine rw_ev (v := .int .i64 ((boxC (setC raw)).1.2.2.2)) (ev_lb1 (off := 3) (fun _ h => h ▸ f26) rfl one_3 rfl) (gd_ff rfl h74) rfl rfl ?_
       refine rw_ev (ev_sub rfl rfl (by omega)) (gd_ff rfl h74) rfl rfl ?_
       refine rw_ev (ev_eq rfl rfl) (gd_ff rfl h74) rfl rfl ?_
       refine rw_ev (ev_pk_f rfl h74 rfl) rfl rfl rfl ?_
       refine rw_ev (v := .agg #[.bool (decide ((c36.1 - ((boxC (setC raw)).1.1)) = 0)), .bool true, .bool true, .bool (decide ((c36.2 - ((boxC (setC raw)).1.2.1)) = (((boxC (setC raw)).1.2.2.2) - 1)))]) (ev_pure rfl rfl (fun _ => by kernel_rfl)) rfl rfl rfl ?_
       refine rw_none (op_store (off := 0) (v := .agg #[.bool (decide ((c36.1 - ((boxC (setC raw)).1.1)) = 0)), .bool true, .bool true, .bool (decide ((c36.2 - ((boxC (setC raw)).1.2.1)) = (((boxC (setC raw)).1.2.2.2) - 1)))]) (cs' := #[.bool (decide ((c36.1 - ((boxC (setC raw)).1.1)) = 0)), .bool true, .bool true, .bool (decide ((c36.2 - ((boxC (setC raw)).1.2.1)) = (((boxC (setC raw)).1.2.2.2) - 1)))]) f27 rfl rfl size_82 rfl (Nat.le_of_ble_eq_true rfl) (one_cons rfl (one_cons rfl (one_cons rfl (one_cons rfl one_nil)))) rfl) rfl rfl ?_
       rintro _ w78 ⟨k79, b80⟩
       replace K0 := Ex.kp_new K0 k79 (fun _ h => h ▸ Nat.le_trans (Nat.le_trans zw1 (Nat.le_trans zw4 (Nat.le_trans zw7 (Nat.le_trans zw10 zw14)))) hg19)
       replace f24 := f24.kp k79 (fun b h e => Nat.lt_irrefl _ (Nat.lt_of_lt_of_le (show g17 < _ from e ▸ (show b < _ from h)) (Nat.le_trans (Nat.le_trans zw1 (Nat.le_trans zw4 (Nat.le_trans zw7 (Nat.le_trans zw10 zw14)))) hg19)))
       replace f25 := f25.kp k79 (fun b h e => Nat.lt_irrefl _ (Nat.lt_of_lt_of_le (show g17 < _ from e ▸ (show b < _ from h.2)) (Nat.le_trans (Nat.le_trans zw7 (Nat.le_trans zw10 zw14)) hg19)))
       replace f26 := f26.kp k79 (Nat.ne_of_lt (Nat.lt_of_lt_of_le lg9 (Nat.le_trans zw14 hg19)))
       have zw78 := k79.size
       refine rw_nil ?_
       refine nw_block ?_
       refine nw_seq ?_
       refine cw_region ?_
       refine rw_ev (ev_move rfl) rfl rfl rfl ?_
       refine rw_ev (ev_add rfl rfl (by omega)) rfl rfl rfl ?_
       refine rw_ev (ev_assign rfl) rfl rfl rfl ?_
       refine rw_nil ?_
       exact nw_round ((i + 1), decide ((c36.1 - ((boxC (setC raw)).1.1)) = 0), true, true, decide ((c36.2 - ((boxC (setC raw)).1.2.1)) = (((boxC (setC raw)).1.2.2.2) - 1))) (Sub.cons rfl (Sub.cons rfl (Sub.cons rfl (Sub.cons rfl (Sub.cons rfl (Sub.cons rfl (Sub.int (b := ((i + 1) : Int)) rfl (by omega) Sub.nil))))))) ⟨K0, (Nat.le_trans z23 (Nat.le_trans zw34 (Nat.le_trans zw38 zw78))), f24, f25, f26, b80, (by first | omega | exact any_step_t (s := s0) (by assumption) (by assumption) (by assumption) | exact any_step_f (s := s0) (by assumption) (by assumption) (by assumption) | exact any_step_t (s := s1) (by assumption) (by assumption) (by assumption) | exact any_step_f (s := s1) (by assumption) (by assumption) (by assumption) | exact any_step_t (s := s2) (by assumption) (by assumption) (by assumption) | exact any_step_f (s := s2) (by assumption) (by assumption) (by assumption) | exact any_step_t (s := s3) (by assumption) (by assumption) (by assumption) | exact any_step_f (s := s3) (by assumption) (by assumption) (by assumption)), (by first | omega | exact any_step_t (s := s0) (by assumption) (by assumption) (by assumption) | exact any_step_f (s := s0) (by assumption) (by assumption) (by assumption) | exact any_step_t (s := s1) (by assumption) (by assumption) (by assumption) | exact any_step_f (s := s1) (by assumption) (by assumption) (by assumption) | exact any_step_t (s := s2) (by assumption) (by assumption) (by assumption) | exact any_step_f (s := s2) (by assumption) (by assumption) (by assumption) | exact any_step_t (s := s3) (by assumption) (by assumption) (by assumption) | exact any_step_f (s := s3) (by assumption) (by assumption) (by assumption)), (by first | omega | exact any_step_t (s := s0) (by assumption) (by assumption) (by assumption) | exact any_step_f (s := s0) (by assumption) (by assumption) (by assumption) | exact any_step_t (s := s1) (by assumption) (by assumption) (by assumption) | exact any_step_f (s := s1) (by assumption) (by assumption) (by assumption) | exact any_step_t (s := s2) (by assumption) (by assumption) (by assumption) | exact any_step_f (s := s2) (by assumption) (by assumption) (by assumption) | exact any_step_t (s := s3) (by assumption) (by assumption) (by assumption) | exact any_step_f (s := s3) (by assumption) (by assumption) (by assumption)), (by first | omega | exact any_step_t (s := s0) (by assumption) (by assumption) (by assumption) | exact any_step_f (s := s0) (by assumption) (by assumption) (by assumption) | exact any_step_t (s := s1) (by assumption) (by assumption) (by assumption) | exact any_step_f (s := s1) (by assumption) (by assumption) (by assumption) | exact any_step_t (s := s2) (by assumption) (by assumption) (by assumption) | exact any_step_f (s := s2) (by assumption) (by assumption) (by assumption) | exact any_step_t (s := s3) (by assumption) (by assumption) (by assumption) | exact any_step_f (s := s3) (by assumption) (by assumption) (by assumption)), (by first | omega | exact any_step_t (s := s0) (by assumption) (by assumption) (by assumption) | exact any_step_f (s := s0) (by assumption) (by assumption) (by assumption) | exact any_step_t (s := s1) (by assumption) (by assumption) (by assumption) | exact any_step_f (s := s1) (by assumption) (by assumption) (by assumption) | exact any_step_t (s := s2) (by assumption) (by assumption) (by assumption) | exact any_step_f (s := s2) (by assumption) (by assumption) (by assumption) | exact any_step_t (s := s3) (by assumption) (by assumption) (by assumption) | exact any_step_f (s := s3) (by assumption) (by assumption) (by assumption))⟩ (by first | omega | (dsimp only; omega))
     ·
      refine rw_ev (ev_move rfl) (gd_ff rfl h73) rfl rfl ?_
      refine rw_ev (v := .pointer (some ⟨g9, 2, none⟩)) (ev_field (o := 2) rfl foff_69_2) (gd_ff rfl h73) rfl rfl ?_
      refine rw_ev (v := .int .i64 ((boxC (setC raw)).1.2.2.1)) (ev_lb1 (off := 2) (fun _ h => h ▸ f26) rfl one_3 rfl) (gd_ff rfl h73) rfl rfl ?_
      refine rw_ev (ev_sub rfl rfl (by omega)) (gd_ff rfl h73) rfl rfl ?_
      refine rw_ev (ev_eq rfl rfl) (gd_ff rfl h73) rfl rfl ?_
      refine rw_ev (ev_pk_f rfl h73 rfl) rfl rfl rfl ?_
      refine rw_ev (v := .pointer (some ⟨g17, 3, none⟩)) (ev_arrAt (i := 3) (m := 4) (k := 1) rfl rfl arr_82 (by omega)) rfl rfl rfl ?_
      refine rw_ev (v := .bool s3) (ev_lb1 (off := 3) (fun _ h => h ▸ f27) rfl one_4 rfl) rfl rfl rfl ?_
      refine rw_ev (ev_move rfl) rfl rfl rfl ?_
      rcases Bool.eq_false_or_eq_true (s3) with h81 | h81
      ·
       refine rw_skip (gd_ft rfl h81) rfl rfl ?_
       refine rw_skip (gd_ft rfl h81) rfl rfl ?_
       refine rw_skip (gd_ft rfl h81) rfl rfl ?_
       refine rw_skip (gd_ft rfl h81) rfl rfl ?_
       refine rw_skip (gd_ft rfl h81) rfl rfl ?_
       refine rw_ev (ev_pk_t rfl h81 rfl) rfl rfl rfl ?_
       refine rw_ev (v := .agg #[.bool (decide ((c36.1 - ((boxC (setC raw)).1.1)) = 0)), .bool true, .bool (decide ((c36.1 - ((boxC (setC raw)).1.1)) = (((boxC (setC raw)).1.2.2.1) - 1))), .bool true]) (ev_pure rfl rfl (fun _ => by kernel_rfl)) rfl rfl rfl ?_
       refine rw_none (op_store (off := 0) (v := .agg #[.bool (decide ((c36.1 - ((boxC (setC raw)).1.1)) = 0)), .bool true, .bool (decide ((c36.1 - ((boxC (setC raw)).1.1)) = (((boxC (setC raw)).1.2.2.1) - 1))), .bool true]) (cs' := #[.bool (decide ((c36.1 - ((boxC (setC raw)).1.1)) = 0)), .bool true, .bool (decide ((c36.1 - ((boxC (setC raw)).1.1)) = (((boxC (setC raw)).1.2.2.1) - 1))), .bool true]) f27 rfl rfl size_82 rfl (Nat.le_of_ble_eq_true rfl) (one_cons rfl (one_cons rfl (one_cons rfl (one_cons rfl one_nil)))) rfl) rfl rfl ?_
       rintro _ w82 ⟨k83, b84⟩
       replace K0 := Ex.kp_new K0 k83 (fun _ h => h ▸ Nat.le_trans (Nat.le_trans zw1 (Nat.le_trans zw4 (Nat.le_trans zw7 (Nat.le_trans zw10 zw14)))) hg19)
       replace f24 := f24.kp k83 (fun b h e => Nat.lt_irrefl _ (Nat.lt_of_lt_of_le (show g17 < _ from e ▸ (show b < _ from h)) (Nat.le_trans (Nat.le_trans zw1 (Nat.le_trans zw4 (Nat.le_trans zw7 (Nat.le_trans zw10 zw14)))) hg19)))
       replace f25 := f25.kp k83 (fun b h e => Nat.lt_irrefl _ (Nat.lt_of_lt_of_le (show g17 < _ from e ▸ (show b < _ from h.2)) (Nat.le_trans (Nat.le_trans zw7 (Nat.le_trans zw10 zw14)) hg19)))
       replace f26 := f26.kp k83 (Nat.ne_of_lt (Nat.lt_of_lt_of_le lg9 (Nat.le_trans zw14 hg19)))
       have zw82 := k83.size
       refine rw_nil ?_
       refine nw_block ?_
       refine nw_seq ?_
       refine cw_region ?_
       refine rw_ev (ev_move rfl) rfl rfl rfl ?_
       refine rw_ev (ev_add rfl rfl (by omega)) rfl rfl rfl ?_
       refine rw_ev (ev_assign rfl) rfl rfl rfl ?_
       refine rw_nil ?_
       exact nw_round ((i + 1), decide ((c36.1 - ((boxC (setC raw)).1.1)) = 0), true, decide ((c36.1 - ((boxC (setC raw)).1.1)) = (((boxC (setC raw)).1.2.2.1) - 1)), true) (Sub.cons rfl (Sub.cons rfl (Sub.cons rfl (Sub.cons rfl (Sub.cons rfl (Sub.cons rfl (Sub.int (b := ((i + 1) : Int)) rfl (by omega) Sub.nil))))))) ⟨K0, (Nat.le_trans z23 (Nat.le_trans zw34 (Nat.le_trans zw38 zw82))), f24, f25, f26, b84, (by first | omega | exact any_step_t (s := s0) (by assumption) (by assumption) (by assumption) | exact any_step_f (s := s0) (by assumption) (by assumption) (by assumption) | exact any_step_t (s := s1) (by assumption) (by assumption) (by assumption) | exact any_step_f (s := s1) (by assumption) (by assumption) (by assumption) | exact any_step_t (s := s2) (by assumption) (by assumption) (by assumption) | exact any_step_f (s := s2) (by assumption) (by assumption) (by assumption) | exact any_step_t (s := s3) (by assumption) (by assumption) (by assumption) | exact any_step_f (s := s3) (by assumption) (by assumption) (by assumption)), (by first | omega | exact any_step_t (s := s0) (by assumption) (by assumption) (by assumption) | exact any_step_f (s := s0) (by assumption) (by assumption) (by assumption) | exact any_step_t (s := s1) (by assumption) (by assumption) (by assumption) | exact any_step_f (s := s1) (by assumption) (by assumption) (by assumption) | exact any_step_t (s := s2) (by assumption) (by assumption) (by assumption) | exact any_step_f (s := s2) (by assumption) (by assumption) (by assumption) | exact any_step_t (s := s3) (by assumption) (by assumption) (by assumption) | exact any_step_f (s := s3) (by assumption) (by assumption) (by assumption)), (by first | omega | exact any_step_t (s := s0) (by assumption) (by assumption) (by assumption) | exact any_step_f (s := s0) (by assumption) (by assumption) (by assumption) | exact any_step_t (s := s1) (by assumption) (by assumption) (by assumption) | exact any_step_f (s := s1) (by assumption) (by assumption) (by assumption) | exact any_step_t (s := s2) (by assumption) (by assumption) (by assumption) | exact any_step_f (s := s2) (by assumption) (by assumption) (by assumption) | exact any_step_t (s := s3) (by assumption) (by assumption) (by assumption) | exact any_step_f (s := s3) (by assumption) (by assumption) (by assumption)), (by first | omega | exact any_step_t (s := s0) (by assumption) (by assumption) (by assumption) | exact any_step_f (s := s0) (by assumption) (by assumption) (by assumption) | exact any_step_t (s := s1) (by assumption) (by assumption) (by assumption) | exact any_step_f (s := s1) (by assumption) (by assumption) (by assumption) | exact any_step_t (s := s2) (by assumption) (by assumption) (by assumption) | exact any_step_f (s := s2) (by assumption) (by assumption) (by assumption) | exact any_step_t (s := s3) (by assumption) (by assumption) (by assumption) | exact any_step_f (s := s3) (by assumption) (by assumption) (by assumption)), (by first | omega | exact any_step_t (s := s0) (by assumption) (by assumption) (by assumption) | exact any_step_f (s := s0) (by assumption) (by assumption) (by assumption) | exact any_step_t (s := s1) (by assumption) (by assumption) (by assumption) | exact any_step_f (s := s1) (by assumption) (by assumption) (by assumption) | exact any_step_t (s := s2) (by assumption) (by assumption) (by assumption) | exact any_step_f (s := s2) (by assumption) (by assumption) (by assumption) | exact any_step_t (s := s3) (by assumption) (by assumption) (by assumption) | exact any_step_f (s := s3) (by assumption) (by assumption) (by assumption))⟩ (by first | omega | (dsimp only; omega))
      ·
       refine rw_ev (ev_move rfl) (gd_ff rfl h81) rfl rfl ?_
       refine rw_ev (v := .pointer (some ⟨g9, 3, none⟩)) (ev_field (o := 3) rfl foff_69_3) (gd_ff rfl h81) rfl rfl ?_
       refine rw_ev (v := .int .i64 ((boxC (setC raw)).1.2.2.2)) (ev_lb1 (off := 3) (fun _ h => h ▸ f26) rfl one_3 rfl) (gd_ff rfl h81) rfl rfl ?_
       refine rw_ev (ev_sub rfl rfl (by omega)) (gd_ff rfl h81) rfl rfl ?_
       refine rw_ev (ev_eq rfl rfl) (gd_ff rfl h81) rfl rfl ?_
       refine rw_ev (ev_pk_f rfl h81 rfl) rfl rfl rfl ?_
       refine rw_ev (v := .agg #[.bool (decide ((c36.1 - ((boxC (setC raw)).1.1)) = 0)), .bool true, .bool (decide ((c36.1 - ((boxC (setC raw)).1.1)) = (((boxC (setC raw)).1.2.2.1) - 1))), .bool (decide ((c36.2 - ((boxC (setC raw)).1.2.1)) = (((boxC (setC raw)).1.2.2.2) - 1)))]) (ev_pure rfl rfl (fun _ => by kernel_rfl)) rfl rfl rfl ?_
       refine rw_none (op_store (off := 0) (v := .agg #[.bool (decide ((c36.1 - ((boxC (setC raw)).1.1)) = 0)), .bool true, .bool (decide ((c36.1 - ((boxC (setC raw)).1.1)) = (((boxC (setC raw)).1.2.2.1) - 1))), .bool (decide ((c36.2 - ((boxC (setC raw)).1.2.1)) = (((boxC (setC raw)).1.2.2.2) - 1)))]) (cs' := #[.bool (decide ((c36.1 - ((boxC (setC raw)).1.1)) = 0)), .bool true, .bool (decide ((c36.1 - ((boxC (setC raw)).1.1)) = (((boxC (setC raw)).1.2.2.1) - 1))), .bool (decide ((c36.2 - ((boxC (setC raw)).1.2.1)) = (((boxC (setC raw)).1.2.2.2) - 1)))]) f27 rfl rfl size_82 rfl (Nat.le_of_ble_eq_true rfl) (one_cons rfl (one_cons rfl (one_cons rfl (one_cons rfl one_nil)))) rfl) rfl rfl ?_
       rintro _ w85 ⟨k86, b87⟩
       replace K0 := Ex.kp_new K0 k86 (fun _ h => h ▸ Nat.le_trans (Nat.le_trans zw1 (Nat.le_trans zw4 (Nat.le_trans zw7 (Nat.le_trans zw10 zw14)))) hg19)
       replace f24 := f24.kp k86 (fun b h e => Nat.lt_irrefl _ (Nat.lt_of_lt_of_le (show g17 < _ from e ▸ (show b < _ from h)) (Nat.le_trans (Nat.le_trans zw1 (Nat.le_trans zw4 (Nat.le_trans zw7 (Nat.le_trans zw10 zw14)))) hg19)))
       replace f25 := f25.kp k86 (fun b h e => Nat.lt_irrefl _ (Nat.lt_of_lt_of_le (show g17 < _ from e ▸ (show b < _ from h.2)) (Nat.le_trans (Nat.le_trans zw7 (Nat.le_trans zw10 zw14)) hg19)))
       replace f26 := f26.kp k86 (Nat.ne_of_lt (Nat.lt_of_lt_of_le lg9 (Nat.le_trans zw14 hg19)))
       have zw85 := k86.size
       refine rw_nil ?_
       refine nw_block ?_
       refine nw_seq ?_
       refine cw_region ?_
       refine rw_ev (ev_move rfl) rfl rfl rfl ?_
       refine rw_ev (ev_add rfl rfl (by omega)) rfl rfl rfl ?_
       refine rw_ev (ev_assign rfl) rfl rfl rfl ?_
       refine rw_nil ?_
       exact nw_round ((i + 1), decide ((c36.1 - ((boxC (setC raw)).1.1)) = 0), true, decide ((c36.1 - ((boxC (setC raw)).1.1)) = (((boxC (setC raw)).1.2.2.1) - 1)), decide ((c36.2 - ((boxC (setC raw)).1.2.1)) = (((boxC (setC raw)).1.2.2.2) - 1))) (Sub.cons rfl (Sub.cons rfl (Sub.cons rfl (Sub.cons rfl (Sub.cons rfl (Sub.cons rfl (Sub.int (b := ((i + 1) : Int)) rfl (by omega) Sub.nil))))))) ⟨K0, (Nat.le_trans z23 (Nat.le_trans zw34 (Nat.le_trans zw38 zw85))), f24, f25, f26, b87, (by first | omega | exact any_step_t (s := s0) (by assumption) (by assumption) (by assumption) | exact any_step_f (s := s0) (by assumption) (by assumption) (by assumption) | exact any_step_t (s := s1) (by assumption) (by assumption) (by assumption) | exact any_step_f (s := s1) (by assumption) (by assumption) (by assumption) | exact any_step_t (s := s2) (by assumption) (by assumption) (by assumption) | exact any_step_f (s := s2) (by assumption) (by assumption) (by assumption) | exact any_step_t (s := s3) (by assumption) (by assumption) (by assumption) | exact any_step_f (s := s3) (by assumption) (by assumption) (by assumption)), (by first | omega | exact any_step_t (s := s0) (by assumption) (by assumption) (by assumption) | exact any_step_f (s := s0) (by assumption) (by assumption) (by assumption) | exact any_step_t (s := s1) (by assumption) (by assumption) (by assumption) | exact any_step_f (s := s1) (by assumption) (by assumption) (by assumption) | exact any_step_t (s := s2) (by assumption) (by assumption) (by assumption) | exact any_step_f (s := s2) (by assumption) (by assumption) (by assumption) | exact any_step_t (s := s3) (by assumption) (by assumption) (by assumption) | exact any_step_f (s := s3) (by assumption) (by assumption) (by assumption)), (by first | omega | exact any_step_t (s := s0) (by assumption) (by assumption) (by assumption) | exact any_step_f (s := s0) (by assumption) (by assumption) (by assumption) | exact any_step_t (s := s1) (by assumption) (by assumption) (by assumption) | exact any_step_f (s := s1) (by assumption) (by assumption) (by assumption) | exact any_step_t (s := s2) (by assumption) (by assumption) (by assumption) | exact any_step_f (s := s2) (by assumption) (by assumption) (by assumption) | exact any_step_t (s := s3) (by assumption) (by assumption) (by assumption) | exact any_step_f (s := s3) (by assumption) (by assumption) (by assumption)), (by first | omega | exact any_step_t (s := s0) (by assumption) (by assumption) (by assumption) | exact any_step_f (s := s0) (by assumption) (by assumption) (by assumption) | exact any_step_t (s := s1) (by assumption) (by assumption) (by assumption) | exact any_step_f (s := s1) (by assumption) (by assumption) (by assumption) | exact any_step_t (s := s2) (by assumption) (by assumption) (by assumption) | exact any_step_f (s := s2) (by assumption) (by assumption) (by assumption) | exact any_step_t (s := s3) (by assumption) (by assumption) (by assumption) | exact any_step_f (s := s3) (by assumption) (by assumption) (by assumption)), (by first | omega | exact any_step_t (s := s0) (by assumption) (by assumption) (by assumption) | exact any_step_f (s := s0) (by assumption) (by assumption) (by assumption) | exact any_step_t (s := s1) (by assumption) (by assumption) (by assumption) | exact any_step_f (s := s1) (by assumption) (by assumption) (by assumption) | exact any_step_t (s := s2) (by assumption) (by assumption) (by assumption) | exact any_step_f (s := s2) (by assumption) (by assumption) (by assumption) | exact any_step_t (s := s3) (by assumption) (by assumption) (by assumption) | exact any_step_f (s := s3) (by assumption) (by assumption) (by assumption))⟩ (by first | omega | (dsimp only; omega))
    ·
     refine rw_ev (ev_move rfl) (gd_ff rfl h72) rfl rfl ?_
     refine rw_ev (ev_eq rfl rfl) (gd_ff rfl h72) rfl rfl ?_
     refine rw_ev (ev_pk_f rfl h72 rfl) rfl rfl rfl ?_
     refine rw_ev (v := .pointer (some ⟨g17, 2, none⟩)) (ev_arrAt (i := 2) (m := 4) (k := 1) rfl rfl arr_82 (by omega)) rfl rfl rfl ?_
     refine rw_ev (v := .bool s2) (ev_lb1 (off := 2) (fun _ h => h ▸ f27) rfl one_4 rfl) rfl rfl rfl ?_
     refine rw_ev (ev_move rfl) rfl rfl rfl ?_
     rcases Bool.eq_false_or_eq_true (s2) with h88 | h88
     ·
      refine rw_skip (gd_ft rfl h88) rfl rfl ?_
      refine rw_skip (gd_ft rfl h88) rfl rfl ?_
      refine rw_skip (gd_ft rfl h88) rfl rfl ?_
      refine rw_skip (gd_ft rfl h88) rfl rfl ?_
      refine rw_skip (gd_ft rfl h88) rfl rfl ?_
      refine rw_ev (ev_pk_t rfl h88 rfl) rfl rfl rfl ?_
      refine rw_ev (v := .pointer (some ⟨g17, 3, none⟩)) (ev_arrAt (i := 3) (m := 4) (k := 1) rfl rfl arr_82 (by omega)) rfl rfl rfl ?_
      refine rw_ev (v := .bool s3) (ev_lb1 (off := 3) (fun _ h => h ▸ f27) rfl one_4 rfl) rfl rfl rfl ?_
      refine rw_ev (ev_move rfl) rfl rfl rfl ?_
      rcases Bool.eq_false_or_eq_true (s3) with h89 | h89
      ·
       refine rw_skip (gd_ft rfl h89) rfl rfl ?_
       refine rw_skip (gd_ft rfl h89) rfl rfl ?_
       refine rw_skip (gd_ft rfl h89) rfl rfl ?_
       refine rw_skip (gd_ft rfl h89) rfl rfl ?_
       refine rw_skip (gd_ft rfl h89) rfl rfl ?_
       refine rw_ev (ev_pk_t rfl h89 rfl) rfl rfl rfl ?_
       refine rw_ev (v := .agg #[.bool (decide ((c36.1 - ((boxC (setC raw)).1.1)) = 0)), .bool (decide ((c36.2 - ((boxC (setC raw)).1.2.1)) = 0)), .bool true, .bool true]) (ev_pure rfl rfl (fun _ => by kernel_rfl)) rfl rfl rfl ?_
       refine rw_none (op_store (off := 0) (v := .agg #[.bool (decide ((c36.1 - ((boxC (setC raw)).1.1)) = 0)), .bool (decide ((c36.2 - ((boxC (setC raw)).1.2.1)) = 0)), .bool true, .bool true]) (cs' := #[.bool (decide ((c36.1 - ((boxC (setC raw)).1.1)) = 0)), .bool (decide ((c36.2 - ((boxC (setC raw)).1.2.1)) = 0)), .bool true, .bool true]) f27 rfl rfl size_82 rfl (Nat.le_of_ble_eq_true rfl) (one_cons rfl (one_cons rfl (one_cons rfl (one_cons rfl one_nil)))) rfl) rfl rfl ?_
       rintro _ w90 ⟨k91, b92⟩
       replace K0 := Ex.kp_new K0 k91 (fun _ h => h ▸ Nat.le_trans (Nat.le_trans zw1 (Nat.le_trans zw4 (Nat.le_trans zw7 (Nat.le_trans zw10 zw14)))) hg19)
       replace f24 := f24.kp k91 (fun b h e => Nat.lt_irrefl _ (Nat.lt_of_lt_of_le (show g17 < _ from e ▸ (show b < _ from h)) (Nat.le_trans (Nat.le_trans zw1 (Nat.le_trans zw4 (Nat.le_trans zw7 (Nat.le_trans zw10 zw14)))) hg19)))
       replace f25 := f25.kp k91 (fun b h e => Nat.lt_irrefl _ (Nat.lt_of_lt_of_le (show g17 < _ from e ▸ (show b < _ from h.2)) (Nat.le_trans (Nat.le_trans zw7 (Nat.le_trans zw10 zw14)) hg19)))
       replace f26 := f26.kp k91 (Nat.ne_of_lt (Nat.lt_of_lt_of_le lg9 (Nat.le_trans zw14 hg19)))
       have zw90 := k91.size
       refine rw_nil ?_
       refine nw_block ?_
       refine nw_seq ?_
       refine cw_region ?_
       refine rw_ev (ev_move rfl) rfl rfl rfl ?_
       refine rw_ev (ev_add rfl rfl (by omega)) rfl rfl rfl ?_
       refine rw_ev (ev_assign rfl) rfl rfl rfl ?_
       refine rw_nil ?_
       exact nw_round ((i + 1), decide ((c36.1 - ((boxC (setC raw)).1.1)) = 0), decide ((c36.2 - ((boxC (setC raw)).1.2.1)) = 0), true, true) (Sub.cons rfl (Sub.cons rfl (Sub.cons rfl (Sub.cons rfl (Sub.cons rfl (Sub.cons rfl (Sub.int (b := ((i + 1) : Int)) rfl (by omega) Sub.nil))))))) ⟨K0, (Nat.le_trans z23 (Nat.le_trans zw34 (Nat.le_trans zw38 zw90))), f24, f25, f26, b92, (by first | omega | exact any_step_t (s := s0) (by assumption) (by assumption) (by assumption) | exact any_step_f (s := s0) (by assumption) (by assumption) (by assumption) | exact any_step_t (s := s1) (by assumption) (by assumption) (by assumption) | exact any_step_f (s := s1) (by assumption) (by assumption) (by assumption) | exact any_step_t (s := s2) (by assumption) (by assumption) (by assumption) | exact any_step_f (s := s2) (by assumption) (by assumption) (by assumption) | exact any_step_t (s := s3) (by assumption) (by assumption) (by assumption) | exact any_step_f (s := s3) (by assumption) (by assumption) (by assumption)), (by first | omega | exact any_step_t (s := s0) (by assumption) (by assumption) (by assumption) | exact any_step_f (s := s0) (by assumption) (by assumption) (by assumption) | exact any_step_t (s := s1) (by assumption) (by assumption) (by assumption) | exact any_step_f (s := s1) (by assumption) (by assumption) (by assumption) | exact any_step_t (s := s2) (by assumption) (by assumption) (by assumption) | exact any_step_f (s := s2) (by assumption) (by assumption) (by assumption) | exact any_step_t (s := s3) (by assumption) (by assumption) (by assumption) | exact any_step_f (s := s3) (by assumption) (by assumption) (by assumption)), (by first | omega | exact any_step_t (s := s0) (by assumption) (by assumption) (by assumption) | exact any_step_f (s := s0) (by assumption) (by assumption) (by assumption) | exact any_step_t (s := s1) (by assumption) (by assumption) (by assumption) | exact any_step_f (s := s1) (by assumption) (by assumption) (by assumption) | exact any_step_t (s := s2) (by assumption) (by assumption) (by assumption) | exact any_step_f (s := s2) (by assumption) (by assumption) (by assumption) | exact any_step_t (s := s3) (by assumption) (by assumption) (by assumption) | exact any_step_f (s := s3) (by assumption) (by assumption) (by assumption)), (by first | omega | exact any_step_t (s := s0) (by assumption) (by assumption) (by assumption) | exact any_step_f (s := s0) (by assumption) (by assumption) (by assumption) | exact any_step_t (s := s1) (by assumption) (by assumption) (by assumption) | exact any_step_f (s := s1) (by assumption) (by assumption) (by assumption) | exact any_step_t (s := s2) (by assumption) (by assumption) (by assumption) | exact any_step_f (s := s2) (by assumption) (by assumption) (by assumption) | exact any_step_t (s := s3) (by assumption) (by assumption) (by assumption) | exact any_step_f (s := s3) (by assumption) (by assumption) (by assumption)), (by first | omega | exact any_step_t (s := s0) (by assumption) (by assumption) (by assumption) | exact any_step_f (s := s0) (by assumption) (by assumption) (by assumption) | exact any_step_t (s := s1) (by assumption) (by assumption) (by assumption) | exact any_step_f (s := s1) (by assumption) (by assumption) (by assumption) | exact any_step_t (s := s2) (by assumption) (by assumption) (by assumption) | exact any_step_f (s := s2) (by assumption) (by assumption) (by assumption) | exact any_step_t (s := s3) (by assumption) (by assumption) (by assumption) | exact any_step_f (s := s3) (by assumption) (by assumption) (by assumption))⟩ (by first | omega | (dsimp only; omega))
      ·
       refine rw_ev (ev_move rfl) (gd_ff rfl h89) rfl rfl ?_
       refine rw_ev (v := .pointer (some ⟨g9, 3, none⟩)) (ev_field (o := 3) rfl foff_69_3) (gd_ff rfl h89) rfl rfl ?_
       refine rw_ev (v := .int .i64 ((boxC (setC raw)).1.2.2.2)) (ev_lb1 (off := 3) (fun _ h => h ▸ f26) rfl one_3 rfl) (gd_ff rfl h89) rfl rfl ?_
       refine rw_ev (ev_sub rfl rfl (by omega)) (gd_ff rfl h89) rfl rfl ?_
       refine rw_ev (ev_eq rfl rfl) (gd_ff rfl h89) rfl rfl ?_
       refine rw_ev (ev_pk_f rfl h89 rfl) rfl rfl rfl ?_
       refine rw_ev (v := .agg #[.bool (decide ((c36.1 - ((boxC (setC raw)).1.1)) = 0)), .bool (decide ((c36.2 - ((boxC (setC raw)).1.2.1)) = 0)), .bool true, .bool (decide ((c36.2 - ((boxC (setC raw)).1.2.1)) = (((boxC (setC raw)).1.2.2.2) - 1)))]) (ev_pure rfl rfl (fun _ => by kernel_rfl)) rfl rfl rfl ?_
       refine rw_none (op_store (off := 0) (v := .agg #[.bool (decide ((c36.1 - ((boxC (setC raw)).1.1)) = 0)), .bool (decide ((c36.2 - ((boxC (setC raw)).1.2.1)) = 0)), .bool true, .bool (decide ((c36.2 - ((boxC (setC raw)).1.2.1)) = (((boxC (setC raw)).1.2.2.2) - 1)))]) (cs' := #[.bool (decide ((c36.1 - ((boxC (setC raw)).1.1)) = 0)), .bool (decide ((c36.2 - ((boxC (setC raw)).1.2.1)) = 0)), .bool true, .bool (decide ((c36.2 - ((boxC (setC raw)).1.2.1)) = (((boxC (setC raw)).1.2.2.2) - 1)))]) f27 rfl rfl size_82 rfl (Nat.le_of_ble_eq_true rfl) (one_cons rfl (one_cons rfl (one_cons rfl (one_cons rfl one_nil)))) rfl) rfl rfl ?_
       rintro _ w93 ⟨k94, b95⟩
       replace K0 := Ex.kp_new K0 k94 (fun _ h => h ▸ Nat.le_trans (Nat.le_trans zw1 (Nat.le_trans zw4 (Nat.le_trans zw7 (Nat.le_trans zw10 zw14)))) hg19)
       replace f24 := f24.kp k94 (fun b h e => Nat.lt_irrefl _ (Nat.lt_of_lt_of_le (show g17 < _ from e ▸ (show b < _ from h)) (Nat.le_trans (Nat.le_trans zw1 (Nat.le_trans zw4 (Nat.le_trans zw7 (Nat.le_trans zw10 zw14)))) hg19)))
       replace f25 := f25.kp k94 (fun b h e => Nat.lt_irrefl _ (Nat.lt_of_lt_of_le (show g17 < _ from e ▸ (show b < _ from h.2)) (Nat.le_trans (Nat.le_trans zw7 (Nat.le_trans zw10 zw14)) hg19)))
       replace f26 := f26.kp k94 (Nat.ne_of_lt (Nat.lt_of_lt_of_le lg9 (Nat.le_trans zw14 hg19)))
       have zw93 := k94.size
       refine rw_nil ?_
       refine nw_block ?_
       refine nw_seq ?_
       refine cw_region ?_
       refine rw_ev (ev_move rfl) rfl rfl rfl ?_
       refine rw_ev (ev_add rfl rfl (by omega)) rfl rfl rfl ?_
       refine rw_ev (ev_assign rfl) rfl rfl rfl ?_
       refine rw_nil ?_
       exact nw_round ((i + 1), decide ((c36.1 - ((boxC (setC raw)).1.1)) = 0), decide ((c36.2 - ((boxC (setC raw)).1.2.1)) = 0), true, decide ((c36.2 - ((boxC (setC raw)).1.2.1)) = (((boxC (setC raw)).1.2.2.2) - 1))) (Sub.cons rfl (Sub.cons rfl (Sub.cons rfl (Sub.cons rfl (Sub.cons rfl (Sub.cons rfl (Sub.int (b := ((i + 1) : Int)) rfl (by omega) Sub.nil))))))) ⟨K0, (Nat.le_trans z23 (Nat.le_trans zw34 (Nat.le_trans zw38 zw93))), f24, f25, f26, b95, (by first | omega | exact any_step_t (s := s0) (by assumption) (by assumption) (by assumption) | exact any_step_f (s := s0) (by assumption) (by assumption) (by assumption) | exact any_step_t (s := s1) (by assumption) (by assumption) (by assumption) | exact any_step_f (s := s1) (by assumption) (by assumption) (by assumption) | exact any_step_t (s := s2) (by assumption) (by assumption) (by assumption) | exact any_step_f (s := s2) (by assumption) (by assumption) (by assumption) | exact any_step_t (s := s3) (by assumption) (by assumption) (by assumption) | exact any_step_f (s := s3) (by assumption) (by assumption) (by assumption)), (by first | omega | exact any_step_t (s := s0) (by assumption) (by assumption) (by assumption) | exact any_step_f (s := s0) (by assumption) (by assumption) (by assumption) | exact any_step_t (s := s1) (by assumption) (by assumption) (by assumption) | exact any_step_f (s := s1) (by assumption) (by assumption) (by assumption) | exact any_step_t (s := s2) (by assumption) (by assumption) (by assumption) | exact any_step_f (s := s2) (by assumption) (by assumption) (by assumption) | exact any_step_t (s := s3) (by assumption) (by assumption) (by assumption) | exact any_step_f (s := s3) (by assumption) (by assumption) (by assumption)), (by first | omega | exact any_step_t (s := s0) (by assumption) (by assumption) (by assumption) | exact any_step_f (s := s0) (by assumption) (by assumption) (by assumption) | exact any_step_t (s := s1) (by assumption) (by assumption) (by assumption) | exact any_step_f (s := s1) (by assumption) (by assumption) (by assumption) | exact any_step_t (s := s2) (by assumption) (by assumption) (by assumption) | exact any_step_f (s := s2) (by assumption) (by assumption) (by assumption) | exact any_step_t (s := s3) (by assumption) (by assumption) (by assumption) | exact any_step_f (s := s3) (by assumption) (by assumption) (by assumption)), (by first | omega | exact any_step_t (s := s0) (by assumption) (by assumption) (by assumption) | exact any_step_f (s := s0) (by assumption) (by assumption) (by assumption) | exact any_step_t (s := s1) (by assumption) (by assumption) (by assumption) | exact any_step_f (s := s1) (by assumption) (by assumption) (by assumption) | exact any_step_t (s := s2) (by assumption) (by assumption) (by assumption) | exact any_step_f (s := s2) (by assumption) (by assumption) (by assumption) | exact any_step_t (s := s3) (by assumption) (by assumption) (by assumption) | exact any_step_f (s := s3) (by assumption) (by assumption) (by assumption)), (by first | omega | exact any_step_t (s := s0) (by assumption) (by assumption) (by assumption) | exact any_step_f (s := s0) (by assumption) (by assumption) (by assumption) | exact any_step_t (s := s1) (by assumption) (by assumption) (by assumption) | exact any_step_f (s := s1) (by assumption) (by assumption) (by assumption) | exact any_step_t (s := s2) (by assumption) (by assumption) (by assumption) | exact any_step_f (s := s2) (by assumption) (by assumption) (by assumption) | exact any_step_t (s := s3) (by assumption) (by assumption) (by assumption) | exact any_step_f (s := s3) (by assumption) (by assumption) (by assumption))⟩ (by first | omega | (dsimp only; omega))
     ·
      refine rw_ev (ev_move rfl) (gd_ff rfl h88) rfl rfl ?_
      refine rw_ev (v := .pointer (some ⟨g9, 2, none⟩)) (ev_field (o := 2) rfl foff_69_2) (gd_ff rfl h88) rfl rfl ?_
      refine rw_ev (v := .int .i64 ((boxC (setC raw)).1.2.2.1)) (ev_lb1 (off := 2) (fun _ h => h ▸ f26) rfl one_3 rfl) (gd_ff rfl h88) rfl rfl ?_
      refine rw_ev (ev_sub rfl rfl (by omega)) (gd_ff rfl h88) rfl rfl ?_
      refine rw_ev (ev_eq rfl rfl) (gd_ff rfl h88) rfl rfl ?_
      refine rw_ev (ev_pk_f rfl h88 rfl) rfl rfl rfl ?_
      refine rw_ev (v := .pointer (some ⟨g17, 3, none⟩)) (ev_arrAt (i := 3) (m := 4) (k := 1) rfl rfl arr_82 (by omega)) rfl rfl rfl ?_
      refine rw_ev (v := .bool s3) (ev_lb1 (off := 3) (fun _ h => h ▸ f27) rfl one_4 rfl) rfl rfl rfl ?_
      refine rw_ev (ev_move rfl) rfl rfl rfl ?_
      rcases Bool.eq_false_or_eq_true (s3) with h96 | h96
      ·
       refine rw_skip (gd_ft rfl h96) rfl rfl ?_
       refine rw_skip (gd_ft rfl h96) rfl rfl ?_
       refine rw_skip (gd_ft rfl h96) rfl rfl ?_
       refine rw_skip (gd_ft rfl h96) rfl rfl ?_
       refine rw_skip (gd_ft rfl h96) rfl rfl ?_
       refine rw_ev (ev_pk_t rfl h96 rfl) rfl rfl rfl ?_
       refine rw_ev (v := .agg #[.bool (decide ((c36.1 - ((boxC (setC raw)).1.1)) = 0)), .bool (decide ((c36.2 - ((boxC (setC raw)).1.2.1)) = 0)), .bool (decide ((c36.1 - ((boxC (setC raw)).1.1)) = (((boxC (setC raw)).1.2.2.1) - 1))), .bool true]) (ev_pure rfl rfl (fun _ => by kernel_rfl)) rfl rfl rfl ?_
       refine rw_none (op_store (off := 0) (v := .agg #[.bool (decide ((c36.1 - ((boxC (setC raw)).1.1)) = 0)), .bool (decide ((c36.2 - ((boxC (setC raw)).1.2.1)) = 0)), .bool (decide ((c36.1 - ((boxC (setC raw)).1.1)) = (((boxC (setC raw)).1.2.2.1) - 1))), .bool true]) (cs' := #[.bool (decide ((c36.1 - ((boxC (setC raw)).1.1)) = 0)), .bool (decide ((c36.2 - ((boxC (setC raw)).1.2.1)) = 0)), .bool (decide ((c36.1 - ((boxC (setC raw)).1.1)) = (((boxC (setC raw)).1.2.2.1) - 1))), .bool true]) f27 rfl rfl size_82 rfl (Nat.le_of_ble_eq_true rfl) (one_cons rfl (one_cons rfl (one_cons rfl (one_cons rfl one_nil)))) rfl) rfl rfl ?_
       rintro _ w97 ⟨k98, b99⟩
       replace K0 := Ex.kp_new K0 k98 (fun _ h => h ▸ Nat.le_trans (Nat.le_trans zw1 (Nat.le_trans zw4 (Nat.le_trans zw7 (Nat.le_trans zw10 zw14)))) hg19)
       replace f24 := f24.kp k98 (fun b h e => Nat.lt_irrefl _ (Nat.lt_of_lt_of_le (show g17 < _ from e ▸ (show b < _ from h)) (Nat.le_trans (Nat.le_trans zw1 (Nat.le_trans zw4 (Nat.le_trans zw7 (Nat.le_trans zw10 zw14)))) hg19)))
       replace f25 := f25.kp k98 (fun b h e => Nat.lt_irrefl _ (Nat.lt_of_lt_of_le (show g17 < _ from e ▸ (show b < _ from h.2)) (Nat.le_trans (Nat.le_trans zw7 (Nat.le_trans zw10 zw14)) hg19)))
       replace f26 := f26.kp k98 (Nat.ne_of_lt (Nat.lt_of_lt_of_le lg9 (Nat.le_trans zw14 hg19)))
       have zw97 := k98.size
       refine rw_nil ?_
       refine nw_block ?_
       refine nw_seq ?_
       refine cw_region ?_
       refine rw_ev (ev_move rfl) rfl rfl rfl ?_
       refine rw_ev (ev_add rfl rfl (by omega)) rfl rfl rfl ?_
       refine rw_ev (ev_assign rfl) rfl rfl rfl ?_
       refine rw_nil ?_
       exact nw_round ((i + 1), decide ((c36.1 - ((boxC (setC raw)).1.1)) = 0), decide ((c36.2 - ((boxC (setC raw)).1.2.1)) = 0), decide ((c36.1 - ((boxC (setC raw)).1.1)) = (((boxC (setC raw)).1.2.2.1) - 1)), true) (Sub.cons rfl (Sub.cons rfl (Sub.cons rfl (Sub.cons rfl (Sub.cons rfl (Sub.cons rfl (Sub.int (b := ((i + 1) : Int)) rfl (by omega) Sub.nil))))))) ⟨K0, (Nat.le_trans z23 (Nat.le_trans zw34 (Nat.le_trans zw38 zw97))), f24, f25, f26, b99, (by first | omega | exact any_step_t (s := s0) (by assumption) (by assumption) (by assumption) | exact any_step_f (s := s0) (by assumption) (by assumption) (by assumption) | exact any_step_t (s := s1) (by assumption) (by assumption) (by assumption) | exact any_step_f (s := s1) (by assumption) (by assumption) (by assumption) | exact any_step_t (s := s2) (by assumption) (by assumption) (by assumption) | exact any_step_f (s := s2) (by assumption) (by assumption) (by assumption) | exact any_step_t (s := s3) (by assumption) (by assumption) (by assumption) | exact any_step_f (s := s3) (by assumption) (by assumption) (by assumption)), (by first | omega | exact any_step_t (s := s0) (by assumption) (by assumption) (by assumption) | exact any_step_f (s := s0) (by assumption) (by assumption) (by assumption) | exact any_step_t (s := s1) (by assumption) (by assumption) (by assumption) | exact any_step_f (s := s1) (by assumption) (by assumption) (by assumption) | exact any_step_t (s := s2) (by assumption) (by assumption) (by assumption) | exact any_step_f (s := s2) (by assumption) (by assumption) (by assumption) | exact any_step_t (s := s3) (by assumption) (by assumption) (by assumption) | exact any_step_f (s := s3) (by assumption) (by assumption) (by assumption)), (by first | omega | exact any_step_t (s := s0) (by assumption) (by assumption) (by assumption) | exact any_step_f (s := s0) (by assumption) (by assumption) (by assumption) | exact any_step_t (s := s1) (by assumption) (by assumption) (by assumption) | exact any_step_f (s := s1) (by assumption) (by assumption) (by assumption) | exact any_step_t (s := s2) (by assumption) (by assumption) (by assumption) | exact any_step_f (s := s2) (by assumption) (by assumption) (by assumption) | exact any_step_t (s := s3) (by assumption) (by assumption) (by assumption) | exact any_step_f (s := s3) (by assumption) (by assumption) (by assumption)), (by first | omega | exact any_step_t (s := s0) (by assumption) (by assumption) (by assumption) | exact any_step_f (s := s0) (by assumption) (by assumption) (by assumption) | exact any_step_t (s := s1) (by assumption) (by assumption) (by assumption) | exact any_step_f (s := s1) (by assumption) (by assumption) (by assumption) | exact any_step_t (s := s2) (by assumption) (by assumption) (by assumption) | exact any_step_f (s := s2) (by assumption) (by assumption) (by assumption) | exact any_step_t (s := s3) (by assumption) (by assumption) (by assumption) | exact any_step_f (s := s3) (by assumption) (by assumption) (by assumption)), (by first | omega | exact any_step_t (s := s0) (by assumption) (by assumption) (by assumption) | exact any_step_f (s := s0) (by assumption) (by assumption) (by assumption) | exact any_step_t (s := s1) (by assumption) (by assumption) (by assumption) | exact any_step_f (s := s1) (by assumption) (by assumption) (by assumption) | exact any_step_t (s := s2) (by assumption) (by assumption) (by assumption) | exact any_step_f (s := s2) (by assumption) (by assumption) (by assumption) | exact any_step_t (s := s3) (by assumption) (by assumption) (by assumption) | exact any_step_f (s := s3) (by assumption) (by assumption) (by assumption))⟩ (by first | omega | (dsimp only; omega))
      ·
       refine rw_ev (ev_move rfl) (gd_ff rfl h96) rfl rfl ?_
       refine rw_ev (v := .pointer (some ⟨g9, 3, none⟩)) (ev_field (o := 3) rfl foff_69_3) (gd_ff rfl h96) rfl rfl ?_
       refine rw_ev (v := .int .i64 ((boxC (setC raw)).1.2.2.2)) (ev_lb1 (off := 3) (fun _ h => h ▸ f26) rfl one_3 rfl) (gd_ff rfl h96) rfl rfl ?_
       refine rw_ev (ev_sub rfl rfl (by omega)) (gd_ff rfl h96) rfl rfl ?_
       refine rw_ev (ev_eq rfl rfl) (gd_ff rfl h96) rfl rfl ?_
       refine rw_ev (ev_pk_f rfl h96 rfl) rfl rfl rfl ?_
       refine rw_ev (v := .agg #[.bool (decide ((c36.1 - ((boxC (setC raw)).1.1)) = 0)), .bool (decide ((c36.2 - ((boxC (setC raw)).1.2.1)) = 0)), .bool (decide ((c36.1 - ((boxC (setC raw)).1.1)) = (((boxC (setC raw)).1.2.2.1) - 1))), .bool (decide ((c36.2 - ((boxC (setC raw)).1.2.1)) = (((boxC (setC raw)).1.2.2.2) - 1)))]) (ev_pure rfl rfl (fun _ => by kernel_rfl)) rfl rfl rfl ?_
       refine rw_none (op_store (off := 0) (v := .agg #[.bool (decide ((c36.1 - ((boxC (setC raw)).1.1)) = 0)), .bool (decide ((c36.2 - ((boxC (setC raw)).1.2.1)) = 0)), .bool (decide ((c36.1 - ((boxC (setC raw)).1.1)) = (((boxC (setC raw)).1.2.2.1) - 1))), .bool (decide ((c36.2 - ((boxC (setC raw)).1.2.1)) = (((boxC (setC raw)).1.2.2.2) - 1)))]) (cs' := #[.bool (decide ((c36.1 - ((boxC (setC raw)).1.1)) = 0)), .bool (decide ((c36.2 - ((boxC (setC raw)).1.2.1)) = 0)), .bool (decide ((c36.1 - ((boxC (setC raw)).1.1)) = (((boxC (setC raw)).1.2.2.1) - 1))), .bool (decide ((c36.2 - ((boxC (setC raw)).1.2.1)) = (((boxC (setC raw)).1.2.2.2) - 1)))]) f27 rfl rfl size_82 rfl (Nat.le_of_ble_eq_true rfl) (one_cons rfl (one_cons rfl (one_cons rfl (one_cons rfl one_nil)))) rfl) rfl rfl ?_
       rintro _ w100 ⟨k101, b102⟩
       replace K0 := Ex.kp_new K0 k101 (fun _ h => h ▸ Nat.le_trans (Nat.le_trans zw1 (Nat.le_trans zw4 (Nat.le_trans zw7 (Nat.le_trans zw10 zw14)))) hg19)
       replace f24 := f24.kp k101 (fun b h e => Nat.lt_irrefl _ (Nat.lt_of_lt_of_le (show g17 < _ from e ▸ (show b < _ from h)) (Nat.le_trans (Nat.le_trans zw1 (Nat.le_trans zw4 (Nat.le_trans zw7 (Nat.le_trans zw10 zw14)))) hg19)))
       replace f25 := f25.kp k101 (fun b h e => Nat.lt_irrefl _ (Nat.lt_of_lt_of_le (show g17 < _ from e ▸ (show b < _ from h.2)) (Nat.le_trans (Nat.le_trans zw7 (Nat.le_trans zw10 zw14)) hg19)))
       replace f26 := f26.kp k101 (Nat.ne_of_lt (Nat.lt_of_lt_of_le lg9 (Nat.le_trans zw14 hg19)))
       have zw100 := k101.size
       refine rw_nil ?_
       refine nw_block ?_
       refine nw_seq ?_
       refine cw_region ?_
       refine rw_ev (ev_move rfl) rfl rfl rfl ?_
       refine rw_ev (ev_add rfl rfl (by omega)) rfl rfl rfl ?_
       refine rw_ev (ev_assign rfl) rfl rfl rfl ?_
       refine rw_nil ?_
       exact nw_round ((i + 1), decide ((c36.1 - ((boxC (setC raw)).1.1)) = 0), decide ((c36.2 - ((boxC (setC raw)).1.2.1)) = 0), decide ((c36.1 - ((boxC (setC raw)).1.1)) = (((boxC (setC raw)).1.2.2.1) - 1)), decide ((c36.2 - ((boxC (setC raw)).1.2.1)) = (((boxC (setC raw)).1.2.2.2) - 1))) (Sub.cons rfl (Sub.cons rfl (Sub.cons rfl (Sub.cons rfl (Sub.cons rfl (Sub.cons rfl (Sub.int (b := ((i + 1) : Int)) rfl (by omega) Sub.nil))))))) ⟨K0, (Nat.le_trans z23 (Nat.le_trans zw34 (Nat.le_trans zw38 zw100))), f24, f25, f26, b102, (by first | omega | exact any_step_t (s := s0) (by assumption) (by assumption) (by assumption) | exact any_step_f (s := s0) (by assumption) (by assumption) (by assumption) | exact any_step_t (s := s1) (by assumption) (by assumption) (by assumption) | exact any_step_f (s := s1) (by assumption) (by assumption) (by assumption) | exact any_step_t (s := s2) (by assumption) (by assumption) (by assumption) | exact any_step_f (s := s2) (by assumption) (by assumption) (by assumption) | exact any_step_t (s := s3) (by assumption) (by assumption) (by assumption) | exact any_step_f (s := s3) (by assumption) (by assumption) (by assumption)), (by first | omega | exact any_step_t (s := s0) (by assumption) (by assumption) (by assumption) | exact any_step_f (s := s0) (by assumption) (by assumption) (by assumption) | exact any_step_t (s := s1) (by assumption) (by assumption) (by assumption) | exact any_step_f (s := s1) (by assumption) (by assumption) (by assumption) | exact any_step_t (s := s2) (by assumption) (by assumption) (by assumption) | exact any_step_f (s := s2) (by assumption) (by assumption) (by assumption) | exact any_step_t (s := s3) (by assumption) (by assumption) (by assumption) | exact any_step_f (s := s3) (by assumption) (by assumption) (by assumption)), (by first | omega | exact any_step_t (s := s0) (by assumption) (by assumption) (by assumption) | exact any_step_f (s := s0) (by assumption) (by assumption) (by assumption) | exact any_step_t (s := s1) (by assumption) (by assumption) (by assumption) | exact any_step_f (s := s1) (by assumption) (by assumption) (by assumption) | exact any_step_t (s := s2) (by assumption) (by assumption) (by assumption) | exact any_step_f (s := s2) (by assumption) (by assumption) (by assumption) | exact any_step_t (s := s3) (by assumption) (by assumption) (by assumption) | exact any_step_f (s := s3) (by assumption) (by assumption) (by assumption)), (by first | omega | exact any_step_t (s := s0) (by assumption) (by assumption) (by assumption) | exact any_step_f (s := s0) (by assumption) (by assumption) (by assumption) | exact any_step_t (s := s1) (by assumption) (by assumption) (by assumption) | exact any_step_f (s := s1) (by assumption) (by assumption) (by assumption) | exact any_step_t (s := s2) (by assumption) (by assumption) (by assumption) | exact any_step_f (s := s2) (by assumption) (by assumption) (by assumption) | exact any_step_t (s := s3) (by assumption) (by assumption) (by assumption) | exact any_step_f (s := s3) (by assumption) (by assumption) (by assumption)), (by first | omega | exact any_step_t (s := s0) (by assumption) (by assumption) (by assumption) | exact any_step_f (s := s0) (by assumption) (by assumption) (by assumption) | exact any_step_t (s := s1) (by assumption) (by assumption) (by assumption) | exact any_step_f (s := s1) (by assumption) (by assumption) (by assumption) | exact any_step_t (s := s2) (by assumption) (by assumption) (by assumption) | exact any_step_f (s := s2) (by assumption) (by assumption) (by assumption) | exact any_step_t (s := s3) (by assumption) (by assumption) (by assumption) | exact any_step_f (s := s3) (by assumption) (by assumption) (by assumption))⟩ (by first | omega | (dsimp only; omega))
  ·
   refine cw_f (b := decide ((i : Int) < ((setC raw).length : Int))) rfl (dec_f h33) ?_
   refine cw_exit ?_
   refine xw_seq ?_
   refine xw_goal ?_
   refine xw_hit ?_
   refine nw_seq ?_
   refine cw_seq ?_
   refine cw_region ?_
   refine rw_ev (ev_move rfl) rfl rfl rfl ?_
   refine rw_ev (ev_move rfl) rfl rfl rfl ?_
   refine rw_ev (ev_move rfl) rfl rfl rfl ?_
   refine rw_ev (ev_move rfl) rfl rfl rfl ?_
   refine rw_ev (v := .int .i64 ((setC raw).length : Int)) (ev_lenm (l := setC raw) ⟨_, f25⟩ rfl el_46 rfl) rfl rfl rfl ?_
   refine rw_ev (ev_gtr rfl rfl) rfl rfl rfl ?_
   refine rw_ev (ev_eqb bool_4 rfl rfl) rfl rfl rfl ?_
   refine rw_ev (ev_pk_t rfl rfl rfl) rfl rfl rfl ?_
   refine rw_ev (ev_move rfl) rfl rfl rfl ?_
   refine rw_ev (ev_move rfl) (gd_tt rfl (dec_t (by rw [hbi_]; exact decide_eq_decide.2 (by omega)))) rfl rfl ?_
   refine rw_ev (ev_not rfl rfl) (gd_tt rfl (dec_t (by rw [hbi_]; exact decide_eq_decide.2 (by omega)))) rfl rfl ?_
   refine rw_ev (ev_move rfl) (gd_tt rfl (dec_t (by rw [hbi_]; exact decide_eq_decide.2 (by omega)))) rfl rfl ?_
   rcases Bool.eq_false_or_eq_true ((boxC (setC raw)).2) with h103 | h103
   ·
    refine rw_ev (v := .agg #[.bool s0, .bool s1, .bool s2, .bool s3]) (ev_lbk (off := 0) (vs := [.bool s0, .bool s1, .bool s2, .bool s3]) (fun _ h => h ▸ f27) rfl agg_82 rfl rfl) (gd_ff rfl (not_f h103)) rfl rfl ?_
    refine rw_ev (v := .agg #[.bool true, .bool true, .bool true, .bool true]) (ev_pure rfl rfl (fun _ => by kernel_rfl)) (gd_ff rfl (not_f h103)) rfl rfl ?_
    refine rw_ev (ev_eql_82 rfl rfl) (gd_ff rfl (not_f h103)) rfl rfl ?_
    refine rw_ev (ev_pk_f rfl (not_f h103) rfl) (gd_tt rfl (dec_t (by rw [hbi_]; exact decide_eq_decide.2 (by omega)))) rfl rfl ?_
    refine rw_ev (ev_pk_t (b := decide (((boxC (setC raw)).2) = (decide ((0 : Int) < ((setC raw).length : Int))))) rfl (dec_t (by rw [hbi_]; exact decide_eq_decide.2 (by omega))) rfl) rfl rfl rfl ?_
    refine rw_ev (ev_move rfl) rfl rfl rfl ?_
    refine rw_ev (ev_move rfl) (gd_tt rfl (dec_t (by exact sides_all (by assumption) (by assumption) (by assumption) (by assumption) (by assumption) (by assumption)))) rfl rfl ?_
    refine rw_ev (ev_move rfl) (gd_tt rfl (dec_t (by exact sides_all (by assumption) (by assumption) (by assumption) (by assumption) (by assumption) (by assumption)))) rfl rfl ?_
    refine rw_skip (gd_ft rfl h103) rfl rfl ?_
    refine rw_skip (gd_ft rfl h103) rfl rfl ?_
    refine rw_skip (gd_ft rfl h103) rfl rfl ?_
    refine rw_ev (ev_pk_t rfl h103 rfl) (gd_tt rfl (dec_t (by exact sides_all (by assumption) (by assumption) (by assumption) (by assumption) (by assumption) (by assumption)))) rfl rfl ?_
    refine rw_ev (ev_pk_t rfl (dec_t (by exact sides_all (by assumption) (by assumption) (by assumption) (by assumption) (by assumption) (by assumption))) rfl) rfl rfl rfl ?_
    refine rw_ev (ev_assign rfl) rfl rfl rfl ?_
    refine rw_nil ?_
    refine nw_seq ?_
    refine cw_ret ?_
    refine ret_post (rs := [.tmp 2]) (vs := [.bool true]) rfl (.tmp rfl .nil) ?_
    refine ⟨?_, K0⟩
    · show (.bool true : Value) = _
      refine congrArg Value.bool ?_
      first | rfl | (have h_ := set_none (raw := raw) (by assumption); simp [h_])
   ·
    refine rw_skip (gd_ft rfl (not_t h103)) rfl rfl ?_
    refine rw_skip (gd_ft rfl (not_t h103)) rfl rfl ?_
    refine rw_skip (gd_ft rfl (not_t h103)) rfl rfl ?_
    refine rw_ev (ev_pk_t rfl (not_t h103) rfl) (gd_tt rfl (dec_t (by rw [hbi_]; exact decide_eq_decide.2 (by omega)))) rfl rfl ?_
    refine rw_ev (ev_pk_t (b := decide (((boxC (setC raw)).2) = (decide ((0 : Int) < ((setC raw).length : Int))))) rfl (dec_t (by rw [hbi_]; exact decide_eq_decide.2 (by omega))) rfl) rfl rfl rfl ?_
    refine rw_ev (ev_move rfl) rfl rfl rfl ?_
    refine rw_ev (ev_move rfl) rfl rfl rfl ?_
    refine rw_ev (ev_move rfl) rfl rfl rfl ?_
    refine rw_ev (v := .agg #[.int .i64 ((boxC (setC raw)).1.1), .int .i64 ((boxC (setC raw)).1.2.1), .int .i64 ((boxC (setC raw)).1.2.2.1), .int .i64 ((boxC (setC raw)).1.2.2.2)]) (ev_lbk (off := 0) (vs := [.int .i64 ((boxC (setC raw)).1.1), .int .i64 ((boxC (setC raw)).1.2.1), .int .i64 ((boxC (setC raw)).1.2.2.1), .int .i64 ((boxC (setC raw)).1.2.2.2)]) (fun _ h => h ▸ f26) rfl agg_69 rfl rfl) (gd_ff rfl h103) rfl rfl ?_
    refine rw_ev (v := .agg #[.int .i64 0, .int .i64 0, .int .i64 0, .int .i64 0]) (ev_pure rfl rfl (fun _ => by kernel_rfl)) (gd_ff rfl h103) rfl rfl ?_
    refine rw_ev (ev_eql_69 rfl rfl) (gd_ff rfl h103) rfl rfl ?_
    refine rw_ev (ev_pk_f rfl h103 rfl) rfl rfl rfl ?_
    refine rw_ev (ev_pk_t rfl rfl rfl) rfl rfl rfl ?_
    refine rw_ev (ev_assign rfl) rfl rfl rfl ?_
    refine rw_nil ?_
    refine nw_seq ?_
    refine cw_ret ?_
    refine ret_post (rs := [.tmp 2]) (vs := [.bool (decide (((boxC (setC raw)).1.1, (boxC (setC raw)).1.2.1, (boxC (setC raw)).1.2.2.1, (boxC (setC raw)).1.2.2.2) = (0, 0, 0, 0)))]) rfl (.tmp rfl .nil) ?_
    refine ⟨?_, K0⟩
    · show (.bool (decide (((boxC (setC raw)).1.1, (boxC (setC raw)).1.2.1, (boxC (setC raw)).1.2.2.1, (boxC (setC raw)).1.2.2.2) = (0, 0, 0, 0))) : Value) = _
      refine congrArg Value.bool ?_
      first | rfl | (have h_ := set_none (raw := raw) (by assumption); simp [h_])

end Go.Proofs.Ythpaadmpgdglnaa
