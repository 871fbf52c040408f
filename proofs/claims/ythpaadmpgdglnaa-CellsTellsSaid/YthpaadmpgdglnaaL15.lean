/- The law CellsTells: it returns true. Its condition: numbers of 64 bits. -/
import Derived.Test.YthpaadmpgdglnaaFg
import Derived.Test.YthpaadmpgdglnaaD9
import Derived.Test.YthpaadmpgdglnaaKe
namespace Go.Proofs.Ythpaadmpgdglnaa
open Go Go.RowKit
set_option linter.unusedVariables false
set_option linter.unusedSimpArgs false
set_option maxRecDepth 100000
set_option maxHeartbeats 4000000

theorem law_CellsTells (w : World) (rv : Value) (raw : List Cell) (hrv : Sl w (fun b => b < w.heap.size) rv 2 (raw.map encC)) (hrvr : RawOk raw) (av : Value) (al : List Cell) (hav : Sl w (fun b => b < w.heap.size) av 2 (al.map encC)) (c : Cell) (dx : Int) (dy : Int) (hc1 : -9223372036854775808 ≤ c.1 ∧ c.1 ≤ 9223372036854775807) (hc2 : -9223372036854775808 ≤ c.2 ∧ c.2 ≤ 9223372036854775807) (hdx64 : -9223372036854775808 ≤ dx ∧ dx ≤ 9223372036854775807) (hdy64 : -9223372036854775808 ≤ dy ∧ dy ≤ 9223372036854775807) : Fn Try.prog 15 [rv, av, .agg #[.int .i64 c.1, .int .i64 c.2], .int .i64 dx, .int .i64 dy] w (fun v w' =>  v = .bool true ∧ Ex w w') := by
  have K0 : Ex w w := Kp.refl _ _
  refine fn_enter (n := 188) Try.func15 rfl rfl (Nat.le_of_ble_eq_true rfl) ?_
  show CW _ _ _ _ _ _ [(0, rv), (1, av), (2, .agg #[.int .i64 c.1, .int .i64 c.2]), (3, .int .i64 dx), (4, .int .i64 dy)] _
  have hlav_ := hav.lenm
  have hlen_ := set_len raw
  refine cw_seq ?_
  refine cw_region ?_
  refine rw_op (op_box (v := .agg #[.int .i64 c.1, .int .i64 c.2]) (cs := #[.int .i64 c.1, .int .i64 c.2]) rfl rfl) rfl rfl rfl ?_
  rintro _ w2 ⟨g1, rfl, hg3, k4, b5⟩
  replace K0 := Ex.trans K0 k4
  replace hrv := hrv.ex k4
  replace hav := hav.ex k4
  have zw2 := k4.size
  have lg1 := b5.lt
  refine rw_ev (ev_assign rfl) rfl rfl rfl ?_
  refine rw_nil ?_
  refine nw_seq ?_
  refine cw_seq ?_
  refine cw_region ?_
  refine rw_op (op_fn (xs := []) ent_56 rfl (c_awake1 w2 )) rfl rfl rfl ?_
  rintro _ w6 ⟨rfl, k7⟩
  replace K0 := Ex.trans K0 k7
  replace hrv := hrv.ex k7
  replace hav := hav.ex k7
  replace b5 := b5.ex k7
  have zw6 := k7.size
  refine rw_ev (ev_assign rfl) rfl rfl rfl ?_
  refine rw_nil ?_
  refine nw_seq ?_
  refine cw_seq ?_
  refine cw_region ?_
  refine rw_ev (ev_move rfl) rfl rfl rfl ?_
  refine rw_ev (ev_assign rfl) rfl rfl rfl ?_
  refine rw_nil ?_
  refine nw_seq ?_
  refine cw_seq ?_
  refine cw_seq ?_
  refine cw_region ?_
  refine rw_ev (ev_move rfl) rfl rfl rfl ?_
  refine rw_ev (v := .int .i64 (al.length : Int)) (ev_lenm (l := al) ⟨_, hav⟩ rfl el_46 rfl) rfl rfl rfl ?_
  refine rw_ev (ev_gtr rfl rfl) rfl rfl rfl ?_
  refine rw_nil ?_
  refine nw_seq ?_
  refine cw_mid (σ := Value × List Cell) (fun s_ => match s_ with | (xv, xl) => [(0, rv), (3, .int .i64 dx), (4, .int .i64 dy), (7, .pointer (some ⟨g1, 0, none⟩)), (10, .bool false), (11, .bool true), (12, xv)]) (fun s_ wr => match s_ with | (xv, xl) => Ex w wr ∧ w6.heap.size ≤ wr.heap.size ∧ Sl wr (fun b => b < w.heap.size) rv 2 (raw.map encC) ∧ Sl wr (fun b => b < w.heap.size) av 2 (al.map encC) ∧ Bx wr g1 55 #[.int .i64 c.1, .int .i64 c.2] ∧ Sl wr (fun b => b < w.heap.size) xv 2 (xl.map encC) ∧ xl.length ≤ 300) ?_ ?_
  ·
   by_cases h8 : (300 : Int) < (al.length : Int)
   ·
    refine cw_t (b := decide ((300 : Int) < (al.length : Int))) rfl (dec_t h8) ?_
    refine cw_region ?_
    refine rw_ev (ev_move rfl) rfl rfl rfl ?_
    have hs9 : 0 ≤ (0 : Int) ∧ (0 : Int) ≤ 300 ∧ (300 : Int) ≤ (al.map encC).length := by rw [List.length_map]; omega
    have sl10 := sub_encs hav (lo := 0) (hi := 300) (by omega) (by have := hs9; rw [List.length_map] at this; omega)
    refine rw_ev (v := (subSl av 0 300 2)) (ev_slice (l := 0) (h := 300) ⟨_, hav⟩ rfl el_46 (.inl ⟨rfl, rfl⟩) (.inr ⟨_, rfl, rfl⟩) hs9) rfl rfl rfl ?_
    refine rw_ev (ev_assign rfl) rfl rfl rfl ?_
    refine rw_nil ?_
    exact nw_cut ((subSl av 0 300 2), ((al.take 300).drop 0)) (Sub.cons rfl (Sub.cons rfl (Sub.cons rfl (Sub.cons rfl (Sub.cons rfl (Sub.cons rfl (Sub.val (v := subSl av 0 300 2) rfl (by rfl) Sub.nil))))))) ⟨K0, (Nat.le_refl _), hrv, hav, b5, sl10, (by first | omega | (simp only [List.length_take, List.length_drop]; omega))⟩
   ·
    refine cw_f (b := decide ((300 : Int) < (al.length : Int))) rfl (dec_f h8) ?_
    refine cw_skip ?_
    exact nw_cut (av, al) (Sub.cons rfl (Sub.cons rfl (Sub.cons rfl (Sub.cons rfl (Sub.cons rfl (Sub.cons rfl (Sub.cons rfl Sub.nil))))))) ⟨K0, (Nat.le_refl _), hrv, hav, b5, hav, (by first | omega | (simp only [List.length_take, List.length_drop]; omega))⟩
  ·
   rintro ⟨xv, xl⟩ w11 ⟨K0, z12, f13, f14, f15, f16, pr17⟩
   show NW _ _ _ _ _ [(0, rv), (3, .int .i64 dx), (4, .int .i64 dy), (7, .pointer (some ⟨g1, 0, none⟩)), (10, .bool false), (11, .bool true), (12, xv)] _
   refine nw_seq ?_
   refine cw_seq ?_
   refine cw_seq ?_
   refine cw_region ?_
   refine rw_ev (ev_move rfl) rfl rfl rfl ?_
   refine rw_op (op_fn (xs := [.tmp 36]) ent_44 rfl (c_set w11 rv raw (Sl.below f13) (by exact hrvr))) rfl rfl rfl ?_
   rintro u18 w19 ⟨_, rfl, k20, sl21⟩
   replace K0 := Ex.trans K0 k20
   replace f13 := f13.ex k20
   replace f15 := f15.ex k20
   replace f16 := f16.ex k20
   have zw19 := k20.size
   refine rw_ev (ev_move rfl) rfl rfl rfl ?_
   refine rw_op (op_buildSlice (E := 46) (m := 2) (pv := #[(0, u18), (1, xv)]) (cs := #[u18, xv]) rfl (fun _ => by obtain ⟨_, _, _, rfl⟩ := (sl21).isSl; obtain ⟨_, _, _, rfl⟩ := (f16).isSl; kernel_rfl)) rfl rfl rfl ?_
   rintro _ w23 ⟨g22, rfl, hg24, k25, b26⟩
   replace K0 := Ex.trans K0 k25
   replace f13 := f13.ex k25
   replace f15 := f15.ex k25
   replace f16 := f16.ex k25
   replace sl21 := sl21.ex k25
   have zw23 := k25.size
   have lg22 := b26.lt
   refine rw_ev (v := .int .i64 2) (ev_pure rfl rfl (fun _ => by kernel_rfl)) rfl rfl rfl ?_
   refine rw_ev (ev_move rfl) rfl rfl rfl ?_
   refine rw_nil ?_
   refine nw_seq ?_
   refine cw_block ?_
   refine cw_rounds 2 ?_
   refine cw_seq ?_
   refine cw_region ?_
   refine rw_ev (v := .bool true) (ev_lss (p := 0) (q := 2) rfl rfl) rfl rfl rfl ?_
   refine rw_nil ?_
   refine nw_seq ?_
   refine cw_seq ?_
   refine cw_t (b := true) rfl rfl ?_
   refine cw_skip ?_
   refine nw_seq ?_
   refine cw_seq ?_
   refine cw_block ?_
   refine cw_seq ?_
   refine cw_region ?_
   refine rw_ev (v := .pointer (some ⟨g22, 0, none⟩)) (ev_litAt (i := 0) rfl rfl el_62 (by decide) 0 rfl) rfl rfl rfl ?_
   refine rw_ev (v := u18) (ev_lb1 (off := 0) (fun _ h => h ▸ b26) rfl one_46 rfl) rfl rfl rfl ?_
   refine rw_ev (ev_assign rfl) rfl rfl rfl ?_
   refine rw_nil ?_
   refine nw_seq ?_
   refine cw_seq ?_
   refine cw_region ?_
   refine rw_ev (ev_move rfl) rfl rfl rfl ?_
   refine rw_op (op_fn (xs := [.tmp 46]) ent_57 rfl (c_cof w23 u18 (setC raw) (Sl.below sl21) (by (try simp only [List.length_take, List.length_drop]); omega))) rfl rfl rfl ?_
   rintro _ w28 ⟨u27, rfl, k29, sl30⟩
   replace K0 := Ex.trans K0 k29
   replace f15 := f15.ex k29
   replace f16 := f16.ex k29
   replace sl21 := sl21.ex k29
   replace b26 := b26.ex k29
   have zw28 := k29.size
   refine rw_ev (ev_move rfl) rfl rfl rfl ?_
   refine rw_ev (ev_extract rfl rfl) rfl rfl rfl ?_
   refine rw_ev (ev_extract rfl rfl) rfl rfl rfl ?_
   refine rw_ev (ev_assign rfl) rfl rfl rfl ?_
   refine rw_ev (ev_assign rfl) rfl rfl rfl ?_
   refine rw_nil ?_
   refine nw_seq ?_
   refine cw_seq ?_
   refine cw_region ?_
   refine rw_ev (ev_move rfl) rfl rfl rfl ?_
   refine rw_op (op_fn (xs := [.tmp 51]) ent_35 rfl (c_of w28 u18 (setC raw) (Sl.below sl21) (by (try simp only [List.length_take, List.length_drop]); omega))) rfl rfl rfl ?_
   rintro _ w32 ⟨u31, rfl, k33, sl34⟩
   replace K0 := Ex.trans K0 k33
   replace f15 := f15.ex k33
   replace f16 := f16.ex k33
   replace sl21 := sl21.ex k33
   replace b26 := b26.ex k33
   replace sl30 := sl30.ex k33
   have zw32 := k33.size
   refine rw_ev (ev_move rfl) rfl rfl rfl ?_
   refine rw_ev (ev_extract rfl rfl) rfl rfl rfl ?_
   refine rw_ev (ev_extract rfl rfl) rfl rfl rfl ?_
   refine rw_ev (ev_assign rfl) rfl rfl rfl ?_
   refine rw_ev (ev_assign rfl) rfl rfl rfl ?_
   refine rw_nil ?_
   refine nw_seq ?_
   refine cw_seq ?_
   refine cw_seq ?_
   refine cw_region ?_
   refine rw_ev (ev_move rfl) rfl rfl rfl ?_
   refine rw_ev (ev_move rfl) rfl rfl rfl ?_
   refine rw_op (op_fn (xs := [.tmp 55, .tmp 56]) ent_37 rfl (c_same w32 u27 ((ofC (setC raw)).1) (Sl.below sl30) u31 ((ofC (setC raw)).1) (Sl.below sl34))) rfl rfl rfl ?_
   rintro _ w35 ⟨rfl, k36⟩
   replace K0 := Ex.trans K0 k36
   replace f15 := f15.ex k36
   replace f16 := f16.ex k36
   replace sl21 := sl21.ex k36
   replace b26 := b26.ex k36
   replace sl30 := sl30.ex k36
   replace sl34 := sl34.ex k36
   have zw35 := k36.size
   refine rw_ev (ev_not rfl rfl) rfl rfl rfl ?_
   refine rw_ev (ev_move rfl) rfl rfl rfl ?_
   refine rw_ev (ev_move rfl) (gd_ff rfl (not_f (by exact same_self _))) rfl rfl ?_
   refine rw_ev (ev_move rfl) (gd_ff rfl (not_f (by exact same_self _))) rfl rfl ?_
   refine rw_ev (ev_ne rfl rfl) (gd_ff rfl (not_f (by exact same_self _))) rfl rfl ?_
   refine rw_ev (ev_pk_f rfl (not_f (by exact same_self _)) rfl) rfl rfl rfl ?_
   refine rw_ev (ev_move rfl) rfl rfl rfl ?_
   refine rw_ev (ev_move rfl) (gd_ff rfl (dec_f (fun h_ => h_ rfl))) rfl rfl ?_
   refine rw_op (op_fn (xs := [.tmp 65]) ent_58 rfl (c_cright w35 u18 (setC raw) (Sl.below sl21))) (gd_ff rfl (dec_f (fun h_ => h_ rfl))) rfl rfl ?_
   rintro _ w37 ⟨rfl, k38⟩
   replace K0 := Ex.trans K0 k38
   replace f15 := f15.ex k38
   replace f16 := f16.ex k38
   replace sl21 := sl21.ex k38
   replace b26 := b26.ex k38
   replace sl30 := sl30.ex k38
   replace sl34 := sl34.ex k38
   have zw37 := k38.size
   refine rw_ev (ev_move rfl) (gd_ff rfl (dec_f (fun h_ => h_ rfl))) rfl rfl ?_
   refine rw_op (op_fn (xs := [.tmp 67]) ent_54 rfl (c_right w37 u18 (setC raw) (Sl.below sl21))) (gd_ff rfl (dec_f (fun h_ => h_ rfl))) rfl rfl ?_
   rintro _ w39 ⟨rfl, k40⟩
   replace K0 := Ex.trans K0 k40
   replace f15 := f15.ex k40
   replace f16 := f16.ex k40
   replace sl21 := sl21.ex k40
   replace b26 := b26.ex k40
   replace sl30 := sl30.ex k40
   replace sl34 := sl34.ex k40
   have zw39 := k40.size
   refine rw_ev (ev_neb bool_4 rfl rfl) (gd_ff rfl (dec_f (fun h_ => h_ rfl))) rfl rfl ?_
   refine rw_ev (ev_pk_f rfl (dec_f (fun h_ => h_ rfl)) rfl) rfl rfl rfl ?_
   refine rw_nil ?_
   refine nw_seq ?_
   refine cw_f (b := decide ((rightC (setC raw)) ≠ (rightC (setC raw)))) rfl (dec_f (fun h_ => h_ rfl)) ?_
   refine cw_skip ?_
   refine nw_seq ?_
   refine cw_seq ?_
   refine cw_region ?_
   refine rw_ev (ev_move rfl) rfl rfl rfl ?_
   refine rw_op (op_fn (xs := [.tmp 72]) ent_59 rfl (c_cbox w39 u18 (setC raw) (Sl.below sl21))) rfl rfl rfl ?_
   rintro _ w41 ⟨rfl, k42⟩
   replace K0 := Ex.trans K0 k42
   replace f15 := f15.ex k42
   replace f16 := f16.ex k42
   replace sl21 := sl21.ex k42
   replace b26 := b26.ex k42
   have zw41 := k42.size
   refine rw_ev (ev_move rfl) rfl rfl rfl ?_
   refine rw_ev (ev_extract rfl rfl) rfl rfl rfl ?_
   refine rw_ev (ev_extract rfl rfl) rfl rfl rfl ?_
   refine rw_op (op_alloc zero_69) rfl rfl rfl ?_
   rintro _ w44 ⟨g43, rfl, hg45, k46, b47⟩
   replace K0 := Ex.trans K0 k46
   replace f15 := f15.ex k46
   replace f16 := f16.ex k46
   replace sl21 := sl21.ex k46
   replace b26 := b26.ex k46
   have zw44 := k46.size
   have lg43 := b47.lt
   refine rw_none (op_store (off := 0) (v := .agg #[.int .i64 ((boxC (setC raw)).1.1), .int .i64 ((boxC (setC raw)).1.2.1), .int .i64 ((boxC (setC raw)).1.2.2.1), .int .i64 ((boxC (setC raw)).1.2.2.2)]) (cs' := #[.int .i64 ((boxC (setC raw)).1.1), .int .i64 ((boxC (setC raw)).1.2.1), .int .i64 ((boxC (setC raw)).1.2.2.1), .int .i64 ((boxC (setC raw)).1.2.2.2)]) b47 rfl rfl size_69 rfl (Nat.le_of_ble_eq_true rfl) (one_cons rfl (one_cons rfl (one_cons rfl (one_cons rfl one_nil)))) rfl) rfl rfl ?_
   rintro _ w48 ⟨k49, b50⟩
   replace K0 := Ex.kp_new K0 k49 (fun _ h => h ▸ Nat.le_trans (Nat.le_trans zw2 (Nat.le_trans zw6 (Nat.le_trans z12 (Nat.le_trans zw19 (Nat.le_trans zw23 (Nat.le_trans zw28 (Nat.le_trans zw32 (Nat.le_trans zw35 (Nat.le_trans zw37 (Nat.le_trans zw39 zw41)))))))))) hg45)
   replace f15 := f15.kp k49 (Nat.ne_of_lt (Nat.lt_of_lt_of_le lg1 (Nat.le_trans (Nat.le_trans zw6 (Nat.le_trans z12 (Nat.le_trans zw19 (Nat.le_trans zw23 (Nat.le_trans zw28 (Nat.le_trans zw32 (Nat.le_trans zw35 (Nat.le_trans zw37 (Nat.le_trans zw39 zw41))))))))) hg45)))
   replace f16 := f16.kp k49 (fun b h e => Nat.lt_irrefl _ (Nat.lt_of_lt_of_le (show g43 < _ from e ▸ (show b < _ from h)) (Nat.le_trans (Nat.le_trans zw2 (Nat.le_trans zw6 (Nat.le_trans z12 (Nat.le_trans zw19 (Nat.le_trans zw23 (Nat.le_trans zw28 (Nat.le_trans zw32 (Nat.le_trans zw35 (Nat.le_trans zw37 (Nat.le_trans zw39 zw41)))))))))) hg45)))
   replace sl21 := sl21.kp k49 (fun b h e => Nat.lt_irrefl _ (Nat.lt_of_lt_of_le (show g43 < _ from e ▸ (show b < _ from h.2)) (Nat.le_trans (Nat.le_trans zw23 (Nat.le_trans zw28 (Nat.le_trans zw32 (Nat.le_trans zw35 (Nat.le_trans zw37 (Nat.le_trans zw39 zw41)))))) hg45)))
   replace b26 := b26.kp k49 (Nat.ne_of_lt (Nat.lt_of_lt_of_le lg22 (Nat.le_trans (Nat.le_trans zw28 (Nat.le_trans zw32 (Nat.le_trans zw35 (Nat.le_trans zw37 (Nat.le_trans zw39 zw41))))) hg45)))
   have zw48 := k49.size
   refine rw_ev (ev_assign rfl) rfl rfl rfl ?_
   refine rw_nil ?_
   refine nw_seq ?_
   refine cw_seq ?_
   refine cw_region ?_
   refine rw_ev (ev_move rfl) rfl rfl rfl ?_
   refine rw_op (op_fn (xs := [.tmp 77]) ent_53 rfl (c_box w48 u18 (setC raw) (Sl.below sl21))) rfl rfl rfl ?_
   rintro _ w51 ⟨rfl, k52⟩
   replace K0 := Ex.trans K0 k52
   replace f15 := f15.ex k52
   replace f16 := f16.ex k52
   replace sl21 := sl21.ex k52
   replace b26 := b26.ex k52
   replace b50 := b50.ex k52
   have zw51 := k52.size
   refine rw_ev (ev_move rfl) rfl rfl rfl ?_
   refine rw_ev (ev_extract rfl rfl) rfl rfl rfl ?_
   refine rw_ev (ev_extract rfl rfl) rfl rfl rfl ?_
   refine rw_op (op_alloc zero_69) rfl rfl rfl ?_
   rintro _ w54 ⟨g53, rfl, hg55, k56, b57⟩
   replace K0 := Ex.trans K0 k56
   replace f15 := f15.ex k56
   replace f16 := f16.ex k56
   replace sl21 := sl21.ex k56
   replace b26 := b26.ex k56
   replace b50 := b50.ex k56
   have zw54 := k56.size
   have lg53 := b57.lt
   refine rw_none (op_store (off := 0) (v := .agg #[.int .i64 ((boxC (setC raw)).1.1), .int .i64 ((boxC (setC raw)).1.2.1), .int .i64 ((boxC (setC raw)).1.2.2.1), .int .i64 ((boxC (setC raw)).1.2.2.2)]) (cs' := #[.int .i64 ((boxC (setC raw)).1.1), .int .i64 ((boxC (setC raw)).1.2.1), .int .i64 ((boxC (setC raw)).1.2.2.1), .int .i64 ((boxC (setC raw)).1.2.2.2)]) b57 rfl rfl size_69 rfl (Nat.le_of_ble_eq_true rfl) (one_cons rfl (one_cons rfl (one_cons rfl (one_cons rfl one_nil)))) rfl) rfl rfl ?_
   rintro _ w58 ⟨k59, b60⟩
   replace K0 := Ex.kp_new K0 k59 (fun _ h => h ▸ Nat.le_trans (Nat.le_trans zw2 (Nat.le_trans zw6 (Nat.le_trans z12 (Nat.le_trans zw19 (Nat.le_trans zw23 (Nat.le_trans zw28 (Nat.le_trans zw32 (Nat.le_trans zw35 (Nat.le_trans zw37 (Nat.le_trans zw39 (Nat.le_trans zw41 (Nat.le_trans zw44 (Nat.le_trans zw48 zw51))))))))))))) hg55)
   replace f15 := f15.kp k59 (Nat.ne_of_lt (Nat.lt_of_lt_of_le lg1 (Nat.le_trans (Nat.le_trans zw6 (Nat.le_trans z12 (Nat.le_trans zw19 (Nat.le_trans zw23 (Nat.le_trans zw28 (Nat.le_trans zw32 (Nat.le_trans zw35 (Nat.le_trans zw37 (Nat.le_trans zw39 (Nat.le_trans zw41 (Nat.le_trans zw44 (Nat.le_trans zw48 zw51)))))))))))) hg55)))
   replace f16 := f16.kp k59 (fun b h e => Nat.lt_irrefl _ (Nat.lt_of_lt_of_le (show g53 < _ from e ▸ (show b < _ from h)) (Nat.le_trans (Nat.le_trans zw2 (Nat.le_trans zw6 (Nat.le_trans z12 (Nat.le_trans zw19 (Nat.le_trans zw23 (Nat.le_trans zw28 (Nat.le_trans zw32 (Nat.le_trans zw35 (Nat.le_trans zw37 (Nat.le_trans zw39 (Nat.le_trans zw41 (Nat.le_trans zw44 (Nat.le_trans zw48 zw51))))))))))))) hg55)))
   replace sl21 := sl21.kp k59 (fun b h e => Nat.lt_irrefl _ (Nat.lt_of_lt_of_le (show g53 < _ from e ▸ (show b < _ from h.2)) (Nat.le_trans (Nat.le_trans zw23 (Nat.le_trans zw28 (Nat.le_trans zw32 (Nat.le_trans zw35 (Nat.le_trans zw37 (Nat.le_trans zw39 (Nat.le_trans zw41 (Nat.le_trans zw44 (Nat.le_trans zw48 zw51))))))))) hg55)))
   replace b26 := b26.kp k59 (Nat.ne_of_lt (Nat.lt_of_lt_of_le lg22 (Nat.le_trans (Nat.le_trans zw28 (Nat.le_trans zw32 (Nat.le_trans zw35 (Nat.le_trans zw37 (Nat.le_trans zw39 (Nat.le_trans zw41 (Nat.le_trans zw44 (Nat.le_trans zw48 zw51)))))))) hg55)))
   replace b50 := b50.kp k59 (Nat.ne_of_lt (Nat.lt_of_lt_of_le lg43 (Nat.le_trans (Nat.le_trans zw48 zw51) hg55)))
   have zw58 := k59.size
   refine rw_ev (ev_assign rfl) rfl rfl rfl ?_
   refine rw_nil ?_
   refine nw_seq ?_
   refine cw_seq ?_
   refine cw_seq ?_
   refine cw_region ?_
   refine rw_ev (v := .agg #[.int .i64 ((boxC (setC raw)).1.1), .int .i64 ((boxC (setC raw)).1.2.1), .int .i64 ((boxC (setC raw)).1.2.2.1), .int .i64 ((boxC (setC raw)).1.2.2.2)]) (ev_lbk (off := 0) (vs := [.int .i64 ((boxC (setC raw)).1.1), .int .i64 ((boxC (setC raw)).1.2.1), .int .i64 ((boxC (setC raw)).1.2.2.1), .int .i64 ((boxC (setC raw)).1.2.2.2)]) (fun _ h => h ▸ b50) rfl agg_69 rfl rfl) rfl rfl rfl ?_
   refine rw_ev (v := .agg #[.int .i64 ((boxC (setC raw)).1.1), .int .i64 ((boxC (setC raw)).1.2.1), .int .i64 ((boxC (setC raw)).1.2.2.1), .int .i64 ((boxC (setC raw)).1.2.2.2)]) (ev_lbk (off := 0) (vs := [.int .i64 ((boxC (setC raw)).1.1), .int .i64 ((boxC (setC raw)).1.2.1), .int .i64 ((boxC (setC raw)).1.2.2.1), .int .i64 ((boxC (setC raw)).1.2.2.2)]) (fun _ h => h ▸ b60) rfl agg_69 rfl rfl) rfl rfl rfl ?_
   refine rw_ev (ev_neq_69 rfl rfl) rfl rfl rfl ?_
   refine rw_ev (ev_move rfl) rfl rfl rfl ?_
   refine rw_ev (ev_move rfl) (gd_ff rfl (dec_f (fun h_ => h_ rfl))) rfl rfl ?_
   refine rw_ev (ev_move rfl) (gd_ff rfl (dec_f (fun h_ => h_ rfl))) rfl rfl ?_
   refine rw_ev (ev_neb bool_4 rfl rfl) (gd_ff rfl (dec_f (fun h_ => h_ rfl))) rfl rfl ?_
   refine rw_ev (ev_pk_f rfl (dec_f (fun h_ => h_ rfl)) rfl) rfl rfl rfl ?_
   refine rw_nil ?_
   refine nw_seq ?_
   refine cw_f (b := decide (((boxC (setC raw)).2) ≠ ((boxC (setC raw)).2))) rfl (dec_f (fun h_ => h_ rfl)) ?_
   refine cw_skip ?_
   refine nw_seq ?_
   refine cw_seq ?_
   refine cw_seq ?_
   refine cw_drawn (fun w61 w_ => Ex w61 w_) [] (.take 0 (.take 1 (.take 2 (.take 5 (.take 6 (.take 12 (.one 3 (.take 4 (.one 7 (.take 8 (.take 9 (.one 10 (.take 11 .done))))))))))))) mixed (by kernel_rfl) (by kernel_rfl) (Nat.le_of_ble_eq_true (by kernel_rfl)) ?_; intro w61 k62 hs_
   replace K0 := Ex.trans K0 k62
   replace f15 := f15.ex k62
   replace f16 := f16.ex k62
   replace sl21 := sl21.ex k62
   replace b26 := b26.ex k62
   have zw61 := k62.size
   have hS : (fun w_ => Ex w61 w_) w61 := Kp.refl _ _
   refine rp_take (v := .agg #[.int .i64 c.1, .int .i64 c.2]) hs_ hS rfl rfl (ev_lbk (off := 0) (vs := [.int .i64 c.1, .int .i64 c.2]) (fun _ h => f15.ex h) rfl agg_55 rfl rfl) rfl rfl rfl ?_
   refine rp_take (v := .pointer (some ⟨g1, 0, none⟩)) hs_ hS rfl rfl (ev_field (o := 0) rfl foff_55_0) rfl rfl rfl ?_
   refine rp_take (v := .int .i64 c.1) hs_ hS rfl rfl (ev_lb1 (off := 0) (fun _ h => f15.ex h) rfl one_3 rfl) rfl rfl rfl ?_
   refine rp_take (v := .pointer (some ⟨g1, 1, none⟩)) hs_ hS rfl rfl (ev_field (o := 1) rfl foff_55_1) rfl rfl rfl ?_
   refine rp_take (v := .int .i64 c.2) hs_ hS rfl rfl (ev_lb1 (off := 1) (fun _ h => f15.ex h) rfl one_3 rfl) rfl rfl rfl ?_
   refine rp_take hs_ hS rfl rfl (ev_move rfl) rfl rfl rfl ?_
   refine rp_up (up_op rfl (op_fn (xs := [.tmp 91, .const (.int .i64 16)]) ent_60 rfl (c_pick60 w61 c.1 (16 : Int) (by omega) (by omega))) rfl rfl rfl ?_)
   rintro _ w63 ⟨rfl, k64, pr65⟩
   replace K0 := Ex.trans K0 k64
   replace hS := Ex.trans hS k64
   have zw63 := k64.size
   refine ⟨(fun _ => hS), ?_⟩
   refine rp_take hs_ hS rfl rfl (ev_sub rfl rfl (by omega)) rfl rfl rfl ?_
   refine rp_up (up_op rfl (op_fn (xs := [.tmp 95, .const (.int .i64 16)]) ent_60 rfl (c_pick60 w63 c.2 (16 : Int) (by omega) (by omega))) rfl rfl rfl ?_)
   rintro _ w66 ⟨rfl, k67, pr68⟩
   replace K0 := Ex.trans K0 k67
   replace hS := Ex.trans hS k67
   have zw66 := k67.size
   refine ⟨(fun _ => hS), ?_⟩
   refine rp_take hs_ hS rfl rfl (ev_sub rfl rfl (by omega)) rfl rfl rfl ?_
   refine rp_take (v := .agg #[.int .i64 ((pickI c.1 (16 : Int)) - 8), .int .i64 ((pickI c.2 (16 : Int)) - 8)]) hs_ hS rfl rfl (ev_pure rfl rfl (fun _ => by kernel_rfl)) rfl rfl rfl ?_
   refine rp_up (up_op rfl (op_buildSlice (E := 55) (m := 2) (pv := #[(0, .agg #[.int .i64 c.1, .int .i64 c.2]), (1, .agg #[.int .i64 ((pickI c.1 (16 : Int)) - 8), .int .i64 ((pickI c.2 (16 : Int)) - 8)])]) (cs := #[.int .i64 c.1, .int .i64 c.2, .int .i64 ((pickI c.1 (16 : Int)) - 8), .int .i64 ((pickI c.2 (16 : Int)) - 8)]) rfl (fun _ => by kernel_rfl)) rfl rfl rfl ?_)
   rintro _ w70 ⟨g69, rfl, hg71, k72, b73⟩
   replace K0 := Ex.trans K0 k72
   replace hS := Ex.trans hS k72
   have zw70 := k72.size
   have lg69 := b73.lt
   refine ⟨(fun _ => hS), ?_⟩
   refine rp_take (v := .int .i64 2) hs_ hS rfl rfl (ev_pure rfl rfl (fun _ => by kernel_rfl)) rfl rfl rfl ?_
   refine rp_done ?_
   clear hs_
   replace f15 := f15.ex hS
   replace f16 := f16.ex hS
   replace sl21 := sl21.ex hS
   replace b26 := b26.ex hS
   refine nw_seq ?_
   refine cw_block ?_
   refine cw_rounds 2 ?_
   refine cw_seq ?_
   refine cw_region ?_
   refine rw_ev (v := .bool true) (ev_lss (p := 0) (q := 2) rfl rfl) rfl rfl rfl ?_
   refine rw_nil ?_
   refine nw_seq ?_
   refine cw_seq ?_
   refine cw_t (b := true) rfl rfl ?_
   refine cw_skip ?_
   refine nw_seq ?_
   refine cw_seq ?_
   refine cw_block ?_
   refine cw_seq ?_
   refine cw_region ?_
   refine rw_ev (v := .pointer (some ⟨g69, 0, none⟩)) (ev_litAt (i := 0) rfl rfl el_46 (by decide) 0 rfl) rfl rfl rfl ?_
   refine rw_ev (v := .agg #[.int .i64 c.1, .int .i64 c.2]) (ev_lbk (off := 0) (vs := [.int .i64 c.1, .int .i64 c.2]) (fun _ h => h ▸ b73) rfl agg_55 rfl rfl) rfl rfl rfl ?_
   refine rw_op (op_alloc zero_55) rfl rfl rfl ?_
   rintro _ w75 ⟨g74, rfl, hg76, k77, b78⟩
   replace K0 := Ex.trans K0 k77
   replace f15 := f15.ex k77
   replace f16 := f16.ex k77
   replace sl21 := sl21.ex k77
   replace b26 := b26.ex k77
   replace b73 := b73.ex k77
   have zw75 := k77.size
   have lg74 := b78.lt
   refine rw_none (op_store (off := 0) (v := .agg #[.int .i64 c.1, .int .i64 c.2]) (cs' := #[.int .i64 c.1, .int .i64 c.2]) b78 rfl rfl size_55 rfl (Nat.le_of_ble_eq_true rfl) (one_cons rfl (one_cons rfl one_nil)) rfl) rfl rfl ?_
   rintro _ w79 ⟨k80, b81⟩
   replace K0 := Ex.kp_new K0 k80 (fun _ h => h ▸ Nat.le_trans (Nat.le_trans zw2 (Nat.le_trans zw6 (Nat.le_trans z12 (Nat.le_trans zw19 (Nat.le_trans zw23 (Nat.le_trans zw28 (Nat.le_trans zw32 (Nat.le_trans zw35 (Nat.le_trans zw37 (Nat.le_trans zw39 (Nat.le_trans zw41 (Nat.le_trans zw44 (Nat.le_trans zw48 (Nat.le_trans zw51 (Nat.le_trans zw54 (Nat.le_trans zw58 (Nat.le_trans zw61 (Nat.le_trans zw63 (Nat.le_trans zw66 zw70))))))))))))))))))) hg76)
   replace f15 := f15.kp k80 (Nat.ne_of_lt (Nat.lt_of_lt_of_le lg1 (Nat.le_trans (Nat.le_trans zw6 (Nat.le_trans z12 (Nat.le_trans zw19 (Nat.le_trans zw23 (Nat.le_trans zw28 (Nat.le_trans zw32 (Nat.le_trans zw35 (Nat.le_trans zw37 (Nat.le_trans zw39 (Nat.le_trans zw41 (Nat.le_trans zw44 (Nat.le_trans zw48 (Nat.le_trans zw51 (Nat.le_trans zw54 (Nat.le_trans zw58 (Nat.le_trans zw61 (Nat.le_trans zw63 (Nat.le_trans zw66 zw70)))))))))))))))))) hg76)))
   replace f16 := f16.kp k80 (fun b h e => Nat.lt_irrefl _ (Nat.lt_of_lt_of_le (show g74 < _ from e ▸ (show b < _ from h)) (Nat.le_trans (Nat.le_trans zw2 (Nat.le_trans zw6 (Nat.le_trans z12 (Nat.le_trans zw19 (Nat.le_trans zw23 (Nat.le_trans zw28 (Nat.le_trans zw32 (Nat.le_trans zw35 (Nat.le_trans zw37 (Nat.le_trans zw39 (Nat.le_trans zw41 (Nat.le_trans zw44 (Nat.le_trans zw48 (Nat.le_trans zw51 (Nat.le_trans zw54 (Nat.le_trans zw58 (Nat.le_trans zw61 (Nat.le_trans zw63 (Nat.le_trans zw66 zw70))))))))))))))))))) hg76)))
   replace sl21 := sl21.kp k80 (fun b h e => Nat.lt_irrefl _ (Nat.lt_of_lt_of_le (show g74 < _ from e ▸ (show b < _ from h.2)) (Nat.le_trans (Nat.le_trans zw23 (Nat.le_trans zw28 (Nat.le_trans zw32 (Nat.le_trans zw35 (Nat.le_trans zw37 (Nat.le_trans zw39 (Nat.le_trans zw41 (Nat.le_trans zw44 (Nat.le_trans zw48 (Nat.le_trans zw51 (Nat.le_trans zw54 (Nat.le_trans zw58 (Nat.le_trans zw61 (Nat.le_trans zw63 (Nat.le_trans zw66 zw70))))))))))))))) hg76)))
   replace b26 := b26.kp k80 (Nat.ne_of_lt (Nat.lt_of_lt_of_le lg22 (Nat.le_trans (Nat.le_trans zw28 (Nat.le_trans zw32 (Nat.le_trans zw35 (Nat.le_trans zw37 (Nat.le_trans zw39 (Nat.le_trans zw41 (Nat.le_trans zw44 (Nat.le_trans zw48 (Nat.le_trans zw51 (Nat.le_trans zw54 (Nat.le_trans zw58 (Nat.le_trans zw61 (Nat.le_trans zw63 (Nat.le_trans zw66 zw70)))))))))))))) hg76)))
   replace b73 := b73.kp k80 (Nat.ne_of_lt (Nat.lt_of_lt_of_le lg69 (Nat.le_trans (Nat.le_refl _) hg76)))
   have zw79 := k80.size
   refine rw_nil ?_
   refine nw_seq ?_
   refine cw_seq ?_
   refine cw_seq ?_
   refine cw_region ?_
   refine rw_op (op_buildSlice (E := 4) (m := 2) (pv := #[(0, .bool true), (1, .bool false)]) (cs := #[.bool true, .bool false]) rfl (fun _ => by kernel_rfl)) rfl rfl rfl ?_
   rintro _ w83 ⟨g82, rfl, hg84, k85, b86⟩
   replace K0 := Ex.trans K0 k85
   replace f15 := f15.ex k85
   replace f16 := f16.ex k85
   replace sl21 := sl21.ex k85
   replace b26 := b26.ex k85
   replace b73 := b73.ex k85
   replace b81 := b81.ex k85
   have zw83 := k85.size
   have lg82 := b86.lt
   refine rw_ev (v := .int .i64 2) (ev_pure rfl rfl (fun _ => by kernel_rfl)) rfl rfl rfl ?_
   refine rw_ev (ev_move rfl) rfl rfl rfl ?_
   refine rw_nil ?_
   refine nw_seq ?_
   refine cw_block ?_
   refine cw_rounds 2 ?_
   refine cw_seq ?_
   refine cw_region ?_
   refine rw_ev (v := .bool true) (ev_lss (p := 0) (q := 2) rfl rfl) rfl rfl rfl ?_
   refine rw_nil ?_
   refine nw_seq ?_
   refine cw_seq ?_
   refine cw_t (b := true) rfl rfl ?_
   refine cw_skip ?_
   refine nw_seq ?_
   refine cw_seq ?_
   refine cw_block ?_
   refine cw_seq ?_
   refine cw_region ?_
   refine rw_ev (v := .pointer (some ⟨g82, 0, none⟩)) (ev_litAt (i := 0) rfl rfl el_78 (by decide) 0 rfl) rfl rfl rfl ?_
   refine rw_ev (v := .bool true) (ev_lb1 (off := 0) (fun _ h => h ▸ b86) rfl one_4 rfl) rfl rfl rfl ?_
   refine rw_ev (ev_assign rfl) rfl rfl rfl ?_
   refine rw_nil ?_
   refine nw_seq ?_
   refine cw_seq ?_
   refine cw_region ?_
   refine rw_ev (ev_move rfl) rfl rfl rfl ?_
   refine rw_ev (v := .agg #[.int .i64 c.1, .int .i64 c.2]) (ev_lbk (off := 0) (vs := [.int .i64 c.1, .int .i64 c.2]) (fun _ h => h ▸ b81) rfl agg_55 rfl rfl) rfl rfl rfl ?_
   refine rw_ev (ev_move rfl) rfl rfl rfl ?_
   refine rw_op (op_fn (xs := [.tmp 112, .tmp 113, .tmp 114]) ent_61 rfl (c_cwith w83 u18 (setC raw) (Sl.below sl21) c true)) rfl rfl rfl ?_
   rintro _ w88 ⟨u87, rfl, k89, sl90⟩
   replace K0 := Ex.trans K0 k89
   replace f15 := f15.ex k89
   replace f16 := f16.ex k89
   replace sl21 := sl21.ex k89
   replace b26 := b26.ex k89
   replace b73 := b73.ex k89
   replace b81 := b81.ex k89
   replace b86 := b86.ex k89
   have zw88 := k89.size
   refine rw_ev (ev_move rfl) rfl rfl rfl ?_
   refine rw_ev (ev_extract rfl rfl) rfl rfl rfl ?_
   refine rw_ev (ev_extract rfl rfl) rfl rfl rfl ?_
   refine rw_ev (ev_assign rfl) rfl rfl rfl ?_
   refine rw_ev (ev_assign rfl) rfl rfl rfl ?_
   refine rw_nil ?_
   refine nw_seq ?_
   refine cw_seq ?_
   refine cw_region ?_
   refine rw_ev (ev_move rfl) rfl rfl rfl ?_
   refine rw_ev (v := .agg #[.int .i64 c.1, .int .i64 c.2]) (ev_lbk (off := 0) (vs := [.int .i64 c.1, .int .i64 c.2]) (fun _ h => h ▸ b81) rfl agg_55 rfl rfl) rfl rfl rfl ?_
   refine rw_ev (ev_move rfl) rfl rfl rfl ?_
   refine rw_op (op_fn (xs := [.tmp 119, .tmp 120, .tmp 121]) ent_62 rfl (c_with w88 u18 (setC raw) (Sl.below sl21) c true)) rfl rfl rfl ?_
   rintro _ w92 ⟨u91, rfl, k93, sl94⟩
   replace K0 := Ex.trans K0 k93
   replace f15 := f15.ex k93
   replace f16 := f16.ex k93
   replace sl21 := sl21.ex k93
   replace b26 := b26.ex k93
   replace b73 := b73.ex k93
   replace b81 := b81.ex k93
   replace b86 := b86.ex k93
   replace sl90 := sl90.ex k93
   have zw92 := k93.size
   refine rw_ev (ev_move rfl) rfl rfl rfl ?_
   refine rw_ev (ev_extract rfl rfl) rfl rfl rfl ?_
   refine rw_ev (ev_extract rfl rfl) rfl rfl rfl ?_
   refine rw_ev (ev_assign rfl) rfl rfl rfl ?_
   refine rw_ev (ev_assign rfl) rfl rfl rfl ?_
   refine rw_nil ?_
   refine nw_seq ?_
   refine cw_seq ?_
   refine cw_region ?_
   refine rw_ev (ev_move rfl) rfl rfl rfl ?_
   refine rw_ev (ev_move rfl) rfl rfl rfl ?_
   refine rw_op (op_fn (xs := [.tmp 125, .tmp 126]) ent_37 rfl (c_same w92 u87 ((withC (setC raw) c true).1) (Sl.below sl90) u91 ((withC (setC raw) c true).1) (Sl.below sl94))) rfl rfl rfl ?_
   rintro _ w95 ⟨rfl, k96⟩
   replace K0 := Ex.trans K0 k96
   replace f15 := f15.ex k96
   replace f16 := f16.ex k96
   replace sl21 := sl21.ex k96
   replace b26 := b26.ex k96
   replace b73 := b73.ex k96
   replace b81 := b81.ex k96
   replace b86 := b86.ex k96
   replace sl90 := sl90.ex k96
   replace sl94 := sl94.ex k96
   have zw95 := k96.size
   refine rw_ev (ev_not rfl rfl) rfl rfl rfl ?_
   refine rw_ev (ev_move rfl) rfl rfl rfl ?_
   refine rw_ev (ev_move rfl) (gd_ff rfl (not_f (by exact same_self _))) rfl rfl ?_
   refine rw_ev (ev_move rfl) (gd_ff rfl (not_f (by exact same_self _))) rfl rfl ?_
   refine rw_ev (ev_ne rfl rfl) (gd_ff rfl (not_f (by exact same_self _))) rfl rfl ?_
   refine rw_ev (ev_pk_f rfl (not_f (by exact same_self _)) rfl) rfl rfl rfl ?_
   refine rw_nil ?_
   refine nw_seq ?_
   refine cw_f (b := decide (((withC (setC raw) c true).2) ≠ ((withC (setC raw) c true).2))) rfl (dec_f (fun h_ => h_ rfl)) ?_
   refine cw_skip ?_
   refine nw_block ?_
   refine nw_seq ?_
   refine cw_region ?_
   refine rw_ev (v := .int .i64 1) (ev_add (p := 0) (q := 1) rfl rfl (by decide)) rfl rfl rfl ?_
   refine rw_ev (v := .int .i64 1) (ev_move rfl) rfl rfl rfl ?_
   refine rw_nil ?_
   refine nw_again ?_
   refine cw_sub (e' := [(3, .int .i64 dx), (4, .int .i64 dy), (7, .pointer (some ⟨g1, 0, none⟩)), (10, .bool false), (11, .bool true), (39, .slice (some ⟨g22, 0, none⟩) 2 2), (40, .int .i64 2), (41, .int .i64 0), (14, u18), (101, .int .i64 0), (99, .slice (some ⟨g69, 0, none⟩) 2 2), (100, .int .i64 2), (24, .pointer (some ⟨g74, 0, none⟩)), (105, .slice (some ⟨g82, 0, none⟩) 2 2), (106, .int .i64 2), (107, .int .i64 1)]) (Sub.cons rfl (Sub.cons rfl (Sub.cons rfl (Sub.cons rfl (Sub.cons rfl (Sub.cons rfl (Sub.cons rfl (Sub.cons rfl (Sub.cons rfl (Sub.cons rfl (Sub.cons rfl (Sub.cons rfl (Sub.cons rfl (Sub.cons rfl (Sub.cons rfl (Sub.cons rfl Sub.nil)))))))))))))))) ?_
   refine cw_seq ?_
   refine cw_region ?_
   refine rw_ev (v := .bool true) (ev_lss (p := 1) (q := 2) rfl rfl) rfl rfl rfl ?_
   refine rw_nil ?_
   refine nw_seq ?_
   refine cw_seq ?_
   refine cw_t (b := true) rfl rfl ?_
   refine cw_skip ?_
   refine nw_seq ?_
   refine cw_seq ?_
   refine cw_block ?_
   refine cw_seq ?_
   refine cw_region ?_
   refine rw_ev (v := .pointer (some ⟨g82, 1, none⟩)) (ev_litAt (i := 1) rfl rfl el_78 (by decide) 1 rfl) rfl rfl rfl ?_
   refine rw_ev (v := .bool false) (ev_lb1 (off := 1) (fun _ h => h ▸ b86) rfl one_4 rfl) rfl rfl rfl ?_
   refine rw_ev (ev_assign rfl) rfl rfl rfl ?_
   refine rw_nil ?_
   refine nw_seq ?_
   refine cw_seq ?_
   refine cw_region ?_
   refine rw_ev (ev_move rfl) rfl rfl rfl ?_
   refine rw_ev (v := .agg #[.int .i64 c.1, .int .i64 c.2]) (ev_lbk (off := 0) (vs := [.int .i64 c.1, .int .i64 c.2]) (fun _ h => h ▸ b81) rfl agg_55 rfl rfl) rfl rfl rfl ?_
   refine rw_ev (ev_move rfl) rfl rfl rfl ?_
   refine rw_op (op_fn (xs := [.tmp 112, .tmp 113, .tmp 114]) ent_61 rfl (c_cwith w95 u18 (setC raw) (Sl.below sl21) c false)) rfl rfl rfl ?_
   rintro _ w98 ⟨u97, rfl, k99, sl100⟩
   replace K0 := Ex.trans K0 k99
   replace f15 := f15.ex k99
   replace f16 := f16.ex k99
   replace sl21 := sl21.ex k99
   replace b26 := b26.ex k99
   replace b73 := b73.ex k99
   replace b81 := b81.ex k99
   replace b86 := b86.ex k99
   have zw98 := k99.size
   refine rw_ev (ev_move rfl) rfl rfl rfl ?_
   refine rw_ev (ev_extract rfl rfl) rfl rfl rfl ?_
   refine rw_ev (ev_extract rfl rfl) rfl rfl rfl ?_
   refine rw_ev (ev_assign rfl) rfl rfl rfl ?_
   refine rw_ev (ev_assign rfl) rfl rfl rfl ?_
   refine rw_nil ?_
   refine nw_seq ?_
   refine cw_seq ?_
   refine cw_region ?_
   refine rw_ev (ev_move rfl) rfl rfl rfl ?_
   refine rw_ev (v := .agg #[.int .i64 c.1, .int .i64 c.2]) (ev_lbk (off := 0) (vs := [.int .i64 c.1, .int .i64 c.2]) (fun _ h => h ▸ b81) rfl agg_55 rfl rfl) rfl rfl rfl ?_
   refine rw_ev (ev_move rfl) rfl rfl rfl ?_
   refine rw_op (op_fn (xs := [.tmp 119, .tmp 120, .tmp 121]) ent_62 rfl (c_with w98 u18 (setC raw) (Sl.below sl21) c false)) rfl rfl rfl ?_
   rintro _ w102 ⟨u101, rfl, k103, sl104⟩
   replace K0 := Ex.trans K0 k103
   replace f15 := f15.ex k103
   replace f16 := f16.ex k103
   replace sl21 := sl21.ex k103
   replace b26 := b26.ex k103
   replace b73 := b73.ex k103
   replace b81 := b81.ex k103
   replace b86 := b86.ex k103
   replace sl100 := sl100.ex k103
   have zw102 := k103.size
   refine rw_ev (ev_move rfl) rfl rfl rfl ?_
   refine rw_ev (ev_extract rfl rfl) rfl rfl rfl ?_
   refine rw_ev (ev_extract rfl rfl) rfl rfl rfl ?_
   refine rw_ev (ev_assign rfl) rfl rfl rfl ?_
   refine rw_ev (ev_assign rfl) rfl rfl rfl ?_
   refine rw_nil ?_
   refine nw_seq ?_
   refine cw_seq ?_
   refine cw_region ?_
   refine rw_ev (ev_move rfl) rfl rfl rfl ?_
   refine rw_ev (ev_move rfl) rfl rfl rfl ?_
   refine rw_op (op_fn (xs := [.tmp 125, .tmp 126]) ent_37 rfl (c_same w102 u97 ((withC (setC raw) c false).1) (Sl.below sl100) u101 ((withC (setC raw) c false).1) (Sl.below sl104))) rfl rfl rfl ?_
   rintro _ w105 ⟨rfl, k106⟩
   replace K0 := Ex.trans K0 k106
   replace f15 := f15.ex k106
   replace f16 := f16.ex k106
   replace sl21 := sl21.ex k106
   replace b26 := b26.ex k106
   replace b73 := b73.ex k106
   replace b81 := b81.ex k106
   replace b86 := b86.ex k106
   replace sl100 := sl100.ex k106
   replace sl104 := sl104.ex k106
   have zw105 := k106.size
   refine rw_ev (ev_not rfl rfl) rfl rfl rfl ?_
   refine rw_ev (ev_move rfl) rfl rfl rfl ?_
   refine rw_ev (ev_move rfl) (gd_ff rfl (not_f (by exact same_self _))) rfl rfl ?_
   refine rw_ev (ev_move rfl) (gd_ff rfl (not_f (by exact same_self _))) rfl rfl ?_
   refine rw_ev (ev_ne rfl rfl) (gd_ff rfl (not_f (by exact same_self _))) rfl rfl ?_
   refine rw_ev (ev_pk_f rfl (not_f (by exact same_self _)) rfl) rfl rfl rfl ?_
   refine rw_nil ?_
   refine nw_seq ?_
   refine cw_f (b := decide (((withC (setC raw) c false).2) ≠ ((withC (setC raw) c false).2))) rfl (dec_f (fun h_ => h_ rfl)) ?_
   refine cw_skip ?_
   refine nw_block ?_
   refine nw_seq ?_
   refine cw_region ?_
   refine rw_ev (v := .int .i64 2) (ev_add (p := 1) (q := 1) rfl rfl (by decide)) rfl rfl rfl ?_
   refine rw_ev (v := .int .i64 2) (ev_move rfl) rfl rfl rfl ?_
   refine rw_nil ?_
   refine nw_again ?_
   refine cw_sub (e' := [(3, .int .i64 dx), (4, .int .i64 dy), (7, .pointer (some ⟨g1, 0, none⟩)), (10, .bool false), (11, .bool true), (39, .slice (some ⟨g22, 0, none⟩) 2 2), (40, .int .i64 2), (41, .int .i64 0), (14, u18), (101, .int .i64 0), (99, .slice (some ⟨g69, 0, none⟩) 2 2), (100, .int .i64 2), (24, .pointer (some ⟨g74, 0, none⟩)), (105, .slice (some ⟨g82, 0, none⟩) 2 2), (106, .int .i64 2), (107, .int .i64 2)]) (Sub.cons rfl (Sub.cons rfl (Sub.cons rfl (Sub.cons rfl (Sub.cons rfl (Sub.cons rfl (Sub.cons rfl (Sub.cons rfl (Sub.cons rfl (Sub.cons rfl (Sub.cons rfl (Sub.cons rfl (Sub.cons rfl (Sub.cons rfl (Sub.cons rfl (Sub.cons rfl Sub.nil)))))))))))))))) ?_
   refine cw_seq ?_
   refine cw_region ?_
   refine rw_ev (v := .bool false) (ev_lss (p := 2) (q := 2) rfl rfl) rfl rfl rfl ?_
   refine rw_nil ?_
   refine nw_seq ?_
   refine cw_seq ?_
   refine cw_f (b := false) rfl rfl ?_
   refine cw_exit ?_
   refine xw_seq ?_
   refine xw_again ?_
   refine xw_hit ?_
   refine nw_seq ?_
   refine cw_seq ?_
   refine cw_drawn (fun w107 w_ => Ex w107 w_) [] (.take 0 (.take 1 (.take 3 (.take 4 (.one 2 (.one 5 (.take 6 .done))))))) mixed (by kernel_rfl) (by kernel_rfl) (Nat.le_of_ble_eq_true (by kernel_rfl)) ?_; intro w107 k108 hs_
   replace K0 := Ex.trans K0 k108
   replace f15 := f15.ex k108
   replace f16 := f16.ex k108
   replace sl21 := sl21.ex k108
   replace b26 := b26.ex k108
   replace b73 := b73.ex k108
   replace b81 := b81.ex k108
   have zw107 := k108.size
   have hS : (fun w_ => Ex w107 w_) w107 := Kp.refl _ _
   refine rp_take hs_ hS rfl rfl (ev_move rfl) rfl rfl rfl ?_
   refine rp_take (v := .agg #[.int .i64 c.1, .int .i64 c.2]) hs_ hS rfl rfl (ev_lbk (off := 0) (vs := [.int .i64 c.1, .int .i64 c.2]) (fun _ h => b81.ex h) rfl agg_55 rfl rfl) rfl rfl rfl ?_
   refine rp_take hs_ hS rfl rfl (ev_move rfl) rfl rfl rfl ?_
   refine rp_take (v := .agg #[.int .i64 c.1, .int .i64 c.2]) hs_ hS rfl rfl (ev_lbk (off := 0) (vs := [.int .i64 c.1, .int .i64 c.2]) (fun _ h => b81.ex h) rfl agg_55 rfl rfl) rfl rfl rfl ?_
   refine rp_up (up_op rfl (op_fn (xs := [.tmp 135, .tmp 136]) ent_63 rfl (c_chas w107 u18 (setC raw) (Sl.below (sl21.ex hS)) c)) rfl rfl rfl ?_)
   rintro _ w109 ⟨rfl, k110⟩
   replace K0 := Ex.trans K0 k110
   replace hS := Ex.trans hS k110
   have zw109 := k110.size
   refine ⟨(fun _ => hS), ?_⟩
   refine rp_up (up_op rfl (op_fn (xs := [.tmp 138, .tmp 139]) ent_55 rfl (c_has w109 u18 (setC raw) (Sl.below (sl21.ex hS)) c)) rfl rfl rfl ?_)
   rintro _ w111 ⟨rfl, k112⟩
   replace K0 := Ex.trans K0 k112
   replace hS := Ex.trans hS k112
   have zw111 := k112.size
   refine ⟨(fun _ => hS), ?_⟩
   refine rp_take hs_ hS rfl rfl (ev_neb bool_4 rfl rfl) rfl rfl rfl ?_
   refine rp_done ?_
   clear hs_
   replace f15 := f15.ex hS
   replace f16 := f16.ex hS
   replace sl21 := sl21.ex hS
   replace b26 := b26.ex hS
   replace b73 := b73.ex hS
   replace b81 := b81.ex hS
   refine nw_seq ?_
   refine cw_f (b := decide ((hasC (setC raw) c) ≠ (hasC (setC raw) c))) rfl (dec_f (fun h_ => h_ rfl)) ?_
   refine cw_skip ?_
   refine nw_block ?_
   refine nw_seq ?_
   refine cw_region ?_
   refine rw_ev (v := .int .i64 1) (ev_add (p := 0) (q := 1) rfl rfl (by decide)) rfl rfl rfl ?_
   refine rw_ev (v := .int .i64 1) (ev_move rfl) rfl rfl rfl ?_
   refine rw_nil ?_
   refine nw_again ?_
   refine cw_sub (e' := [(3, .int .i64 dx), (4, .int .i64 dy), (7, .pointer (some ⟨g1, 0, none⟩)), (10, .bool false), (11, .bool true), (39, .slice (some ⟨g22, 0, none⟩) 2 2), (40, .int .i64 2), (41, .int .i64 0), (14, u18), (101, .int .i64 1), (99, .slice (some ⟨g69, 0, none⟩) 2 2), (100, .int .i64 2)]) (Sub.cons rfl (Sub.cons rfl (Sub.cons rfl (Sub.cons rfl (Sub.cons rfl (Sub.cons rfl (Sub.cons rfl (Sub.cons rfl (Sub.cons rfl (Sub.cons rfl (Sub.cons rfl (Sub.cons rfl Sub.nil)))))))))))) ?_
   refine cw_seq ?_
   refine cw_region ?_
   refine rw_ev (v := .bool true) (ev_lss (p := 1) (q := 2) rfl rfl) rfl rfl rfl ?_
   refine rw_nil ?_
   refine nw_seq ?_
   refine cw_seq ?_
   refine cw_t (b := true) rfl rfl ?_
   refine cw_skip ?_
   refine nw_seq ?_
   refine cw_seq ?_
   refine cw_block ?_
   refine cw_seq ?_
   refine cw_region ?_
   refine rw_ev (v := .pointer (some ⟨g69, 2, none⟩)) (ev_litAt (i := 1) rfl rfl el_46 (by decide) 2 rfl) rfl rfl rfl ?_
   refine rw_ev (v := .agg #[.int .i64 ((pickI c.1 (16 : Int)) - 8), .int .i64 ((pickI c.2 (16 : Int)) - 8)]) (ev_lbk (off := 2) (vs := [.int .i64 ((pickI c.1 (16 : Int)) - 8), .int .i64 ((pickI c.2 (16 : Int)) - 8)]) (fun _ h => h ▸ b73) rfl agg_55 rfl rfl) rfl rfl rfl ?_
   refine rw_op (op_alloc zero_55) rfl rfl rfl ?_
   rintro _ w114 ⟨g113, rfl, hg115, k116, b117⟩
   replace K0 := Ex.trans K0 k116
   replace f15 := f15.ex k116
   replace f16 := f16.ex k116
   replace sl21 := sl21.ex k116
   replace b26 := b26.ex k116
   replace b73 := b73.ex k116
   have zw114 := k116.size
   have lg113 := b117.lt
   refine rw_none (op_store (off := 0) (v := .agg #[.int .i64 ((pickI c.1 (16 : Int)) - 8), .int .i64 ((pickI c.2 (16 : Int)) - 8)]) (cs' := #[.int .i64 ((pickI c.1 (16 : Int)) - 8), .int .i64 ((pickI c.2 (16 : Int)) - 8)]) b117 rfl rfl size_55 rfl (Nat.le_of_ble_eq_true rfl) (one_cons rfl (one_cons rfl one_nil)) rfl) rfl rfl ?_
   rintro _ w118 ⟨k119, b120⟩
   replace K0 := Ex.kp_new K0 k119 (fun _ h => h ▸ Nat.le_trans (Nat.le_trans zw2 (Nat.le_trans zw6 (Nat.le_trans z12 (Nat.le_trans zw19 (Nat.le_trans zw23 (Nat.le_trans zw28 (Nat.le_trans zw32 (Nat.le_trans zw35 (Nat.le_trans zw37 (Nat.le_trans zw39 (Nat.le_trans zw41 (Nat.le_trans zw44 (Nat.le_trans zw48 (Nat.le_trans zw51 (Nat.le_trans zw54 (Nat.le_trans zw58 (Nat.le_trans zw61 (Nat.le_trans zw63 (Nat.le_trans zw66 (Nat.le_trans zw70 (Nat.le_trans zw75 (Nat.le_trans zw79 (Nat.le_trans zw83 (Nat.le_trans zw88 (Nat.le_trans zw92 (Nat.le_trans zw95 (Nat.le_trans zw98 (Nat.le_trans zw102 (Nat.le_trans zw105 (Nat.le_trans zw107 (Nat.le_trans zw109 zw111))))))))))))))))))))))))))))))) hg115)
   replace f15 := f15.kp k119 (Nat.ne_of_lt (Nat.lt_of_lt_of_le lg1 (Nat.le_trans (Nat.le_trans zw6 (Nat.le_trans z12 (Nat.le_trans zw19 (Nat.le_trans zw23 (Nat.le_trans zw28 (Nat.le_trans zw32 (Nat.le_trans zw35 (Nat.le_trans zw37 (Nat.le_trans zw39 (Nat.le_trans zw41 (Nat.le_trans zw44 (Nat.le_trans zw48 (Nat.le_trans zw51 (Nat.le_trans zw54 (Nat.le_trans zw58 (Nat.le_trans zw61 (Nat.le_trans zw63 (Nat.le_trans zw66 (Nat.le_trans zw70 (Nat.le_trans zw75 (Nat.le_trans zw79 (Nat.le_trans zw83 (Nat.le_trans zw88 (Nat.le_trans zw92 (Nat.le_trans zw95 (Nat.le_trans zw98 (Nat.le_trans zw102 (Nat.le_trans zw105 (Nat.le_trans zw107 (Nat.le_trans zw109 zw111)))))))))))))))))))))))))))))) hg115)))
   replace f16 := f16.kp k119 (fun b h e => Nat.lt_irrefl _ (Nat.lt_of_lt_of_le (show g113 < _ from e ▸ (show b < _ from h)) (Nat.le_trans (Nat.le_trans zw2 (Nat.le_trans zw6 (Nat.le_trans z12 (Nat.le_trans zw19 (Nat.le_trans zw23 (Nat.le_trans zw28 (Nat.le_trans zw32 (Nat.le_trans zw35 (Nat.le_trans zw37 (Nat.le_trans zw39 (Nat.le_trans zw41 (Nat.le_trans zw44 (Nat.le_trans zw48 (Nat.le_trans zw51 (Nat.le_trans zw54 (Nat.le_trans zw58 (Nat.le_trans zw61 (Nat.le_trans zw63 (Nat.le_trans zw66 (Nat.le_trans zw70 (Nat.le_trans zw75 (Nat.le_trans zw79 (Nat.le_trans zw83 (Nat.le_trans zw88 (Nat.le_trans zw92 (Nat.le_trans zw95 (Nat.le_trans zw98 (Nat.le_trans zw102 (Nat.le_trans zw105 (Nat.le_trans zw107 (Nat.le_trans zw109 zw111))))))))))))))))))))))))))))))) hg115)))
   replace sl21 := sl21.kp k119 (fun b h e => Nat.lt_irrefl _ (Nat.lt_of_lt_of_le (show g113 < _ from e ▸ (show b < _ from h.2)) (Nat.le_trans (Nat.le_trans zw23 (Nat.le_trans zw28 (Nat.le_trans zw32 (Nat.le_trans zw35 (Nat.le_trans zw37 (Nat.le_trans zw39 (Nat.le_trans zw41 (Nat.le_trans zw44 (Nat.le_trans zw48 (Nat.le_trans zw51 (Nat.le_trans zw54 (Nat.le_trans zw58 (Nat.le_trans zw61 (Nat.le_trans zw63 (Nat.le_trans zw66 (Nat.le_trans zw70 (Nat.le_trans zw75 (Nat.le_trans zw79 (Nat.le_trans zw83 (Nat.le_trans zw88 (Nat.le_trans zw92 (Nat.le_trans zw95 (Nat.le_trans zw98 (Nat.le_trans zw102 (Nat.le_trans zw105 (Nat.le_trans zw107 (Nat.le_trans zw109 zw111))))))))))))))))))))))))))) hg115)))
   replace b26 := b26.kp k119 (Nat.ne_of_lt (Nat.lt_of_lt_of_le lg22 (Nat.le_trans (Nat.le_trans zw28 (Nat.le_trans zw32 (Nat.le_trans zw35 (Nat.le_trans zw37 (Nat.le_trans zw39 (Nat.le_trans zw41 (Nat.le_trans zw44 (Nat.le_trans zw48 (Nat.le_trans zw51 (Nat.le_trans zw54 (Nat.le_trans zw58 (Nat.le_trans zw61 (Nat.le_trans zw63 (Nat.le_trans zw66 (Nat.le_trans zw70 (Nat.le_trans zw75 (Nat.le_trans zw79 (Nat.le_trans zw83 (Nat.le_trans zw88 (Nat.le_trans zw92 (Nat.le_trans zw95 (Nat.le_trans zw98 (Nat.le_trans zw102 (Nat.le_trans zw105 (Nat.le_trans zw107 (Nat.le_trans zw109 zw111)))))))))))))))))))))))))) hg115)))
   replace b73 := b73.kp k119 (Nat.ne_of_lt (Nat.lt_of_lt_of_le lg69 (Nat.le_trans (Nat.le_trans zw75 (Nat.le_trans zw79 (Nat.le_trans zw83 (Nat.le_trans zw88 (Nat.le_trans zw92 (Nat.le_trans zw95 (Nat.le_trans zw98 (Nat.le_trans zw102 (Nat.le_trans zw105 (Nat.le_trans zw107 (Nat.le_trans zw109 zw111))))))))))) hg115)))
   have zw118 := k119.size
   refine rw_nil ?_
   refine nw_seq ?_
   refine cw_seq ?_
   refine cw_seq ?_
   refine cw_region ?_
   refine rw_op (op_buildSlice (E := 4) (m := 2) (pv := #[(0, .bool true), (1, .bool false)]) (cs := #[.bool true, .bool false]) rfl (fun _ => by kernel_rfl)) rfl rfl rfl ?_
   rintro _ w122 ⟨g121, rfl, hg123, k124, b125⟩
   replace K0 := Ex.trans K0 k124
   replace f15 := f15.ex k124
   replace f16 := f16.ex k124
   replace sl21 := sl21.ex k124
   replace b26 := b26.ex k124
   replace b73 := b73.ex k124
   replace b120 := b120.ex k124
   have zw122 := k124.size
   have lg121 := b125.lt
   refine rw_ev (v := .int .i64 2) (ev_pure rfl rfl (fun _ => by kernel_rfl)) rfl rfl rfl ?_
   refine rw_ev (ev_move rfl) rfl rfl rfl ?_
   refine rw_nil ?_
   refine nw_seq ?_
   refine cw_block ?_
   refine cw_rounds 2 ?_
   refine cw_seq ?_
   refine cw_region ?_
   refine rw_ev (v := .bool true) (ev_lss (p := 0) (q := 2) rfl rfl) rfl rfl rfl ?_
   refine rw_nil ?_
   refine nw_seq ?_
   refine cw_seq ?_
   refine cw_t (b := true) rfl rfl ?_
   refine cw_skip ?_
   refine nw_seq ?_
   refine cw_seq ?_
   refine cw_block ?_
   refine cw_seq ?_
   refine cw_region ?_
   refine rw_ev (v := .pointer (some ⟨g121, 0, none⟩)) (ev_litAt (i := 0) rfl rfl el_78 (by decide) 0 rfl) rfl rfl rfl ?_
   refine rw_ev (v := .bool true) (ev_lb1 (off := 0) (fun _ h => h ▸ b125) rfl one_4 rfl) rfl rfl rfl ?_
   refine rw_ev (ev_assign rfl) rfl rfl rfl ?_
   refine rw_nil ?_
   refine nw_seq ?_
   refine cw_seq ?_
   refine cw_region ?_
   refine rw_ev (ev_move rfl) rfl rfl rfl ?_
   refine rw_ev (v := .agg #[.int .i64 ((pickI c.1 (16 : Int)) - 8), .int .i64 ((pickI c.2 (16 : Int)) - 8)]) (ev_lbk (off := 0) (vs := [.int .i64 ((pickI c.1 (16 : Int)) - 8), .int .i64 ((pickI c.2 (16 : Int)) - 8)]) (fun _ h => h ▸ b120) rfl agg_55 rfl rfl) rfl rfl rfl ?_
   refine rw_ev (ev_move rfl) rfl rfl rfl ?_
   refine rw_op (op_fn (xs := [.tmp 112, .tmp 113, .tmp 114]) ent_61 rfl (c_cwith w122 u18 (setC raw) (Sl.below sl21) ((pickI c.1 (16 : Int)) - 8, (pickI c.2 (16 : Int)) - 8) true)) rfl rfl rfl ?_
   rintro _ w127 ⟨u126, rfl, k128, sl129⟩
   replace K0 := Ex.trans K0 k128
   replace f15 := f15.ex k128
   replace f16 := f16.ex k128
   replace sl21 := sl21.ex k128
   replace b26 := b26.ex k128
   replace b73 := b73.ex k128
   replace b120 := b120.ex k128
   replace b125 := b125.ex k128
   have zw127 := k128.size
   refine rw_ev (ev_move rfl) rfl rfl rfl ?_
   refine rw_ev (ev_extract (vs := #[u126, .int .i64 ((withC (setC raw) ((pickI c.1 (16 : Int)) - 8, (pickI c.2 (16 : Int)) - 8) true).2)]) rfl rfl) rfl rfl rfl ?_
   refine rw_ev (ev_extract (vs := #[u126, .int .i64 ((withC (setC raw) ((pickI c.1 (16 : Int)) - 8, (pickI c.2 (16 : Int)) - 8) true).2)]) rfl rfl) rfl rfl rfl ?_
   refine rw_ev (ev_assign rfl) rfl rfl rfl ?_
   refine rw_ev (ev_assign rfl) rfl rfl rfl ?_
   refine rw_nil ?_
   refine nw_seq ?_
   refine cw_seq ?_
   refine cw_region ?_
   refine rw_ev (ev_move rfl) rfl rfl rfl ?_
   refine rw_ev (v := .agg #[.int .i64 ((pickI c.1 (16 : Int)) - 8), .int .i64 ((pickI c.2 (16 : Int)) - 8)]) (ev_lbk (off := 0) (vs := [.int .i64 ((pickI c.1 (16 : Int)) - 8), .int .i64 ((pickI c.2 (16 : Int)) - 8)]) (fun _ h => h ▸ b120) rfl agg_55 rfl rfl) rfl rfl rfl ?_
   refine rw_ev (ev_move rfl) rfl rfl rfl ?_
   refine rw_op (op_fn (xs := [.tmp 119, .tmp 120, .tmp 121]) ent_62 rfl (c_with w127 u18 (setC raw) (Sl.below sl21) ((pickI c.1 (16 : Int)) - 8, (pickI c.2 (16 : Int)) - 8) true)) rfl rfl rfl ?_
   rintro _ w131 ⟨u130, rfl, k132, sl133⟩
   replace K0 := Ex.trans K0 k132
   replace f15 := f15.ex k132
   replace f16 := f16.ex k132
   replace sl21 := sl21.ex k132
   replace b26 := b26.ex k132
   replace b73 := b73.ex k132
   replace b120 := b120.ex k132
   replace b125 := b125.ex k132
   replace sl129 := sl129.ex k132
   have zw131 := k132.size
   refine rw_ev (ev_move rfl) rfl rfl rfl ?_
   refine rw_ev (ev_extract (vs := #[u130, .int .i64 ((withC (setC raw) ((pickI c.1 (16 : Int)) - 8, (pickI c.2 (16 : Int)) - 8) true).2)]) rfl rfl) rfl rfl rfl ?_
   refine rw_ev (ev_extract (vs := #[u130, .int .i64 ((withC (setC raw) ((pickI c.1 (16 : Int)) - 8, (pickI c.2 (16 : Int)) - 8) true).2)]) rfl rfl) rfl rfl rfl ?_
   refine rw_ev (ev_assign rfl) rfl rfl rfl ?_
   refine rw_ev (ev_assign rfl) rfl rfl rfl ?_
   refine rw_nil ?_
   refine nw_seq ?_
   refine cw_seq ?_
   refine cw_region ?_
   refine rw_ev (ev_move rfl) rfl rfl rfl ?_
   refine rw_ev (ev_move rfl) rfl rfl rfl ?_
   refine rw_op (op_fn (xs := [.tmp 125, .tmp 126]) ent_37 rfl (c_same w131 u126 ((withC (setC raw) ((pickI c.1 (16 : Int)) - 8, (pickI c.2 (16 : Int)) - 8) true).1) (Sl.below sl129) u130 ((withC (setC raw) ((pickI c.1 (16 : Int)) - 8, (pickI c.2 (16 : Int)) - 8) true).1) (Sl.below sl133))) rfl rfl rfl ?_
   rintro _ w134 ⟨rfl, k135⟩
   replace K0 := Ex.trans K0 k135
   replace f15 := f15.ex k135
   replace f16 := f16.ex k135
   replace sl21 := sl21.ex k135
   replace b26 := b26.ex k135
   replace b73 := b73.ex k135
   replace b120 := b120.ex k135
   replace b125 := b125.ex k135
   replace sl129 := sl129.ex k135
   replace sl133 := sl133.ex k135
   have zw134 := k135.size
   refine rw_ev (ev_not (b := sameC ((withC (setC raw) ((pickI c.1 (16 : Int)) - 8, (pickI c.2 (16 : Int)) - 8) true).1) ((withC (setC raw) ((pickI c.1 (16 : Int)) - 8, (pickI c.2 (16 : Int)) - 8) true).1)) rfl rfl) rfl rfl rfl ?_
   refine rw_ev (ev_move rfl) rfl rfl rfl ?_
   refine rw_ev (ev_move rfl) (gd_ff rfl (not_f (by exact same_self _))) rfl rfl ?_
   refine rw_ev (ev_move rfl) (gd_ff rfl (not_f (by exact same_self _))) rfl rfl ?_
   refine rw_ev (ev_ne rfl rfl) (gd_ff rfl (not_f (by exact same_self _))) rfl rfl ?_
   refine rw_ev (ev_pk_f (b := !(sameC ((withC (setC raw) ((pickI c.1 (16 : Int)) - 8, (pickI c.2 (16 : Int)) - 8) true).1) ((withC (setC raw) ((pickI c.1 (16 : Int)) - 8, (pickI c.2 (16 : Int)) - 8) true).1))) rfl (not_f (by exact same_self _)) rfl) rfl rfl rfl ?_
   refine rw_nil ?_
   refine nw_seq ?_
   refine cw_f (b := decide (((withC (setC raw) ((pickI c.1 (16 : Int)) - 8, (pickI c.2 (16 : Int)) - 8) true).2) ≠ ((withC (setC raw) ((pickI c.1 (16 : Int)) - 8, (pickI c.2 (16 : Int)) - 8) true).2))) rfl (dec_f (fun h_ => h_ rfl)) ?_
   refine cw_skip ?_
   refine nw_block ?_
   refine nw_seq ?_
   refine cw_region ?_
   refine rw_ev (v := .int .i64 1) (ev_add (p := 0) (q := 1) rfl rfl (by decide)) rfl rfl rfl ?_
   refine rw_ev (v := .int .i64 1) (ev_move rfl) rfl rfl rfl ?_
   refine rw_nil ?_
   refine nw_again ?_
   refine cw_sub (e' := [(3, .int .i64 dx), (4, .int .i64 dy), (7, .pointer (some ⟨g1, 0, none⟩)), (10, .bool false), (11, .bool true), (39, .slice (some ⟨g22, 0, none⟩) 2 2), (40, .int .i64 2), (41, .int .i64 0), (14, u18), (101, .int .i64 1), (99, .slice (some ⟨g69, 0, none⟩) 2 2), (100, .int .i64 2), (24, .pointer (some ⟨g113, 0, none⟩)), (105, .slice (some ⟨g121, 0, none⟩) 2 2), (106, .int .i64 2), (107, .int .i64 1)]) (Sub.cons rfl (Sub.cons rfl (Sub.cons rfl (Sub.cons rfl (Sub.cons rfl (Sub.cons rfl (Sub.cons rfl (Sub.cons rfl (Sub.cons rfl (Sub.cons rfl (Sub.cons rfl (Sub.cons rfl (Sub.cons rfl (Sub.cons rfl (Sub.cons rfl (Sub.cons rfl Sub.nil)))))))))))))))) ?_
   refine cw_seq ?_
   refine cw_region ?_
   refine rw_ev (v := .bool true) (ev_lss (p := 1) (q := 2) rfl rfl) rfl rfl rfl ?_
   refine rw_nil ?_
   refine nw_seq ?_
   refine cw_seq ?_
   refine cw_t (b := true) rfl rfl ?_
   refine cw_skip ?_
   refine nw_seq ?_
   refine cw_seq ?_
   refine cw_block ?_
   refine cw_seq ?_
   refine cw_region ?_
   refine rw_ev (v := .pointer (some ⟨g121, 1, none⟩)) (ev_litAt (i := 1) rfl rfl el_78 (by decide) 1 rfl) rfl rfl rfl ?_
   refine rw_ev (v := .bool false) (ev_lb1 (off := 1) (fun _ h => h ▸ b125) rfl one_4 rfl) rfl rfl rfl ?_
   refine rw_ev (ev_assign rfl) rfl rfl rfl ?_
   refine rw_nil ?_
   refine nw_seq ?_
   refine cw_seq ?_
   refine cw_region ?_
   refine rw_ev (ev_move rfl) rfl rfl rfl ?_
   refine rw_ev (v := .agg #[.int .i64 ((pickI c.1 (16 : Int)) - 8), .int .i64 ((pickI c.2 (16 : Int)) - 8)]) (ev_lbk (off := 0) (vs := [.int .i64 ((pickI c.1 (16 : Int)) - 8), .int .i64 ((pickI c.2 (16 : Int)) - 8)]) (fun _ h => h ▸ b120) rfl agg_55 rfl rfl) rfl rfl rfl ?_
   refine rw_ev (ev_move rfl) rfl rfl rfl ?_
   refine rw_op (op_fn (xs := [.tmp 112, .tmp 113, .tmp 114]) ent_61 rfl (c_cwith w134 u18 (setC raw) (Sl.below sl21) ((pickI c.1 (16 : Int)) - 8, (pickI c.2 (16 : Int)) - 8) false)) rfl rfl rfl ?_
   rintro _ w137 ⟨u136, rfl, k138, sl139⟩
   replace K0 := Ex.trans K0 k138
   replace f15 := f15.ex k138
   replace f16 := f16.ex k138
   replace sl21 := sl21.ex k138
   replace b26 := b26.ex k138
   replace b73 := b73.ex k138
   replace b120 := b120.ex k138
   replace b125 := b125.ex k138
   have zw137 := k138.size
   refine rw_ev (ev_move rfl) rfl rfl rfl ?_
   refine rw_ev (ev_extract (vs := #[u136, .int .i64 ((withC (setC raw) ((pickI c.1 (16 : Int)) - 8, (pickI c.2 (16 : Int)) - 8) false).2)]) rfl rfl) rfl rfl rfl ?_
   refine rw_ev (ev_extract (vs := #[u136, .int .i64 ((withC (setC raw) ((pickI c.1 (16 : Int)) - 8, (pickI c.2 (16 : Int)) - 8) false).2)]) rfl rfl) rfl rfl rfl ?_
   refine rw_ev (ev_assign rfl) rfl rfl rfl ?_
   refine rw_ev (ev_assign rfl) rfl rfl rfl ?_
   refine rw_nil ?_
   refine nw_seq ?_
   refine cw_seq ?_
   refine cw_region ?_
   refine rw_ev (ev_move rfl) rfl rfl rfl ?_
   refine rw_ev (v := .agg #[.int .i64 ((pickI c.1 (16 : Int)) - 8), .int .i64 ((pickI c.2 (16 : Int)) - 8)]) (ev_lbk (off := 0) (vs := [.int .i64 ((pickI c.1 (16 : Int)) - 8), .int .i64 ((pickI c.2 (16 : Int)) - 8)]) (fun _ h => h ▸ b120) rfl agg_55 rfl rfl) rfl rfl rfl ?_
   refine rw_ev (ev_move rfl) rfl rfl rfl ?_
   refine rw_op (op_fn (xs := [.tmp 119, .tmp 120, .tmp 121]) ent_62 rfl (c_with w137 u18 (setC raw) (Sl.below sl21) ((pickI c.1 (16 : Int)) - 8, (pickI c.2 (16 : Int)) - 8) false)) rfl rfl rfl ?_
   rintro _ w141 ⟨u140, rfl, k142, sl143⟩
   replace K0 := Ex.trans K0 k142
   replace f15 := f15.ex k142
   replace f16 := f16.ex k142
   replace sl21 := sl21.ex k142
   replace b26 := b26.ex k142
   replace b73 := b73.ex k142
   replace b120 := b120.ex k142
   replace b125 := b125.ex k142
   replace sl139 := sl139.ex k142
   have zw141 := k142.size
   refine rw_ev (ev_move rfl) rfl rfl rfl ?_
   refine rw_ev (ev_extract (vs := #[u140, .int .i64 ((withC (setC raw) ((pickI c.1 (16 : Int)) - 8, (pickI c.2 (16 : Int)) - 8) false).2)]) rfl rfl) rfl rfl rfl ?_
   refine rw_ev (ev_extract (vs := #[u140, .int .i64 ((withC (setC raw) ((pickI c.1 (16 : Int)) - 8, (pickI c.2 (16 : Int)) - 8) false).2)]) rfl rfl) rfl rfl rfl ?_
   refine rw_ev (ev_assign rfl) rfl rfl rfl ?_
   refine rw_ev (ev_assign rfl) rfl rfl rfl ?_
   refine rw_nil ?_
   refine nw_seq ?_
   refine cw_seq ?_
   refine cw_region ?_
   refine rw_ev (ev_move rfl) rfl rfl rfl ?_
   refine rw_ev (ev_move rfl) rfl rfl rfl ?_
   refine rw_op (op_fn (xs := [.tmp 125, .tmp 126]) ent_37 rfl (c_same w141 u136 ((withC (setC raw) ((pickI c.1 (16 : Int)) - 8, (pickI c.2 (16 : Int)) - 8) false).1) (Sl.below sl139) u140 ((withC (setC raw) ((pickI c.1 (16 : Int)) - 8, (pickI c.2 (16 : Int)) - 8) false).1) (Sl.below sl143))) rfl rfl rfl ?_
   rintro _ w144 ⟨rfl, k145⟩
   replace K0 := Ex.trans K0 k145
   replace f15 := f15.ex k145
   replace f16 := f16.ex k145
   replace sl21 := sl21.ex k145
   replace b26 := b26.ex k145
   replace b73 := b73.ex k145
   replace b120 := b120.ex k145
   replace b125 := b125.ex k145
   replace sl139 := sl139.ex k145
   replace sl143 := sl143.ex k145
   have zw144 := k145.size
   refine rw_ev (ev_not (b := sameC ((withC (setC raw) ((pickI c.1 (16 : Int)) - 8, (pickI c.2 (16 : Int)) - 8) false).1) ((withC (setC raw) ((pickI c.1 (16 : Int)) - 8, (pickI c.2 (16 : Int)) - 8) false).1)) rfl rfl) rfl rfl rfl ?_
   refine rw_ev (ev_move rfl) rfl rfl rfl ?_
   refine rw_ev (ev_move rfl) (gd_ff rfl (not_f (by exact same_self _))) rfl rfl ?_
   refine rw_ev (ev_move rfl) (gd_ff rfl (not_f (by exact same_self _))) rfl rfl ?_
   refine rw_ev (ev_ne rfl rfl) (gd_ff rfl (not_f (by exact same_self _))) rfl rfl ?_
   refine rw_ev (ev_pk_f (b := !(sameC ((withC (setC raw) ((pickI c.1 (16 : Int)) - 8, (pickI c.2 (16 : Int)) - 8) false).1) ((withC (setC raw) ((pickI c.1 (16 : Int)) - 8, (pickI c.2 (16 : Int)) - 8) false).1))) rfl (not_f (by exact same_self _)) rfl) rfl rfl rfl ?_
   refine rw_nil ?_
   refine nw_seq ?_
   refine cw_f (b := decide (((withC (setC raw) ((pickI c.1 (16 : Int)) - 8, (pickI c.2 (16 : Int)) - 8) false).2) ≠ ((withC (setC raw) ((pickI c.1 (16 : Int)) - 8, (pickI c.2 (16 : Int)) - 8) false).2))) rfl (dec_f (fun h_ => h_ rfl)) ?_
   refine cw_skip ?_
   refine nw_block ?_
   refine nw_seq ?_
   refine cw_region ?_
   refine rw_ev (v := .int .i64 2) (ev_add (p := 1) (q := 1) rfl rfl (by decide)) rfl rfl rfl ?_
   refine rw_ev (v := .int .i64 2) (ev_move rfl) rfl rfl rfl ?_
   refine rw_nil ?_
   refine nw_again ?_
   refine cw_sub (e' := [(3, .int .i64 dx), (4, .int .i64 dy), (7, .pointer (some ⟨g1, 0, none⟩)), (10, .bool false), (11, .bool true), (39, .slice (some ⟨g22, 0, none⟩) 2 2), (40, .int .i64 2), (41, .int .i64 0), (14, u18), (101, .int .i64 1), (99, .slice (some ⟨g69, 0, none⟩) 2 2), (100, .int .i64 2), (24, .pointer (some ⟨g113, 0, none⟩)), (105, .slice (some ⟨g121, 0, none⟩) 2 2), (106, .int .i64 2), (107, .int .i64 2)]) (Sub.cons rfl (Sub.cons rfl (Sub.cons rfl (Sub.cons rfl (Sub.cons rfl (Sub.cons rfl (Sub.cons rfl (Sub.cons rfl (Sub.cons rfl (Sub.cons rfl (Sub.cons rfl (Sub.cons rfl (Sub.cons rfl (Sub.cons rfl (Sub.cons rfl (Sub.cons rfl Sub.nil)))))))))))))))) ?_
   refine cw_seq ?_
   refine cw_region ?_
   refine rw_ev (v := .bool false) (ev_lss (p := 2) (q := 2) rfl rfl) rfl rfl rfl ?_
   refine rw_nil ?_
   refine nw_seq ?_
   refine cw_seq ?_
   refine cw_f (b := false) rfl rfl ?_
   refine cw_exit ?_
   refine xw_seq ?_
   refine xw_again ?_
   refine xw_hit ?_
   refine nw_seq ?_
   refine cw_seq ?_
   refine cw_drawn (fun w146 w_ => Ex w146 w_) [] (.take 0 (.take 1 (.take 3 (.take 4 (.one 2 (.one 5 (.take 6 .done))))))) mixed (by kernel_rfl) (by kernel_rfl) (Nat.le_of_ble_eq_true (by kernel_rfl)) ?_; intro w146 k147 hs_
   replace K0 := Ex.trans K0 k147
   replace f15 := f15.ex k147
   replace f16 := f16.ex k147
   replace sl21 := sl21.ex k147
   replace b26 := b26.ex k147
   replace b73 := b73.ex k147
   replace b120 := b120.ex k147
   have zw146 := k147.size
   have hS : (fun w_ => Ex w146 w_) w146 := Kp.refl _ _
   refine rp_take hs_ hS rfl rfl (ev_move rfl) rfl rfl rfl ?_
   refine rp_take (v := .agg #[.int .i64 ((pickI c.1 (16 : Int)) - 8), .int .i64 ((pickI c.2 (16 : Int)) - 8)]) hs_ hS rfl rfl (ev_lbk (off := 0) (vs := [.int .i64 ((pickI c.1 (16 : Int)) - 8), .int .i64 ((pickI c.2 (16 : Int)) - 8)]) (fun _ h => b120.ex h) rfl agg_55 rfl rfl) rfl rfl rfl ?_
   refine rp_take hs_ hS rfl rfl (ev_move rfl) rfl rfl rfl ?_
   refine rp_take (v := .agg #[.int .i64 ((pickI c.1 (16 : Int)) - 8), .int .i64 ((pickI c.2 (16 : Int)) - 8)]) hs_ hS rfl rfl (ev_lbk (off := 0) (vs := [.int .i64 ((pickI c.1 (16 : Int)) - 8), .int .i64 ((pickI c.2 (16 : Int)) - 8)]) (fun _ h => b120.ex h) rfl agg_55 rfl rfl) rfl rfl rfl ?_
   refine rp_up (up_op rfl (op_fn (xs := [.tmp 135, .tmp 136]) ent_63 rfl (c_chas w146 u18 (setC raw) (Sl.below (sl21.ex hS)) ((pickI c.1 (16 : Int)) - 8, (pickI c.2 (16 : Int)) - 8))) rfl rfl rfl ?_)
   rintro _ w148 ⟨rfl, k149⟩
   replace K0 := Ex.trans K0 k149
   replace hS := Ex.trans hS k149
   have zw148 := k149.size
   refine ⟨(fun _ => hS), ?_⟩
   refine rp_up (up_op rfl (op_fn (xs := [.tmp 138, .tmp 139]) ent_55 rfl (c_has w148 u18 (setC raw) (Sl.below (sl21.ex hS)) ((pickI c.1 (16 : Int)) - 8, (pickI c.2 (16 : Int)) - 8))) rfl rfl rfl ?_)
   rintro _ w150 ⟨rfl, k151⟩
   replace K0 := Ex.trans K0 k151
   replace hS := Ex.trans hS k151
   have zw150 := k151.size
   refine ⟨(fun _ => hS), ?_⟩
   refine rp_take hs_ hS rfl rfl (ev_neb bool_4 rfl rfl) rfl rfl rfl ?_
   refine rp_done ?_
   clear hs_
   replace f15 := f15.ex hS
   replace f16 := f16.ex hS
   replace sl21 := sl21.ex hS
   replace b26 := b26.ex hS
   replace b73 := b73.ex hS
   replace b120 := b120.ex hS
   refine nw_seq ?_
   refine cw_f (b := decide ((hasC (setC raw) ((pickI c.1 (16 : Int)) - 8, (pickI c.2 (16 : Int)) - 8)) ≠ (hasC (setC raw) ((pickI c.1 (16 : Int)) - 8, (pickI c.2 (16 : Int)) - 8)))) rfl (dec_f (fun h_ => h_ rfl)) ?_
   refine cw_skip ?_
   refine nw_block ?_
   refine nw_seq ?_
   refine cw_region ?_
   refine rw_ev (v := .int .i64 2) (ev_add (p := 1) (q := 1) rfl rfl (by decide)) rfl rfl rfl ?_
   refine rw_ev (v := .int .i64 2) (ev_move rfl) rfl rfl rfl ?_
   refine rw_nil ?_
   refine nw_again ?_
   refine cw_sub (e' := [(3, .int .i64 dx), (4, .int .i64 dy), (7, .pointer (some ⟨g1, 0, none⟩)), (10, .bool false), (11, .bool true), (39, .slice (some ⟨g22, 0, none⟩) 2 2), (40, .int .i64 2), (41, .int .i64 0), (14, u18), (101, .int .i64 2), (99, .slice (some ⟨g69, 0, none⟩) 2 2), (100, .int .i64 2)]) (Sub.cons rfl (Sub.cons rfl (Sub.cons rfl (Sub.cons rfl (Sub.cons rfl (Sub.cons rfl (Sub.cons rfl (Sub.cons rfl (Sub.cons rfl (Sub.cons rfl (Sub.cons rfl (Sub.cons rfl Sub.nil)))))))))))) ?_
   refine cw_seq ?_
   refine cw_region ?_
   refine rw_ev (v := .bool false) (ev_lss (p := 2) (q := 2) rfl rfl) rfl rfl rfl ?_
   refine rw_nil ?_
   refine nw_seq ?_
   refine cw_seq ?_
   refine cw_f (b := false) rfl rfl ?_
   refine cw_exit ?_
   refine xw_seq ?_
   refine xw_again ?_
   refine xw_hit ?_
   refine nw_seq ?_
   refine cw_seq ?_
   refine cw_region ?_
   refine rw_ev (ev_move rfl) rfl rfl rfl ?_
   refine rw_ev (ev_move rfl) rfl rfl rfl ?_
   refine rw_ev (v := .agg #[.int .i64 dx, .int .i64 dy]) (ev_pure rfl rfl (fun _ => by kernel_rfl)) rfl rfl rfl ?_
   refine rw_ev (ev_move rfl) rfl rfl rfl ?_
   refine rw_op (op_fn (xs := [.tmp 146, .const (.int .i64 40)]) ent_60 rfl (c_pick60 w150 dx (40 : Int) (by omega) (by omega))) rfl rfl rfl ?_
   rintro _ w152 ⟨rfl, k153, pr154⟩
   replace K0 := Ex.trans K0 k153
   replace f15 := f15.ex k153
   replace f16 := f16.ex k153
   replace sl21 := sl21.ex k153
   replace b26 := b26.ex k153
   have zw152 := k153.size
   refine rw_ev (ev_move rfl) rfl rfl rfl ?_
   refine rw_op (op_fn (xs := [.tmp 148, .const (.int .i64 40)]) ent_60 rfl (c_pick60 w152 dy (40 : Int) (by omega) (by omega))) rfl rfl rfl ?_
   rintro _ w155 ⟨rfl, k156, pr157⟩
   replace K0 := Ex.trans K0 k156
   replace f15 := f15.ex k156
   replace f16 := f16.ex k156
   replace sl21 := sl21.ex k156
   replace b26 := b26.ex k156
   have zw155 := k156.size
   refine rw_ev (ev_neg rfl (by omega)) rfl rfl rfl ?_
   refine rw_ev (v := .agg #[.int .i64 (pickI dx (40 : Int)), .int .i64 (-(pickI dy (40 : Int)))]) (ev_pure rfl rfl (fun _ => by kernel_rfl)) rfl rfl rfl ?_
   refine rw_op (op_buildSlice (E := 45) (m := 2) (pv := #[(0, .agg #[.int .i64 dx, .int .i64 dy]), (1, .agg #[.int .i64 (pickI dx (40 : Int)), .int .i64 (-(pickI dy (40 : Int)))])]) (cs := #[.int .i64 dx, .int .i64 dy, .int .i64 (pickI dx (40 : Int)), .int .i64 (-(pickI dy (40 : Int)))]) rfl (fun _ => by kernel_rfl)) rfl rfl rfl ?_
   rintro _ w159 ⟨g158, rfl, hg160, k161, b162⟩
   replace K0 := Ex.trans K0 k161
   replace f15 := f15.ex k161
   replace f16 := f16.ex k161
   replace sl21 := sl21.ex k161
   replace b26 := b26.ex k161
   have zw159 := k161.size
   have lg158 := b162.lt
   refine rw_ev (v := .int .i64 2) (ev_pure rfl rfl (fun _ => by kernel_rfl)) rfl rfl rfl ?_
   refine rw_ev (ev_move rfl) rfl rfl rfl ?_
   refine rw_nil ?_
   refine nw_seq ?_
   refine cw_block ?_
   refine cw_rounds 2 ?_
   refine cw_seq ?_
   refine cw_region ?_
   refine rw_ev (v := .bool true) (ev_lss (p := 0) (q := 2) rfl rfl) rfl rfl rfl ?_
   refine rw_nil ?_
   refine nw_seq ?_
   refine cw_seq ?_
   refine cw_t (b := true) rfl rfl ?_
   refine cw_skip ?_
   refine nw_seq ?_
   refine cw_seq ?_
   refine cw_block ?_
   refine cw_seq ?_
   refine cw_region ?_
   refine rw_ev (v := .pointer (some ⟨g158, 0, none⟩)) (ev_litAt (i := 0) rfl rfl el_23 (by decide) 0 rfl) rfl rfl rfl ?_
   refine rw_ev (v := .agg #[.int .i64 dx, .int .i64 dy]) (ev_lbk (off := 0) (vs := [.int .i64 dx, .int .i64 dy]) (fun _ h => h ▸ b162) rfl agg_45 rfl rfl) rfl rfl rfl ?_
   refine rw_op (op_alloc zero_45) rfl rfl rfl ?_
   rintro _ w164 ⟨g163, rfl, hg165, k166, b167⟩
   replace K0 := Ex.trans K0 k166
   replace f15 := f15.ex k166
   replace f16 := f16.ex k166
   replace sl21 := sl21.ex k166
   replace b26 := b26.ex k166
   replace b162 := b162.ex k166
   have zw164 := k166.size
   have lg163 := b167.lt
   refine rw_none (op_store (off := 0) (v := .agg #[.int .i64 dx, .int .i64 dy]) (cs' := #[.int .i64 dx, .int .i64 dy]) b167 rfl rfl size_45 rfl (Nat.le_of_ble_eq_true rfl) (one_cons rfl (one_cons rfl one_nil)) rfl) rfl rfl ?_
   rintro _ w168 ⟨k169, b170⟩
   replace K0 := Ex.kp_new K0 k169 (fun _ h => h ▸ Nat.le_trans (Nat.le_trans zw2 (Nat.le_trans zw6 (Nat.le_trans z12 (Nat.le_trans zw19 (Nat.le_trans zw23 (Nat.le_trans zw28 (Nat.le_trans zw32 (Nat.le_trans zw35 (Nat.le_trans zw37 (Nat.le_trans zw39 (Nat.le_trans zw41 (Nat.le_trans zw44 (Nat.le_trans zw48 (Nat.le_trans zw51 (Nat.le_trans zw54 (Nat.le_trans zw58 (Nat.le_trans zw61 (Nat.le_trans zw63 (Nat.le_trans zw66 (Nat.le_trans zw70 (Nat.le_trans zw75 (Nat.le_trans zw79 (Nat.le_trans zw83 (Nat.le_trans zw88 (Nat.le_trans zw92 (Nat.le_trans zw95 (Nat.le_trans zw98 (Nat.le_trans zw102 (Nat.le_trans zw105 (Nat.le_trans zw107 (Nat.le_trans zw109 (Nat.le_trans zw111 (Nat.le_trans zw114 (Nat.le_trans zw118 (Nat.le_trans zw122 (Nat.le_trans zw127 (Nat.le_trans zw131 (Nat.le_trans zw134 (Nat.le_trans zw137 (Nat.le_trans zw141 (Nat.le_trans zw144 (Nat.le_trans zw146 (Nat.le_trans zw148 (Nat.le_trans zw150 (Nat.le_trans zw152 (Nat.le_trans zw155 zw159)))))))))))))))))))))))))))))))))))))))))))))) hg165)
   replace f15 := f15.kp k169 (Nat.ne_of_lt (Nat.lt_of_lt_of_le lg1 (Nat.le_trans (Nat.le_trans zw6 (Nat.le_trans z12 (Nat.le_trans zw19 (Nat.le_trans zw23 (Nat.le_trans zw28 (Nat.le_trans zw32 (Nat.le_trans zw35 (Nat.le_trans zw37 (Nat.le_trans zw39 (Nat.le_trans zw41 (Nat.le_trans zw44 (Nat.le_trans zw48 (Nat.le_trans zw51 (Nat.le_trans zw54 (Nat.le_trans zw58 (Nat.le_trans zw61 (Nat.le_trans zw63 (Nat.le_trans zw66 (Nat.le_trans zw70 (Nat.le_trans zw75 (Nat.le_trans zw79 (Nat.le_trans zw83 (Nat.le_trans zw88 (Nat.le_trans zw92 (Nat.le_trans zw95 (Nat.le_trans zw98 (Nat.le_trans zw102 (Nat.le_trans zw105 (Nat.le_trans zw107 (Nat.le_trans zw109 (Nat.le_trans zw111 (Nat.le_trans zw114 (Nat.le_trans zw118 (Nat.le_trans zw122 (Nat.le_trans zw127 (Nat.le_trans zw131 (Nat.le_trans zw134 (Nat.le_trans zw137 (Nat.le_trans zw141 (Nat.le_trans zw144 (Nat.le_trans zw146 (Nat.le_trans zw148 (Nat.le_trans zw150 (Nat.le_trans zw152 (Nat.le_trans zw155 zw159))))))))))))))))))))))))))))))))))))))))))))) hg165)))
   replace f16 := f16.kp k169 (fun b h e => Nat.lt_irrefl _ (Nat.lt_of_lt_of_le (show g163 < _ from e ▸ (show b < _ from h)) (Nat.le_trans (Nat.le_trans zw2 (Nat.le_trans zw6 (Nat.le_trans z12 (Nat.le_trans zw19 (Nat.le_trans zw23 (Nat.le_trans zw28 (Nat.le_trans zw32 (Nat.le_trans zw35 (Nat.le_trans zw37 (Nat.le_trans zw39 (Nat.le_trans zw41 (Nat.le_trans zw44 (Nat.le_trans zw48 (Nat.le_trans zw51 (Nat.le_trans zw54 (Nat.le_trans zw58 (Nat.le_trans zw61 (Nat.le_trans zw63 (Nat.le_trans zw66 (Nat.le_trans zw70 (Nat.le_trans zw75 (Nat.le_trans zw79 (Nat.le_trans zw83 (Nat.le_trans zw88 (Nat.le_trans zw92 (Nat.le_trans zw95 (Nat.le_trans zw98 (Nat.le_trans zw102 (Nat.le_trans zw105 (Nat.le_trans zw107 (Nat.le_trans zw109 (Nat.le_trans zw111 (Nat.le_trans zw114 (Nat.le_trans zw118 (Nat.le_trans zw122 (Nat.le_trans zw127 (Nat.le_trans zw131 (Nat.le_trans zw134 (Nat.le_trans zw137 (Nat.le_trans zw141 (Nat.le_trans zw144 (Nat.le_trans zw146 (Nat.le_trans zw148 (Nat.le_trans zw150 (Nat.le_trans zw152 (Nat.le_trans zw155 zw159)))))))))))))))))))))))))))))))))))))))))))))) hg165)))
   replace sl21 := sl21.kp k169 (fun b h e => Nat.lt_irrefl _ (Nat.lt_of_lt_of_le (show g163 < _ from e ▸ (show b < _ from h.2)) (Nat.le_trans (Nat.le_trans zw23 (Nat.le_trans zw28 (Nat.le_trans zw32 (Nat.le_trans zw35 (Nat.le_trans zw37 (Nat.le_trans zw39 (Nat.le_trans zw41 (Nat.le_trans zw44 (Nat.le_trans zw48 (Nat.le_trans zw51 (Nat.le_trans zw54 (Nat.le_trans zw58 (Nat.le_trans zw61 (Nat.le_trans zw63 (Nat.le_trans zw66 (Nat.le_trans zw70 (Nat.le_trans zw75 (Nat.le_trans zw79 (Nat.le_trans zw83 (Nat.le_trans zw88 (Nat.le_trans zw92 (Nat.le_trans zw95 (Nat.le_trans zw98 (Nat.le_trans zw102 (Nat.le_trans zw105 (Nat.le_trans zw107 (Nat.le_trans zw109 (Nat.le_trans zw111 (Nat.le_trans zw114 (Nat.le_trans zw118 (Nat.le_trans zw122 (Nat.le_trans zw127 (Nat.le_trans zw131 (Nat.le_trans zw134 (Nat.le_trans zw137 (Nat.le_trans zw141 (Nat.le_trans zw144 (Nat.le_trans zw146 (Nat.le_trans zw148 (Nat.le_trans zw150 (Nat.le_trans zw152 (Nat.le_trans zw155 zw159)))))))))))))))))))))))))))))))))))))))))) hg165)))
   replace b26 := b26.kp k169 (Nat.ne_of_lt (Nat.lt_of_lt_of_le lg22 (Nat.le_trans (Nat.le_trans zw28 (Nat.le_trans zw32 (Nat.le_trans zw35 (Nat.le_trans zw37 (Nat.le_trans zw39 (Nat.le_trans zw41 (Nat.le_trans zw44 (Nat.le_trans zw48 (Nat.le_trans zw51 (Nat.le_trans zw54 (Nat.le_trans zw58 (Nat.le_trans zw61 (Nat.le_trans zw63 (Nat.le_trans zw66 (Nat.le_trans zw70 (Nat.le_trans zw75 (Nat.le_trans zw79 (Nat.le_trans zw83 (Nat.le_trans zw88 (Nat.le_trans zw92 (Nat.le_trans zw95 (Nat.le_trans zw98 (Nat.le_trans zw102 (Nat.le_trans zw105 (Nat.le_trans zw107 (Nat.le_trans zw109 (Nat.le_trans zw111 (Nat.le_trans zw114 (Nat.le_trans zw118 (Nat.le_trans zw122 (Nat.le_trans zw127 (Nat.le_trans zw131 (Nat.le_trans zw134 (Nat.le_trans zw137 (Nat.le_trans zw141 (Nat.le_trans zw144 (Nat.le_trans zw146 (Nat.le_trans zw148 (Nat.le_trans zw150 (Nat.le_trans zw152 (Nat.le_trans zw155 zw159))))))))))))))))))))))))))))))))))))))))) hg165)))
   replace b162 := b162.kp k169 (Nat.ne_of_lt (Nat.lt_of_lt_of_le lg158 (Nat.le_trans (Nat.le_refl _) hg165)))
   have zw168 := k169.size
   refine rw_nil ?_
   refine nw_seq ?_
   refine cw_seq ?_
   refine cw_region ?_
   refine rw_ev (ev_move rfl) rfl rfl rfl ?_
   refine rw_ev (v := .pointer (some ⟨g163, 0, none⟩)) (ev_arrAt (i := 0) (m := 2) (k := 1) rfl rfl arr_45 (by omega)) rfl rfl rfl ?_
   refine rw_ev (v := .int .i64 dx) (ev_lb1 (off := 0) (fun _ h => h ▸ b170) rfl one_3 rfl) rfl rfl rfl ?_
   refine rw_ev (v := .pointer (some ⟨g163, 1, none⟩)) (ev_arrAt (i := 1) (m := 2) (k := 1) rfl rfl arr_45 (by omega)) rfl rfl rfl ?_
   refine rw_ev (v := .int .i64 dy) (ev_lb1 (off := 1) (fun _ h => h ▸ b170) rfl one_3 rfl) rfl rfl rfl ?_
   refine rw_op (op_fn (xs := [.tmp 159, .tmp 161, .tmp 163]) ent_64 rfl (c_cshift w168 u18 (setC raw) (Sl.below sl21) dx dy (by omega) (by omega))) rfl rfl rfl ?_
   rintro _ w172 ⟨u171, rfl, k173, sl174⟩
   replace K0 := Ex.trans K0 k173
   replace f15 := f15.ex k173
   replace f16 := f16.ex k173
   replace sl21 := sl21.ex k173
   replace b26 := b26.ex k173
   replace b162 := b162.ex k173
   replace b170 := b170.ex k173
   have zw172 := k173.size
   refine rw_ev (ev_move rfl) rfl rfl rfl ?_
   refine rw_ev (ev_extract rfl rfl) rfl rfl rfl ?_
   refine rw_ev (ev_extract rfl rfl) rfl rfl rfl ?_
   refine rw_ev (ev_assign rfl) rfl rfl rfl ?_
   refine rw_ev (ev_assign rfl) rfl rfl rfl ?_
   refine rw_nil ?_
   refine nw_seq ?_
   refine cw_seq ?_
   refine cw_region ?_
   refine rw_ev (ev_move rfl) rfl rfl rfl ?_
   refine rw_ev (v := .pointer (some ⟨g163, 0, none⟩)) (ev_arrAt (i := 0) (m := 2) (k := 1) rfl rfl arr_45 (by omega)) rfl rfl rfl ?_
   refine rw_ev (v := .int .i64 dx) (ev_lb1 (off := 0) (fun _ h => h ▸ b170) rfl one_3 rfl) rfl rfl rfl ?_
   refine rw_ev (v := .pointer (some ⟨g163, 1, none⟩)) (ev_arrAt (i := 1) (m := 2) (k := 1) rfl rfl arr_45 (by omega)) rfl rfl rfl ?_
   refine rw_ev (v := .int .i64 dy) (ev_lb1 (off := 1) (fun _ h => h ▸ b170) rfl one_3 rfl) rfl rfl rfl ?_
   refine rw_op (op_fn (xs := [.tmp 168, .tmp 170, .tmp 172]) ent_45 rfl (c_shift w172 u18 (setC raw) (Sl.below sl21) dx dy)) rfl rfl rfl ?_
   rintro _ w176 ⟨u175, rfl, k177, sl178⟩
   replace K0 := Ex.trans K0 k177
   replace f15 := f15.ex k177
   replace f16 := f16.ex k177
   replace sl21 := sl21.ex k177
   replace b26 := b26.ex k177
   replace b162 := b162.ex k177
   replace b170 := b170.ex k177
   replace sl174 := sl174.ex k177
   have zw176 := k177.size
   refine rw_ev (ev_move rfl) rfl rfl rfl ?_
   refine rw_ev (ev_extract rfl rfl) rfl rfl rfl ?_
   refine rw_ev (ev_extract rfl rfl) rfl rfl rfl ?_
   refine rw_ev (ev_assign rfl) rfl rfl rfl ?_
   refine rw_ev (ev_assign rfl) rfl rfl rfl ?_
   refine rw_nil ?_
   refine nw_seq ?_
   refine cw_seq ?_
   refine cw_region ?_
   refine rw_ev (ev_move rfl) rfl rfl rfl ?_
   refine rw_ev (ev_move rfl) rfl rfl rfl ?_
   refine rw_op (op_fn (xs := [.tmp 176, .tmp 177]) ent_37 rfl (c_same w176 u171 ((shiftC (setC raw) dx dy).1) (Sl.below sl174) u175 ((shiftC (setC raw) dx dy).1) (Sl.below sl178))) rfl rfl rfl ?_
   rintro _ w179 ⟨rfl, k180⟩
   replace K0 := Ex.trans K0 k180
   replace f15 := f15.ex k180
   replace f16 := f16.ex k180
   replace sl21 := sl21.ex k180
   replace b26 := b26.ex k180
   replace b162 := b162.ex k180
   replace sl174 := sl174.ex k180
   replace sl178 := sl178.ex k180
   have zw179 := k180.size
   refine rw_ev (ev_not rfl rfl) rfl rfl rfl ?_
   refine rw_ev (ev_move rfl) rfl rfl rfl ?_
   refine rw_ev (ev_move rfl) (gd_ff rfl (not_f (by exact same_self _))) rfl rfl ?_
   refine rw_ev (ev_move rfl) (gd_ff rfl (not_f (by exact same_self _))) rfl rfl ?_
   refine rw_ev (ev_ne rfl rfl) (gd_ff rfl (not_f (by exact same_self _))) rfl rfl ?_
   refine rw_ev (ev_pk_f rfl (not_f (by exact same_self _)) rfl) rfl rfl rfl ?_
   refine rw_nil ?_
   refine nw_seq ?_
   refine cw_f (b := decide (((shiftC (setC raw) dx dy).2) ≠ ((shiftC (setC raw) dx dy).2))) rfl (dec_f (fun h_ => h_ rfl)) ?_
   refine cw_skip ?_
   refine nw_block ?_
   refine nw_seq ?_
   refine cw_region ?_
   refine rw_ev (v := .int .i64 1) (ev_add (p := 0) (q := 1) rfl rfl (by decide)) rfl rfl rfl ?_
   refine rw_ev (v := .int .i64 1) (ev_move rfl) rfl rfl rfl ?_
   refine rw_nil ?_
   refine nw_again ?_
   refine cw_sub (e' := [(3, .int .i64 dx), (4, .int .i64 dy), (7, .pointer (some ⟨g1, 0, none⟩)), (10, .bool false), (11, .bool true), (39, .slice (some ⟨g22, 0, none⟩) 2 2), (40, .int .i64 2), (41, .int .i64 0), (14, u18), (152, .slice (some ⟨g158, 0, none⟩) 2 2), (153, .int .i64 2), (154, .int .i64 1)]) (Sub.cons rfl (Sub.cons rfl (Sub.cons rfl (Sub.cons rfl (Sub.cons rfl (Sub.cons rfl (Sub.cons rfl (Sub.cons rfl (Sub.cons rfl (Sub.cons rfl (Sub.cons rfl (Sub.cons rfl Sub.nil)))))))))))) ?_
   refine cw_seq ?_
   refine cw_region ?_
   refine rw_ev (v := .bool true) (ev_lss (p := 1) (q := 2) rfl rfl) rfl rfl rfl ?_
   refine rw_nil ?_
   refine nw_seq ?_
   refine cw_seq ?_
   refine cw_t (b := true) rfl rfl ?_
   refine cw_skip ?_
   refine nw_seq ?_
   refine cw_seq ?_
   refine cw_block ?_
   refine cw_seq ?_
   refine cw_region ?_
   refine rw_ev (v := .pointer (some ⟨g158, 2, none⟩)) (ev_litAt (i := 1) rfl rfl el_23 (by decide) 2 rfl) rfl rfl rfl ?_
   refine rw_ev (v := .agg #[.int .i64 (pickI dx (40 : Int)), .int .i64 (-(pickI dy (40 : Int)))]) (ev_lbk (off := 2) (vs := [.int .i64 (pickI dx (40 : Int)), .int .i64 (-(pickI dy (40 : Int)))]) (fun _ h => h ▸ b162) rfl agg_45 rfl rfl) rfl rfl rfl ?_
   refine rw_op (op_alloc zero_45) rfl rfl rfl ?_
   rintro _ w182 ⟨g181, rfl, hg183, k184, b185⟩
   replace K0 := Ex.trans K0 k184
   replace f15 := f15.ex k184
   replace f16 := f16.ex k184
   replace sl21 := sl21.ex k184
   replace b26 := b26.ex k184
   replace b162 := b162.ex k184
   have zw182 := k184.size
   have lg181 := b185.lt
   refine rw_none (op_store (off := 0) (v := .agg #[.int .i64 (pickI dx (40 : Int)), .int .i64 (-(pickI dy (40 : Int)))]) (cs' := #[.int .i64 (pickI dx (40 : Int)), .int .i64 (-(pickI dy (40 : Int)))]) b185 rfl rfl size_45 rfl (Nat.le_of_ble_eq_true rfl) (one_cons rfl (one_cons rfl one_nil)) rfl) rfl rfl ?_
   rintro _ w186 ⟨k187, b188⟩
   replace K0 := Ex.kp_new K0 k187 (fun _ h => h ▸ Nat.le_trans (Nat.le_trans zw2 (Nat.le_trans zw6 (Nat.le_trans z12 (Nat.le_trans zw19 (Nat.le_trans zw23 (Nat.le_trans zw28 (Nat.le_trans zw32 (Nat.le_trans zw35 (Nat.le_trans zw37 (Nat.le_trans zw39 (Nat.le_trans zw41 (Nat.le_trans zw44 (Nat.le_trans zw48 (Nat.le_trans zw51 (Nat.le_trans zw54 (Nat.le_trans zw58 (Nat.le_trans zw61 (Nat.le_trans zw63 (Nat.le_trans zw66 (Nat.le_trans zw70 (Nat.le_trans zw75 (Nat.le_trans zw79 (Nat.le_trans zw83 (Nat.le_trans zw88 (Nat.le_trans zw92 (Nat.le_trans zw95 (Nat.le_trans zw98 (Nat.le_trans zw102 (Nat.le_trans zw105 (Nat.le_trans zw107 (Nat.le_trans zw109 (Nat.le_trans zw111 (Nat.le_trans zw114 (Nat.le_trans zw118 (Nat.le_trans zw122 (Nat.le_trans zw127 (Nat.le_trans zw131 (Nat.le_trans zw134 (Nat.le_trans zw137 (Nat.le_trans zw141 (Nat.le_trans zw144 (Nat.le_trans zw146 (Nat.le_trans zw148 (Nat.le_trans zw150 (Nat.le_trans zw152 (Nat.le_trans zw155 (Nat.le_trans zw159 (Nat.le_trans zw164 (Nat.le_trans zw168 (Nat.le_trans zw172 (Nat.le_trans zw176 zw179))))))))))))))))))))))))))))))))))))))))))))))))))) hg183)
   replace f15 := f15.kp k187 (Nat.ne_of_lt (Nat.lt_of_lt_of_le lg1 (Nat.le_trans (Nat.le_trans zw6 (Nat.le_trans z12 (Nat.le_trans zw19 (Nat.le_trans zw23 (Nat.le_trans zw28 (Nat.le_trans zw32 (Nat.le_trans zw35 (Nat.le_trans zw37 (Nat.le_trans zw39 (Nat.le_trans zw41 (Nat.le_trans zw44 (Nat.le_trans zw48 (Nat.le_trans zw51 (Nat.le_trans zw54 (Nat.le_trans zw58 (Nat.le_trans zw61 (Nat.le_trans zw63 (Nat.le_trans zw66 (Nat.le_trans zw70 (Nat.le_trans zw75 (Nat.le_trans zw79 (Nat.le_trans zw83 (Nat.le_trans zw88 (Nat.le_trans zw92 (Nat.le_trans zw95 (Nat.le_trans zw98 (Nat.le_trans zw102 (Nat.le_trans zw105 (Nat.le_trans zw107 (Nat.le_trans zw109 (Nat.le_trans zw111 (Nat.le_trans zw114 (Nat.le_trans zw118 (Nat.le_trans zw122 (Nat.le_trans zw127 (Nat.le_trans zw131 (Nat.le_trans zw134 (Nat.le_trans zw137 (Nat.le_trans zw141 (Nat.le_trans zw144 (Nat.le_trans zw146 (Nat.le_trans zw148 (Nat.le_trans zw150 (Nat.le_trans zw152 (Nat.le_trans zw155 (Nat.le_trans zw159 (Nat.le_trans zw164 (Nat.le_trans zw168 (Nat.le_trans zw172 (Nat.le_trans zw176 zw179)))))))))))))))))))))))))))))))))))))))))))))))))) hg183)))
   replace f16 := f16.kp k187 (fun b h e => Nat.lt_irrefl _ (Nat.lt_of_lt_of_le (show g181 < _ from e ▸ (show b < _ from h)) (Nat.le_trans (Nat.le_trans zw2 (Nat.le_trans zw6 (Nat.le_trans z12 (Nat.le_trans zw19 (Nat.le_trans zw23 (Nat.le_trans zw28 (Nat.le_trans zw32 (Nat.le_trans zw35 (Nat.le_trans zw37 (Nat.le_trans zw39 (Nat.le_trans zw41 (Nat.le_trans zw44 (Nat.le_trans zw48 (Nat.le_trans zw51 (Nat.le_trans zw54 (Nat.le_trans zw58 (Nat.le_trans zw61 (Nat.le_trans zw63 (Nat.le_trans zw66 (Nat.le_trans zw70 (Nat.le_trans zw75 (Nat.le_trans zw79 (Nat.le_trans zw83 (Nat.le_trans zw88 (Nat.le_trans zw92 (Nat.le_trans zw95 (Nat.le_trans zw98 (Nat.le_trans zw102 (Nat.le_trans zw105 (Nat.le_trans zw107 (Nat.le_trans zw109 (Nat.le_trans zw111 (Nat.le_trans zw114 (Nat.le_trans zw118 (Nat.le_trans zw122 (Nat.le_trans zw127 (Nat.le_trans zw131 (Nat.le_trans zw134 (Nat.le_trans zw137 (Nat.le_trans zw141 (Nat.le_trans zw144 (Nat.le_trans zw146 (Nat.le_trans zw148 (Nat.le_trans zw150 (Nat.le_trans zw152 (Nat.le_trans zw155 (Nat.le_trans zw159 (Nat.le_trans zw164 (Nat.le_trans zw168 (Nat.le_trans zw172 (Nat.le_trans zw176 zw179))))))))))))))))))))))))))))))))))))))))))))))))))) hg183)))
   replace sl21 := sl21.kp k187 (fun b h e => Nat.lt_irrefl _ (Nat.lt_of_lt_of_le (show g181 < _ from e ▸ (show b < _ from h.2)) (Nat.le_trans (Nat.le_trans zw23 (Nat.le_trans zw28 (Nat.le_trans zw32 (Nat.le_trans zw35 (Nat.le_trans zw37 (Nat.le_trans zw39 (Nat.le_trans zw41 (Nat.le_trans zw44 (Nat.le_trans zw48 (Nat.le_trans zw51 (Nat.le_trans zw54 (Nat.le_trans zw58 (Nat.le_trans zw61 (Nat.le_trans zw63 (Nat.le_trans zw66 (Nat.le_trans zw70 (Nat.le_trans zw75 (Nat.le_trans zw79 (Nat.le_trans zw83 (Nat.le_trans zw88 (Nat.le_trans zw92 (Nat.le_trans zw95 (Nat.le_trans zw98 (Nat.le_trans zw102 (Nat.le_trans zw105 (Nat.le_trans zw107 (Nat.le_trans zw109 (Nat.le_trans zw111 (Nat.le_trans zw114 (Nat.le_trans zw118 (Nat.le_trans zw122 (Nat.le_trans zw127 (Nat.le_trans zw131 (Nat.le_trans zw134 (Nat.le_trans zw137 (Nat.le_trans zw141 (Nat.le_trans zw144 (Nat.le_trans zw146 (Nat.le_trans zw148 (Nat.le_trans zw150 (Nat.le_trans zw152 (Nat.le_trans zw155 (Nat.le_trans zw159 (Nat.le_trans zw164 (Nat.le_trans zw168 (Nat.le_trans zw172 (Nat.le_trans zw176 zw179))))))))))))))))))))))))))))))))))))))))))))))) hg183)))
   replace b26 := b26.kp k187 (Nat.ne_of_lt (Nat.lt_of_lt_of_le lg22 (Nat.le_trans (Nat.le_trans zw28 (Nat.le_trans zw32 (Nat.le_trans zw35 (Nat.le_trans zw37 (Nat.le_trans zw39 (Nat.le_trans zw41 (Nat.le_trans zw44 (Nat.le_trans zw48 (Nat.le_trans zw51 (Nat.le_trans zw54 (Nat.le_trans zw58 (Nat.le_trans zw61 (Nat.le_trans zw63 (Nat.le_trans zw66 (Nat.le_trans zw70 (Nat.le_trans zw75 (Nat.le_trans zw79 (Nat.le_trans zw83 (Nat.le_trans zw88 (Nat.le_trans zw92 (Nat.le_trans zw95 (Nat.le_trans zw98 (Nat.le_trans zw102 (Nat.le_trans zw105 (Nat.le_trans zw107 (Nat.le_trans zw109 (Nat.le_trans zw111 (Nat.le_trans zw114 (Nat.le_trans zw118 (Nat.le_trans zw122 (Nat.le_trans zw127 (Nat.le_trans zw131 (Nat.le_trans zw134 (Nat.le_trans zw137 (Nat.le_trans zw141 (Nat.le_trans zw144 (Nat.le_trans zw146 (Nat.le_trans zw148 (Nat.le_trans zw150 (Nat.le_trans zw152 (Nat.le_trans zw155 (Nat.le_trans zw159 (Nat.le_trans zw164 (Nat.le_trans zw168 (Nat.le_trans zw172 (Nat.le_trans zw176 zw179)))))))))))))))))))))))))))))))))))))))))))))) hg183)))
   replace b162 := b162.kp k187 (Nat.ne_of_lt (Nat.lt_of_lt_of_le lg158 (Nat.le_trans (Nat.le_trans zw164 (Nat.le_trans zw168 (Nat.le_trans zw172 (Nat.le_trans zw176 zw179)))) hg183)))
   have zw186 := k187.size
   refine rw_nil ?_
   refine nw_seq ?_
   refine cw_seq ?_
   refine cw_region ?_
   refine rw_ev (ev_move rfl) rfl rfl rfl ?_
   refine rw_ev (v := .pointer (some ⟨g181, 0, none⟩)) (ev_arrAt (i := 0) (m := 2) (k := 1) rfl rfl arr_45 (by omega)) rfl rfl rfl ?_
   refine rw_ev (v := .int .i64 (pickI dx (40 : Int))) (ev_lb1 (off := 0) (fun _ h => h ▸ b188) rfl one_3 rfl) rfl rfl rfl ?_
   refine rw_ev (v := .pointer (some ⟨g181, 1, none⟩)) (ev_arrAt (i := 1) (m := 2) (k := 1) rfl rfl arr_45 (by omega)) rfl rfl rfl ?_
   refine rw_ev (v := .int .i64 (-(pickI dy (40 : Int)))) (ev_lb1 (off := 1) (fun _ h => h ▸ b188) rfl one_3 rfl) rfl rfl rfl ?_
   refine rw_op (op_fn (xs := [.tmp 159, .tmp 161, .tmp 163]) ent_64 rfl (c_cshift w186 u18 (setC raw) (Sl.below sl21) (pickI dx (40 : Int)) (-(pickI dy (40 : Int))) (by omega) (by omega))) rfl rfl rfl ?_
   rintro _ w190 ⟨u189, rfl, k191, sl192⟩
   replace K0 := Ex.trans K0 k191
   replace f15 := f15.ex k191
   replace f16 := f16.ex k191
   replace sl21 := sl21.ex k191
   replace b26 := b26.ex k191
   replace b162 := b162.ex k191
   replace b188 := b188.ex k191
   have zw190 := k191.size
   refine rw_ev (ev_move rfl) rfl rfl rfl ?_
   refine rw_ev (ev_extract (vs := #[u189, .int .i64 ((shiftC (setC raw) (pickI dx (40 : Int)) (-(pickI dy (40 : Int)))).2)]) rfl rfl) rfl rfl rfl ?_
   refine rw_ev (ev_extract (vs := #[u189, .int .i64 ((shiftC (setC raw) (pickI dx (40 : Int)) (-(pickI dy (40 : Int)))).2)]) rfl rfl) rfl rfl rfl ?_
   refine rw_ev (ev_assign rfl) rfl rfl rfl ?_
   refine rw_ev (ev_assign rfl) rfl rfl rfl ?_
   refine rw_nil ?_
   refine nw_seq ?_
   refine cw_seq ?_
   refine cw_region ?_
   refine rw_ev (ev_move rfl) rfl rfl rfl ?_
   refine rw_ev (v := .pointer (some ⟨g181, 0, none⟩)) (ev_arrAt (i := 0) (m := 2) (k := 1) rfl rfl arr_45 (by omega)) rfl rfl rfl ?_
   refine rw_ev (v := .int .i64 (pickI dx (40 : Int))) (ev_lb1 (off := 0) (fun _ h => h ▸ b188) rfl one_3 rfl) rfl rfl rfl ?_
   refine rw_ev (v := .pointer (some ⟨g181, 1, none⟩)) (ev_arrAt (i := 1) (m := 2) (k := 1) rfl rfl arr_45 (by omega)) rfl rfl rfl ?_
   refine rw_ev (v := .int .i64 (-(pickI dy (40 : Int)))) (ev_lb1 (off := 1) (fun _ h => h ▸ b188) rfl one_3 rfl) rfl rfl rfl ?_
   refine rw_op (op_fn (xs := [.tmp 168, .tmp 170, .tmp 172]) ent_45 rfl (c_shift w190 u18 (setC raw) (Sl.below sl21) (pickI dx (40 : Int)) (-(pickI dy (40 : Int))))) rfl rfl rfl ?_
   rintro _ w194 ⟨u193, rfl, k195, sl196⟩
   replace K0 := Ex.trans K0 k195
   replace f15 := f15.ex k195
   replace f16 := f16.ex k195
   replace sl21 := sl21.ex k195
   replace b26 := b26.ex k195
   replace b162 := b162.ex k195
   replace b188 := b188.ex k195
   replace sl192 := sl192.ex k195
   have zw194 := k195.size
   refine rw_ev (ev_move rfl) rfl rfl rfl ?_
   refine rw_ev (ev_extract (vs := #[u193, .int .i64 ((shiftC (setC raw) (pickI dx (40 : Int)) (-(pickI dy (40 : Int)))).2)]) rfl rfl) rfl rfl rfl ?_
   refine rw_ev (ev_extract (vs := #[u193, .int .i64 ((shiftC (setC raw) (pickI dx (40 : Int)) (-(pickI dy (40 : Int)))).2)]) rfl rfl) rfl rfl rfl ?_
   refine rw_ev (ev_assign rfl) rfl rfl rfl ?_
   refine rw_ev (ev_assign rfl) rfl rfl rfl ?_
   refine rw_nil ?_
   refine nw_seq ?_
   refine cw_seq ?_
   refine cw_region ?_
   refine rw_ev (ev_move rfl) rfl rfl rfl ?_
   refine rw_ev (ev_move rfl) rfl rfl rfl ?_
   refine rw_op (op_fn (xs := [.tmp 176, .tmp 177]) ent_37 rfl (c_same w194 u189 ((shiftC (setC raw) (pickI dx (40 : Int)) (-(pickI dy (40 : Int)))).1) (Sl.below sl192) u193 ((shiftC (setC raw) (pickI dx (40 : Int)) (-(pickI dy (40 : Int)))).1) (Sl.below sl196))) rfl rfl rfl ?_
   rintro _ w197 ⟨rfl, k198⟩
   replace K0 := Ex.trans K0 k198
   replace f15 := f15.ex k198
   replace f16 := f16.ex k198
   replace sl21 := sl21.ex k198
   replace b26 := b26.ex k198
   replace b162 := b162.ex k198
   replace sl192 := sl192.ex k198
   replace sl196 := sl196.ex k198
   have zw197 := k198.size
   refine rw_ev (ev_not (b := sameC ((shiftC (setC raw) (pickI dx (40 : Int)) (-(pickI dy (40 : Int)))).1) ((shiftC (setC raw) (pickI dx (40 : Int)) (-(pickI dy (40 : Int)))).1)) rfl rfl) rfl rfl rfl ?_
   refine rw_ev (ev_move rfl) rfl rfl rfl ?_
   refine rw_ev (ev_move rfl) (gd_ff rfl (not_f (by exact same_self _))) rfl rfl ?_
   refine rw_ev (ev_move rfl) (gd_ff rfl (not_f (by exact same_self _))) rfl rfl ?_
   refine rw_ev (ev_ne rfl rfl) (gd_ff rfl (not_f (by exact same_self _))) rfl rfl ?_
   refine rw_ev (ev_pk_f (b := !(sameC ((shiftC (setC raw) (pickI dx (40 : Int)) (-(pickI dy (40 : Int)))).1) ((shiftC (setC raw) (pickI dx (40 : Int)) (-(pickI dy (40 : Int)))).1))) rfl (not_f (by exact same_self _)) rfl) rfl rfl rfl ?_
   refine rw_nil ?_
   refine nw_seq ?_
   refine cw_f (b := decide (((shiftC (setC raw) (pickI dx (40 : Int)) (-(pickI dy (40 : Int)))).2) ≠ ((shiftC (setC raw) (pickI dx (40 : Int)) (-(pickI dy (40 : Int)))).2))) rfl (dec_f (fun h_ => h_ rfl)) ?_
   refine cw_skip ?_
   refine nw_block ?_
   refine nw_seq ?_
   refine cw_region ?_
   refine rw_ev (v := .int .i64 2) (ev_add (p := 1) (q := 1) rfl rfl (by decide)) rfl rfl rfl ?_
   refine rw_ev (v := .int .i64 2) (ev_move rfl) rfl rfl rfl ?_
   refine rw_nil ?_
   refine nw_again ?_
   refine cw_sub (e' := [(3, .int .i64 dx), (4, .int .i64 dy), (7, .pointer (some ⟨g1, 0, none⟩)), (10, .bool false), (11, .bool true), (39, .slice (some ⟨g22, 0, none⟩) 2 2), (40, .int .i64 2), (41, .int .i64 0), (14, u18), (152, .slice (some ⟨g158, 0, none⟩) 2 2), (153, .int .i64 2), (154, .int .i64 2)]) (Sub.cons rfl (Sub.cons rfl (Sub.cons rfl (Sub.cons rfl (Sub.cons rfl (Sub.cons rfl (Sub.cons rfl (Sub.cons rfl (Sub.cons rfl (Sub.cons rfl (Sub.cons rfl (Sub.cons rfl Sub.nil)))))))))))) ?_
   refine cw_seq ?_
   refine cw_region ?_
   refine rw_ev (v := .bool false) (ev_lss (p := 2) (q := 2) rfl rfl) rfl rfl rfl ?_
   refine rw_nil ?_
   refine nw_seq ?_
   refine cw_seq ?_
   refine cw_f (b := false) rfl rfl ?_
   refine cw_exit ?_
   refine xw_seq ?_
   refine xw_again ?_
   refine xw_hit ?_
   refine nw_block ?_
   refine nw_seq ?_
   refine cw_region ?_
   refine rw_ev (v := .int .i64 1) (ev_add (p := 0) (q := 1) rfl rfl (by decide)) rfl rfl rfl ?_
   refine rw_ev (v := .int .i64 1) (ev_move rfl) rfl rfl rfl ?_
   refine rw_nil ?_
   refine nw_again ?_
   refine cw_sub (e' := [(3, .int .i64 dx), (4, .int .i64 dy), (7, .pointer (some ⟨g1, 0, none⟩)), (10, .bool false), (11, .bool true), (39, .slice (some ⟨g22, 0, none⟩) 2 2), (40, .int .i64 2), (41, .int .i64 1)]) (Sub.cons rfl (Sub.cons rfl (Sub.cons rfl (Sub.cons rfl (Sub.cons rfl (Sub.cons rfl (Sub.cons rfl (Sub.cons rfl Sub.nil)))))))) ?_
   refine cw_seq ?_
   refine cw_region ?_
   refine rw_ev (v := .bool true) (ev_lss (p := 1) (q := 2) rfl rfl) rfl rfl rfl ?_
   refine rw_nil ?_
   refine nw_seq ?_
   refine cw_seq ?_
   refine cw_t (b := true) rfl rfl ?_
   refine cw_skip ?_
   refine nw_seq ?_
   refine cw_seq ?_
   refine cw_block ?_
   refine cw_seq ?_
   refine cw_region ?_
   refine rw_ev (v := .pointer (some ⟨g22, 1, none⟩)) (ev_litAt (i := 1) rfl rfl el_62 (by decide) 1 rfl) rfl rfl rfl ?_
   refine rw_ev (v := xv) (ev_lb1 (off := 1) (fun _ h => h ▸ b26) rfl one_46 rfl) rfl rfl rfl ?_
   refine rw_ev (ev_assign rfl) rfl rfl rfl ?_
   refine rw_nil ?_
   refine nw_seq ?_
   refine cw_seq ?_
   refine cw_region ?_
   refine rw_ev (ev_move rfl) rfl rfl rfl ?_
   refine rw_op (op_fn (xs := [.tmp 46]) ent_57 rfl (c_cof w197 xv xl (Sl.below f16) (by (try simp only [List.length_take, List.length_drop]); omega))) rfl rfl rfl ?_
   rintro _ w200 ⟨u199, rfl, k201, sl202⟩
   replace K0 := Ex.trans K0 k201
   replace f15 := f15.ex k201
   replace f16 := f16.ex k201
   replace sl21 := sl21.ex k201
   replace b26 := b26.ex k201
   have zw200 := k201.size
   refine rw_ev (ev_move rfl) rfl rfl rfl ?_
   refine rw_ev (ev_extract rfl rfl) rfl rfl rfl ?_
   refine rw_ev (ev_extract rfl rfl) rfl rfl rfl ?_
   refine rw_ev (ev_assign rfl) rfl rfl rfl ?_
   refine rw_ev (ev_assign rfl) rfl rfl rfl ?_
   refine rw_nil ?_
   refine nw_seq ?_
   refine cw_seq ?_
   refine cw_region ?_
   refine rw_ev (ev_move rfl) rfl rfl rfl ?_
   refine rw_op (op_fn (xs := [.tmp 51]) ent_35 rfl (c_of w200 xv xl (Sl.below f16) (by (try simp only [List.length_take, List.length_drop]); omega))) rfl rfl rfl ?_
   rintro _ w204 ⟨u203, rfl, k205, sl206⟩
   replace K0 := Ex.trans K0 k205
   replace f15 := f15.ex k205
   replace f16 := f16.ex k205
   replace sl21 := sl21.ex k205
   replace b26 := b26.ex k205
   replace sl202 := sl202.ex k205
   have zw204 := k205.size
   refine rw_ev (ev_move rfl) rfl rfl rfl ?_
   refine rw_ev (ev_extract rfl rfl) rfl rfl rfl ?_
   refine rw_ev (ev_extract rfl rfl) rfl rfl rfl ?_
   refine rw_ev (ev_assign rfl) rfl rfl rfl ?_
   refine rw_ev (ev_assign rfl) rfl rfl rfl ?_
   refine rw_nil ?_
   refine nw_seq ?_
   refine cw_seq ?_
   refine cw_seq ?_
   refine cw_region ?_
   refine rw_ev (ev_move rfl) rfl rfl rfl ?_
   refine rw_ev (ev_move rfl) rfl rfl rfl ?_
   refine rw_op (op_fn (xs := [.tmp 55, .tmp 56]) ent_37 rfl (c_same w204 u199 ((ofC xl).1) (Sl.below sl202) u203 ((ofC xl).1) (Sl.below sl206))) rfl rfl rfl ?_
   rintro _ w207 ⟨rfl, k208⟩
   replace K0 := Ex.trans K0 k208
   replace f15 := f15.ex k208
   replace f16 := f16.ex k208
   replace sl21 := sl21.ex k208
   replace b26 := b26.ex k208
   replace sl202 := sl202.ex k208
   replace sl206 := sl206.ex k208
   have zw207 := k208.size
   refine rw_ev (ev_not rfl rfl) rfl rfl rfl ?_
   refine rw_ev (ev_move rfl) rfl rfl rfl ?_
   refine rw_ev (ev_move rfl) (gd_ff rfl (not_f (by exact same_self _))) rfl rfl ?_
   refine rw_ev (ev_move rfl) (gd_ff rfl (not_f (by exact same_self _))) rfl rfl ?_
   refine rw_ev (ev_ne rfl rfl) (gd_ff rfl (not_f (by exact same_self _))) rfl rfl ?_
   refine rw_ev (ev_pk_f rfl (not_f (by exact same_self _)) rfl) rfl rfl rfl ?_
   refine rw_ev (ev_move rfl) rfl rfl rfl ?_
   refine rw_ev (ev_move rfl) (gd_ff rfl (dec_f (fun h_ => h_ rfl))) rfl rfl ?_
   refine rw_op (op_fn (xs := [.tmp 65]) ent_58 rfl (c_cright w207 xv xl (Sl.below f16))) (gd_ff rfl (dec_f (fun h_ => h_ rfl))) rfl rfl ?_
   rintro _ w209 ⟨rfl, k210⟩
   replace K0 := Ex.trans K0 k210
   replace f15 := f15.ex k210
   replace f16 := f16.ex k210
   replace sl21 := sl21.ex k210
   replace b26 := b26.ex k210
   replace sl202 := sl202.ex k210
   replace sl206 := sl206.ex k210
   have zw209 := k210.size
   refine rw_ev (ev_move rfl) (gd_ff rfl (dec_f (fun h_ => h_ rfl))) rfl rfl ?_
   refine rw_op (op_fn (xs := [.tmp 67]) ent_54 rfl (c_right w209 xv xl (Sl.below f16))) (gd_ff rfl (dec_f (fun h_ => h_ rfl))) rfl rfl ?_
   rintro _ w211 ⟨rfl, k212⟩
   replace K0 := Ex.trans K0 k212
   replace f15 := f15.ex k212
   replace f16 := f16.ex k212
   replace sl21 := sl21.ex k212
   replace b26 := b26.ex k212
   replace sl202 := sl202.ex k212
   replace sl206 := sl206.ex k212
   have zw211 := k212.size
   refine rw_ev (ev_neb bool_4 rfl rfl) (gd_ff rfl (dec_f (fun h_ => h_ rfl))) rfl rfl ?_
   refine rw_ev (ev_pk_f rfl (dec_f (fun h_ => h_ rfl)) rfl) rfl rfl rfl ?_
   refine rw_nil ?_
   refine nw_seq ?_
   refine cw_f (b := decide ((rightC xl) ≠ (rightC xl))) rfl (dec_f (fun h_ => h_ rfl)) ?_
   refine cw_skip ?_
   refine nw_seq ?_
   refine cw_seq ?_
   refine cw_region ?_
   refine rw_ev (ev_move rfl) rfl rfl rfl ?_
   refine rw_op (op_fn (xs := [.tmp 72]) ent_59 rfl (c_cbox w211 xv xl (Sl.below f16))) rfl rfl rfl ?_
   rintro _ w213 ⟨rfl, k214⟩
   replace K0 := Ex.trans K0 k214
   replace f15 := f15.ex k214
   replace f16 := f16.ex k214
   replace sl21 := sl21.ex k214
   replace b26 := b26.ex k214
   have zw213 := k214.size
   refine rw_ev (ev_move rfl) rfl rfl rfl ?_
   refine rw_ev (ev_extract rfl rfl) rfl rfl rfl ?_
   refine rw_ev (ev_extract rfl rfl) rfl rfl rfl ?_
   refine rw_op (op_alloc zero_69) rfl rfl rfl ?_
   rintro _ w216 ⟨g215, rfl, hg217, k218, b219⟩
   replace K0 := Ex.trans K0 k218
   replace f15 := f15.ex k218
   replace f16 := f16.ex k218
   replace sl21 := sl21.ex k218
   replace b26 := b26.ex k218
   have zw216 := k218.size
   have lg215 := b219.lt
   refine rw_none (op_store (off := 0) (v := .agg #[.int .i64 ((boxC xl).1.1), .int .i64 ((boxC xl).1.2.1), .int .i64 ((boxC xl).1.2.2.1), .int .i64 ((boxC xl).1.2.2.2)]) (cs' := #[.int .i64 ((boxC xl).1.1), .int .i64 ((boxC xl).1.2.1), .int .i64 ((boxC xl).1.2.2.1), .int .i64 ((boxC xl).1.2.2.2)]) b219 rfl rfl size_69 rfl (Nat.le_of_ble_eq_true rfl) (one_cons rfl (one_cons rfl (one_cons rfl (one_cons rfl one_nil)))) rfl) rfl rfl ?_
   rintro _ w220 ⟨k221, b222⟩
   replace K0 := Ex.kp_new K0 k221 (fun _ h => h ▸ Nat.le_trans (Nat.le_trans zw2 (Nat.le_trans zw6 (Nat.le_trans z12 (Nat.le_trans zw19 (Nat.le_trans zw23 (Nat.le_trans zw28 (Nat.le_trans zw32 (Nat.le_trans zw35 (Nat.le_trans zw37 (Nat.le_trans zw39 (Nat.le_trans zw41 (Nat.le_trans zw44 (Nat.le_trans zw48 (Nat.le_trans zw51 (Nat.le_trans zw54 (Nat.le_trans zw58 (Nat.le_trans zw61 (Nat.le_trans zw63 (Nat.le_trans zw66 (Nat.le_trans zw70 (Nat.le_trans zw75 (Nat.le_trans zw79 (Nat.le_trans zw83 (Nat.le_trans zw88 (Nat.le_trans zw92 (Nat.le_trans zw95 (Nat.le_trans zw98 (Nat.le_trans zw102 (Nat.le_trans zw105 (Nat.le_trans zw107 (Nat.le_trans zw109 (Nat.le_trans zw111 (Nat.le_trans zw114 (Nat.le_trans zw118 (Nat.le_trans zw122 (Nat.le_trans zw127 (Nat.le_trans zw131 (Nat.le_trans zw134 (Nat.le_trans zw137 (Nat.le_trans zw141 (Nat.le_trans zw144 (Nat.le_trans zw146 (Nat.le_trans zw148 (Nat.le_trans zw150 (Nat.le_trans zw152 (Nat.le_trans zw155 (Nat.le_trans zw159 (Nat.le_trans zw164 (Nat.le_trans zw168 (Nat.le_trans zw172 (Nat.le_trans zw176 (Nat.le_trans zw179 (Nat.le_trans zw182 (Nat.le_trans zw186 (Nat.le_trans zw190 (Nat.le_trans zw194 (Nat.le_trans zw197 (Nat.le_trans zw200 (Nat.le_trans zw204 (Nat.le_trans zw207 (Nat.le_trans zw209 (Nat.le_trans zw211 zw213)))))))))))))))))))))))))))))))))))))))))))))))))))))))))))))) hg217)
   replace f15 := f15.kp k221 (Nat.ne_of_lt (Nat.lt_of_lt_of_le lg1 (Nat.le_trans (Nat.le_trans zw6 (Nat.le_trans z12 (Nat.le_trans zw19 (Nat.le_trans zw23 (Nat.le_trans zw28 (Nat.le_trans zw32 (Nat.le_trans zw35 (Nat.le_trans zw37 (Nat.le_trans zw39 (Nat.le_trans zw41 (Nat.le_trans zw44 (Nat.le_trans zw48 (Nat.le_trans zw51 (Nat.le_trans zw54 (Nat.le_trans zw58 (Nat.le_trans zw61 (Nat.le_trans zw63 (Nat.le_trans zw66 (Nat.le_trans zw70 (Nat.le_trans zw75 (Nat.le_trans zw79 (Nat.le_trans zw83 (Nat.le_trans zw88 (Nat.le_trans zw92 (Nat.le_trans zw95 (Nat.le_trans zw98 (Nat.le_trans zw102 (Nat.le_trans zw105 (Nat.le_trans zw107 (Nat.le_trans zw109 (Nat.le_trans zw111 (Nat.le_trans zw114 (Nat.le_trans zw118 (Nat.le_trans zw122 (Nat.le_trans zw127 (Nat.le_trans zw131 (Nat.le_trans zw134 (Nat.le_trans zw137 (Nat.le_trans zw141 (Nat.le_trans zw144 (Nat.le_trans zw146 (Nat.le_trans zw148 (Nat.le_trans zw150 (Nat.le_trans zw152 (Nat.le_trans zw155 (Nat.le_trans zw159 (Nat.le_trans zw164 (Nat.le_trans zw168 (Nat.le_trans zw172 (Nat.le_trans zw176 (Nat.le_trans zw179 (Nat.le_trans zw182 (Nat.le_trans zw186 (Nat.le_trans zw190 (Nat.le_trans zw194 (Nat.le_trans zw197 (Nat.le_trans zw200 (Nat.le_trans zw204 (Nat.le_trans zw207 (Nat.le_trans zw209 (Nat.le_trans zw211 zw213))))))))))))))))))))))))))))))))))))))))))))))))))))))))))))) hg217)))
   replace f16 := f16.kp k221 (fun b h e => Nat.lt_irrefl _ (Nat.lt_of_lt_of_le (show g215 < _ from e ▸ (show b < _ from h)) (Nat.le_trans (Nat.le_trans zw2 (Nat.le_trans zw6 (Nat.le_trans z12 (Nat.le_trans zw19 (Nat.le_trans zw23 (Nat.le_trans zw28 (Nat.le_trans zw32 (Nat.le_trans zw35 (Nat.le_trans zw37 (Nat.le_trans zw39 (Nat.le_trans zw41 (Nat.le_trans zw44 (Nat.le_trans zw48 (Nat.le_trans zw51 (Nat.le_trans zw54 (Nat.le_trans zw58 (Nat.le_trans zw61 (Nat.le_trans zw63 (Nat.le_trans zw66 (Nat.le_trans zw70 (Nat.le_trans zw75 (Nat.le_trans zw79 (Nat.le_trans zw83 (Nat.le_trans zw88 (Nat.le_trans zw92 (Nat.le_trans zw95 (Nat.le_trans zw98 (Nat.le_trans zw102 (Nat.le_trans zw105 (Nat.le_trans zw107 (Nat.le_trans zw109 (Nat.le_trans zw111 (Nat.le_trans zw114 (Nat.le_trans zw118 (Nat.le_trans zw122 (Nat.le_trans zw127 (Nat.le_trans zw131 (Nat.le_trans zw134 (Nat.le_trans zw137 (Nat.le_trans zw141 (Nat.le_trans zw144 (Nat.le_trans zw146 (Nat.le_trans zw148 (Nat.le_trans zw150 (Nat.le_trans zw152 (Nat.le_trans zw155 (Nat.le_trans zw159 (Nat.le_trans zw164 (Nat.le_trans zw168 (Nat.le_trans zw172 (Nat.le_trans zw176 (Nat.le_trans zw179 (Nat.le_trans zw182 (Nat.le_trans zw186 (Nat.le_trans zw190 (Nat.le_trans zw194 (Nat.le_trans zw197 (Nat.le_trans zw200 (Nat.le_trans zw204 (Nat.le_trans zw207 (Nat.le_trans zw209 (Nat.le_trans zw211 zw213)))))))))))))))))))))))))))))))))))))))))))))))))))))))))))))) hg217)))
   replace sl21 := sl21.kp k221 (fun b h e => Nat.lt_irrefl _ (Nat.lt_of_lt_of_le (show g215 < _ from e ▸ (show b < _ from h.2)) (Nat.le_trans (Nat.le_trans zw23 (Nat.le_trans zw28 (Nat.le_trans zw32 (Nat.le_trans zw35 (Nat.le_trans zw37 (Nat.le_trans zw39 (Nat.le_trans zw41 (Nat.le_trans zw44 (Nat.le_trans zw48 (Nat.le_trans zw51 (Nat.le_trans zw54 (Nat.le_trans zw58 (Nat.le_trans zw61 (Nat.le_trans zw63 (Nat.le_trans zw66 (Nat.le_trans zw70 (Nat.le_trans zw75 (Nat.le_trans zw79 (Nat.le_trans zw83 (Nat.le_trans zw88 (Nat.le_trans zw92 (Nat.le_trans zw95 (Nat.le_trans zw98 (Nat.le_trans zw102 (Nat.le_trans zw105 (Nat.le_trans zw107 (Nat.le_trans zw109 (Nat.le_trans zw111 (Nat.le_trans zw114 (Nat.le_trans zw118 (Nat.le_trans zw122 (Nat.le_trans zw127 (Nat.le_trans zw131 (Nat.le_trans zw134 (Nat.le_trans zw137 (Nat.le_trans zw141 (Nat.le_trans zw144 (Nat.le_trans zw146 (Nat.le_trans zw148 (Nat.le_trans zw150 (Nat.le_trans zw152 (Nat.le_trans zw155 (Nat.le_trans zw159 (Nat.le_trans zw164 (Nat.le_trans zw168 (Nat.le_trans zw172 (Nat.le_trans zw176 (Nat.le_trans zw179 (Nat.le_trans zw182 (Nat.le_trans zw186 (Nat.le_trans zw190 (Nat.le_trans zw194 (Nat.le_trans zw197 (Nat.le_trans zw200 (Nat.le_trans zw204 (Nat.le_trans zw207 (Nat.le_trans zw209 (Nat.le_trans zw211 zw213)))))))))))))))))))))))))))))))))))))))))))))))))))))))))) hg217)))
   replace b26 := b26.kp k221 (Nat.ne_of_lt (Nat.lt_of_lt_of_le lg22 (Nat.le_trans (Nat.le_trans zw28 (Nat.le_trans zw32 (Nat.le_trans zw35 (Nat.le_trans zw37 (Nat.le_trans zw39 (Nat.le_trans zw41 (Nat.le_trans zw44 (Nat.le_trans zw48 (Nat.le_trans zw51 (Nat.le_trans zw54 (Nat.le_trans zw58 (Nat.le_trans zw61 (Nat.le_trans zw63 (Nat.le_trans zw66 (Nat.le_trans zw70 (Nat.le_trans zw75 (Nat.le_trans zw79 (Nat.le_trans zw83 (Nat.le_trans zw88 (Nat.le_trans zw92 (Nat.le_trans zw95 (Nat.le_trans zw98 (Nat.le_trans zw102 (Nat.le_trans zw105 (Nat.le_trans zw107 (Nat.le_trans zw109 (Nat.le_trans zw111 (Nat.le_trans zw114 (Nat.le_trans zw118 (Nat.le_trans zw122 (Nat.le_trans zw127 (Nat.le_trans zw131 (Nat.le_trans zw134 (Nat.le_trans zw137 (Nat.le_trans zw141 (Nat.le_trans zw144 (Nat.le_trans zw146 (Nat.le_trans zw148 (Nat.le_trans zw150 (Nat.le_trans zw152 (Nat.le_trans zw155 (Nat.le_trans zw159 (Nat.le_trans zw164 (Nat.le_trans zw168 (Nat.le_trans zw172 (Nat.le_trans zw176 (Nat.le_trans zw179 (Nat.le_trans zw182 (Nat.le_trans zw186 (Nat.le_trans zw190 (Nat.le_trans zw194 (Nat.le_trans zw197 (Nat.le_trans zw200 (Nat.le_trans zw204 (Nat.le_trans zw207 (Nat.le_trans zw209 (Nat.le_trans zw211 zw213))))))))))))))))))))))))))))))))))))))))))))))))))))))))) hg217)))
   have zw220 := k221.size
   refine rw_ev (ev_assign rfl) rfl rfl rfl ?_
   refine rw_nil ?_
   refine nw_seq ?_
   refine cw_seq ?_
   refine cw_region ?_
   refine rw_ev (ev_move rfl) rfl rfl rfl ?_
   refine rw_op (op_fn (xs := [.tmp 77]) ent_53 rfl (c_box w220 xv xl (Sl.below f16))) rfl rfl rfl ?_
   rintro _ w223 ⟨rfl, k224⟩
   replace K0 := Ex.trans K0 k224
   replace f15 := f15.ex k224
   replace f16 := f16.ex k224
   replace sl21 := sl21.ex k224
   replace b26 := b26.ex k224
   replace b222 := b222.ex k224
   have zw223 := k224.size
   refine rw_ev (ev_move rfl) rfl rfl rfl ?_
   refine rw_ev (ev_extract rfl rfl) rfl rfl rfl ?_
   refine rw_ev (ev_extract rfl rfl) rfl rfl rfl ?_
   refine rw_op (op_alloc zero_69) rfl rfl rfl ?_
   rintro _ w226 ⟨g225, rfl, hg227, k228, b229⟩
   replace K0 := Ex.trans K0 k228
   replace f15 := f15.ex k228
   replace f16 := f16.ex k228
   replace sl21 := sl21.ex k228
   replace b26 := b26.ex k228
   replace b222 := b222.ex k228
   have zw226 := k228.size
   have lg225 := b229.lt
   refine rw_none (op_store (off := 0) (v := .agg #[.int .i64 ((boxC xl).1.1), .int .i64 ((boxC xl).1.2.1), .int .i64 ((boxC xl).1.2.2.1), .int .i64 ((boxC xl).1.2.2.2)]) (cs' := #[.int .i64 ((boxC xl).1.1), .int .i64 ((boxC xl).1.2.1), .int .i64 ((boxC xl).1.2.2.1), .int .i64 ((boxC xl).1.2.2.2)]) b229 rfl rfl size_69 rfl (Nat.le_of_ble_eq_true rfl) (one_cons rfl (one_cons rfl (one_cons rfl (one_cons rfl one_nil)))) rfl) rfl rfl ?_
   rintro _ w230 ⟨k231, b232⟩
   replace K0 := Ex.kp_new K0 k231 (fun _ h => h ▸ Nat.le_trans (Nat.le_trans zw2 (Nat.le_trans zw6 (Nat.le_trans z12 (Nat.le_trans zw19 (Nat.le_trans zw23 (Nat.le_trans zw28 (Nat.le_trans zw32 (Nat.le_trans zw35 (Nat.le_trans zw37 (Nat.le_trans zw39 (Nat.le_trans zw41 (Nat.le_trans zw44 (Nat.le_trans zw48 (Nat.le_trans zw51 (Nat.le_trans zw54 (Nat.le_trans zw58 (Nat.le_trans zw61 (Nat.le_trans zw63 (Nat.le_trans zw66 (Nat.le_trans zw70 (Nat.le_trans zw75 (Nat.le_trans zw79 (Nat.le_trans zw83 (Nat.le_trans zw88 (Nat.le_trans zw92 (Nat.le_trans zw95 (Nat.le_trans zw98 (Nat.le_trans zw102 (Nat.le_trans zw105 (Nat.le_trans zw107 (Nat.le_trans zw109 (Nat.le_trans zw111 (Nat.le_trans zw114 (Nat.le_trans zw118 (Nat.le_trans zw122 (Nat.le_trans zw127 (Nat.le_trans zw131 (Nat.le_trans zw134 (Nat.le_trans zw137 (Nat.le_trans zw141 (Nat.le_trans zw144 (Nat.le_trans zw146 (Nat.le_trans zw148 (Nat.le_trans zw150 (Nat.le_trans zw152 (Nat.le_trans zw155 (Nat.le_trans zw159 (Nat.le_trans zw164 (Nat.le_trans zw168 (Nat.le_trans zw172 (Nat.le_trans zw176 (Nat.le_trans zw179 (Nat.le_trans zw182 (Nat.le_trans zw186 (Nat.le_trans zw190 (Nat.le_trans zw194 (Nat.le_trans zw197 (Nat.le_trans zw200 (Nat.le_trans zw204 (Nat.le_trans zw207 (Nat.le_trans zw209 (Nat.le_trans zw211 (Nat.le_trans zw213 (Nat.le_trans zw216 (Nat.le_trans zw220 zw223))))))))))))))))))))))))))))))))))))))))))))))))))))))))))))))))) hg227)
   replace f15 := f15.kp k231 (Nat.ne_of_lt (Nat.lt_of_lt_of_le lg1 (Nat.le_trans (Nat.le_trans zw6 (Nat.le_trans z12 (Nat.le_trans zw19 (Nat.le_trans zw23 (Nat.le_trans zw28 (Nat.le_trans zw32 (Nat.le_trans zw35 (Nat.le_trans zw37 (Nat.le_trans zw39 (Nat.le_trans zw41 (Nat.le_trans zw44 (Nat.le_trans zw48 (Nat.le_trans zw51 (Nat.le_trans zw54 (Nat.le_trans zw58 (Nat.le_trans zw61 (Nat.le_trans zw63 (Nat.le_trans zw66 (Nat.le_trans zw70 (Nat.le_trans zw75 (Nat.le_trans zw79 (Nat.le_trans zw83 (Nat.le_trans zw88 (Nat.le_trans zw92 (Nat.le_trans zw95 (Nat.le_trans zw98 (Nat.le_trans zw102 (Nat.le_trans zw105 (Nat.le_trans zw107 (Nat.le_trans zw109 (Nat.le_trans zw111 (Nat.le_trans zw114 (Nat.le_trans zw118 (Nat.le_trans zw122 (Nat.le_trans zw127 (Nat.le_trans zw131 (Nat.le_trans zw134 (Nat.le_trans zw137 (Nat.le_trans zw141 (Nat.le_trans zw144 (Nat.le_trans zw146 (Nat.le_trans zw148 (Nat.le_trans zw150 (Nat.le_trans zw152 (Nat.le_trans zw155 (Nat.le_trans zw159 (Nat.le_trans zw164 (Nat.le_trans zw168 (Nat.le_trans zw172 (Nat.le_trans zw176 (Nat.le_trans zw179 (Nat.le_trans zw182 (Nat.le_trans zw186 (Nat.le_trans zw190 (Nat.le_trans zw194 (Nat.le_trans zw197 (Nat.le_trans zw200 (Nat.le_trans zw204 (Nat.le_trans zw207 (Nat.le_trans zw209 (Nat.le_trans zw211 (Nat.le_trans zw213 (Nat.le_trans zw216 (Nat.le_trans zw220 zw223)))))))))))))))))))))))))))))))))))))))))))))))))))))))))))))))) hg227)))
   replace f16 := f16.kp k231 (fun b h e => Nat.lt_irrefl _ (Nat.lt_of_lt_of_le (show g225 < _ from e ▸ (show b < _ from h)) (Nat.le_trans (Nat.le_trans zw2 (Nat.le_trans zw6 (Nat.le_trans z12 (Nat.le_trans zw19 (Nat.le_trans zw23 (Nat.le_trans zw28 (Nat.le_trans zw32 (Nat.le_trans zw35 (Nat.le_trans zw37 (Nat.le_trans zw39 (Nat.le_trans zw41 (Nat.le_trans zw44 (Nat.le_trans zw48 (Nat.le_trans zw51 (Nat.le_trans zw54 (Nat.le_trans zw58 (Nat.le_trans zw61 (Nat.le_trans zw63 (Nat.le_trans zw66 (Nat.le_trans zw70 (Nat.le_trans zw75 (Nat.le_trans zw79 (Nat.le_trans zw83 (Nat.le_trans zw88 (Nat.le_trans zw92 (Nat.le_trans zw95 (Nat.le_trans zw98 (Nat.le_trans zw102 (Nat.le_trans zw105 (Nat.le_trans zw107 (Nat.le_trans zw109 (Nat.le_trans zw111 (Nat.le_trans zw114 (Nat.le_trans zw118 (Nat.le_trans zw122 (Nat.le_trans zw127 (Nat.le_trans zw131 (Nat.le_trans zw134 (Nat.le_trans zw137 (Nat.le_trans zw141 (Nat.le_trans zw144 (Nat.le_trans zw146 (Nat.le_trans zw148 (Nat.le_trans zw150 (Nat.le_trans zw152 (Nat.le_trans zw155 (Nat.le_trans zw159 (Nat.le_trans zw164 (Nat.le_trans zw168 (Nat.le_trans zw172 (Nat.le_trans zw176 (Nat.le_trans zw179 (Nat.le_trans zw182 (Nat.le_trans zw186 (Nat.le_trans zw190 (Nat.le_trans zw194 (Nat.le_trans zw197 (Nat.le_trans zw200 (Nat.le_trans zw204 (Nat.le_trans zw207 (Nat.le_trans zw209 (Nat.le_trans zw211 (Nat.le_trans zw213 (Nat.le_trans zw216 (Nat.le_trans zw220 zw223))))))))))))))))))))))))))))))))))))))))))))))))))))))))))))))))) hg227)))
   replace sl21 := sl21.kp k231 (fun b h e => Nat.lt_irrefl _ (Nat.lt_of_lt_of_le (show g225 < _ from e ▸ (show b < _ from h.2)) (Nat.le_trans (Nat.le_trans zw23 (Nat.le_trans zw28 (Nat.le_trans zw32 (Nat.le_trans zw35 (Nat.le_trans zw37 (Nat.le_trans zw39 (Nat.le_trans zw41 (Nat.le_trans zw44 (Nat.le_trans zw48 (Nat.le_trans zw51 (Nat.le_trans zw54 (Nat.le_trans zw58 (Nat.le_trans zw61 (Nat.le_trans zw63 (Nat.le_trans zw66 (Nat.le_trans zw70 (Nat.le_trans zw75 (Nat.le_trans zw79 (Nat.le_trans zw83 (Nat.le_trans zw88 (Nat.le_trans zw92 (Nat.le_trans zw95 (Nat.le_trans zw98 (Nat.le_trans zw102 (Nat.le_trans zw105 (Nat.le_trans zw107 (Nat.le_trans zw109 (Nat.le_trans zw111 (Nat.le_trans zw114 (Nat.le_trans zw118 (Nat.le_trans zw122 (Nat.le_trans zw127 (Nat.le_trans zw131 (Nat.le_trans zw134 (Nat.le_trans zw137 (Nat.le_trans zw141 (Nat.le_trans zw144 (Nat.le_trans zw146 (Nat.le_trans zw148 (Nat.le_trans zw150 (Nat.le_trans zw152 (Nat.le_trans zw155 (Nat.le_trans zw159 (Nat.le_trans zw164 (Nat.le_trans zw168 (Nat.le_trans zw172 (Nat.le_trans zw176 (Nat.le_trans zw179 (Nat.le_trans zw182 (Nat.le_trans zw186 (Nat.le_trans zw190 (Nat.le_trans zw194 (Nat.le_trans zw197 (Nat.le_trans zw200 (Nat.le_trans zw204 (Nat.le_trans zw207 (Nat.le_trans zw209 (Nat.le_trans zw211 (Nat.le_trans zw213 (Nat.le_trans zw216 (Nat.le_trans zw220 zw223))))))))))))))))))))))))))))))))))))))))))))))))))))))))))))) hg227)))
   replace b26 := b26.kp k231 (Nat.ne_of_lt (Nat.lt_of_lt_of_le lg22 (Nat.le_trans (Nat.le_trans zw28 (Nat.le_trans zw32 (Nat.le_trans zw35 (Nat.le_trans zw37 (Nat.le_trans zw39 (Nat.le_trans zw41 (Nat.le_trans zw44 (Nat.le_trans zw48 (Nat.le_trans zw51 (Nat.le_trans zw54 (Nat.le_trans zw58 (Nat.le_trans zw61 (Nat.le_trans zw63 (Nat.le_trans zw66 (Nat.le_trans zw70 (Nat.le_trans zw75 (Nat.le_trans zw79 (Nat.le_trans zw83 (Nat.le_trans zw88 (Nat.le_trans zw92 (Nat.le_trans zw95 (Nat.le_trans zw98 (Nat.le_trans zw102 (Nat.le_trans zw105 (Nat.le_trans zw107 (Nat.le_trans zw109 (Nat.le_trans zw111 (Nat.le_trans zw114 (Nat.le_trans zw118 (Nat.le_trans zw122 (Nat.le_trans zw127 (Nat.le_trans zw131 (Nat.le_trans zw134 (Nat.le_trans zw137 (Nat.le_trans zw141 (Nat.le_trans zw144 (Nat.le_trans zw146 (Nat.le_trans zw148 (Nat.le_trans zw150 (Nat.le_trans zw152 (Nat.le_trans zw155 (Nat.le_trans zw159 (Nat.le_trans zw164 (Nat.le_trans zw168 (Nat.le_trans zw172 (Nat.le_trans zw176 (Nat.le_trans zw179 (Nat.le_trans zw182 (Nat.le_trans zw186 (Nat.le_trans zw190 (Nat.le_trans zw194 (Nat.le_trans zw197 (Nat.le_trans zw200 (Nat.le_trans zw204 (Nat.le_trans zw207 (Nat.le_trans zw209 (Nat.le_trans zw211 (Nat.le_trans zw213 (Nat.le_trans zw216 (Nat.le_trans zw220 zw223)))))))))))))))))))))))))))))))))))))))))))))))))))))))))))) hg227)))
   replace b222 := b222.kp k231 (Nat.ne_of_lt (Nat.lt_of_lt_of_le lg215 (Nat.le_trans (Nat.le_trans zw220 zw223) hg227)))
   have zw230 := k231.size
   refine rw_ev (ev_assign rfl) rfl rfl rfl ?_
   refine rw_nil ?_
   refine nw_seq ?_
   refine cw_seq ?_
   refine cw_seq ?_
   refine cw_region ?_
   refine rw_ev (v := .agg #[.int .i64 ((boxC xl).1.1), .int .i64 ((boxC xl).1.2.1), .int .i64 ((boxC xl).1.2.2.1), .int .i64 ((boxC xl).1.2.2.2)]) (ev_lbk (off := 0) (vs := [.int .i64 ((boxC xl).1.1), .int .i64 ((boxC xl).1.2.1), .int .i64 ((boxC xl).1.2.2.1), .int .i64 ((boxC xl).1.2.2.2)]) (fun _ h => h ▸ b222) rfl agg_69 rfl rfl) rfl rfl rfl ?_
   refine rw_ev (v := .agg #[.int .i64 ((boxC xl).1.1), .int .i64 ((boxC xl).1.2.1), .int .i64 ((boxC xl).1.2.2.1), .int .i64 ((boxC xl).1.2.2.2)]) (ev_lbk (off := 0) (vs := [.int .i64 ((boxC xl).1.1), .int .i64 ((boxC xl).1.2.1), .int .i64 ((boxC xl).1.2.2.1), .int .i64 ((boxC xl).1.2.2.2)]) (fun _ h => h ▸ b232) rfl agg_69 rfl rfl) rfl rfl rfl ?_
   refine rw_ev (ev_neq_69 rfl rfl) rfl rfl rfl ?_
   refine rw_ev (ev_move rfl) rfl rfl rfl ?_
   refine rw_ev (ev_move rfl) (gd_ff rfl (dec_f (fun h_ => h_ rfl))) rfl rfl ?_
   refine rw_ev (ev_move rfl) (gd_ff rfl (dec_f (fun h_ => h_ rfl))) rfl rfl ?_
   refine rw_ev (ev_neb bool_4 rfl rfl) (gd_ff rfl (dec_f (fun h_ => h_ rfl))) rfl rfl ?_
   refine rw_ev (ev_pk_f rfl (dec_f (fun h_ => h_ rfl)) rfl) rfl rfl rfl ?_
   refine rw_nil ?_
   refine nw_seq ?_
   refine cw_f (b := decide (((boxC xl).2) ≠ ((boxC xl).2))) rfl (dec_f (fun h_ => h_ rfl)) ?_
   refine cw_skip ?_
   refine nw_seq ?_
   refine cw_seq ?_
   refine cw_seq ?_
   refine cw_drawn (fun w233 w_ => Ex w233 w_) [] (.take 0 (.take 1 (.take 2 (.take 5 (.take 6 (.take 12 (.one 3 (.take 4 (.one 7 (.take 8 (.take 9 (.one 10 (.take 11 .done))))))))))))) mixed (by kernel_rfl) (by kernel_rfl) (Nat.le_of_ble_eq_true (by kernel_rfl)) ?_; intro w233 k234 hs_
   replace K0 := Ex.trans K0 k234
   replace f15 := f15.ex k234
   replace f16 := f16.ex k234
   replace sl21 := sl21.ex k234
   replace b26 := b26.ex k234
   have zw233 := k234.size
   have hS : (fun w_ => Ex w233 w_) w233 := Kp.refl _ _
   refine rp_take (v := .agg #[.int .i64 c.1, .int .i64 c.2]) hs_ hS rfl rfl (ev_lbk (off := 0) (vs := [.int .i64 c.1, .int .i64 c.2]) (fun _ h => f15.ex h) rfl agg_55 rfl rfl) rfl rfl rfl ?_
   refine rp_take (v := .pointer (some ⟨g1, 0, none⟩)) hs_ hS rfl rfl (ev_field (o := 0) rfl foff_55_0) rfl rfl rfl ?_
   refine rp_take (v := .int .i64 c.1) hs_ hS rfl rfl (ev_lb1 (off := 0) (fun _ h => f15.ex h) rfl one_3 rfl) rfl rfl rfl ?_
   refine rp_take (v := .pointer (some ⟨g1, 1, none⟩)) hs_ hS rfl rfl (ev_field (o := 1) rfl foff_55_1) rfl rfl rfl ?_
   refine rp_take (v := .int .i64 c.2) hs_ hS rfl rfl (ev_lb1 (off := 1) (fun _ h => f15.ex h) rfl one_3 rfl) rfl rfl rfl ?_
   refine rp_take hs_ hS rfl rfl (ev_move rfl) rfl rfl rfl ?_
   refine rp_up (up_op rfl (op_fn (xs := [.tmp 91, .const (.int .i64 16)]) ent_60 rfl (c_pick60 w233 c.1 (16 : Int) (by omega) (by omega))) rfl rfl rfl ?_)
   rintro _ w235 ⟨rfl, k236, pr237⟩
   replace K0 := Ex.trans K0 k236
   replace hS := Ex.trans hS k236
   have zw235 := k236.size
   refine ⟨(fun _ => hS), ?_⟩
   refine rp_take hs_ hS rfl rfl (ev_sub rfl rfl (by omega)) rfl rfl rfl ?_
   refine rp_up (up_op rfl (op_fn (xs := [.tmp 95, .const (.int .i64 16)]) ent_60 rfl (c_pick60 w235 c.2 (16 : Int) (by omega) (by omega))) rfl rfl rfl ?_)
   rintro _ w238 ⟨rfl, k239, pr240⟩
   replace K0 := Ex.trans K0 k239
   replace hS := Ex.trans hS k239
   have zw238 := k239.size
   refine ⟨(fun _ => hS), ?_⟩
   refine rp_take hs_ hS rfl rfl (ev_sub rfl rfl (by omega)) rfl rfl rfl ?_
   refine rp_take (v := .agg #[.int .i64 ((pickI c.1 (16 : Int)) - 8), .int .i64 ((pickI c.2 (16 : Int)) - 8)]) hs_ hS rfl rfl (ev_pure rfl rfl (fun _ => by kernel_rfl)) rfl rfl rfl ?_
   refine rp_up (up_op rfl (op_buildSlice (E := 55) (m := 2) (pv := #[(0, .agg #[.int .i64 c.1, .int .i64 c.2]), (1, .agg #[.int .i64 ((pickI c.1 (16 : Int)) - 8), .int .i64 ((pickI c.2 (16 : Int)) - 8)])]) (cs := #[.int .i64 c.1, .int .i64 c.2, .int .i64 ((pickI c.1 (16 : Int)) - 8), .int .i64 ((pickI c.2 (16 : Int)) - 8)]) rfl (fun _ => by kernel_rfl)) rfl rfl rfl ?_)
   rintro _ w242 ⟨g241, rfl, hg243, k244, b245⟩
   replace K0 := Ex.trans K0 k244
   replace hS := Ex.trans hS k244
   have zw242 := k244.size
   have lg241 := b245.lt
   refine ⟨(fun _ => hS), ?_⟩
   refine rp_take (v := .int .i64 2) hs_ hS rfl rfl (ev_pure rfl rfl (fun _ => by kernel_rfl)) rfl rfl rfl ?_
   refine rp_done ?_
   clear hs_
   replace f15 := f15.ex hS
   replace f16 := f16.ex hS
   replace sl21 := sl21.ex hS
   replace b26 := b26.ex hS
   refine nw_seq ?_
   refine cw_block ?_
   refine cw_rounds 2 ?_
   refine cw_seq ?_
   refine cw_region ?_
   refine rw_ev (v := .bool true) (ev_lss (p := 0) (q := 2) rfl rfl) rfl rfl rfl ?_
   refine rw_nil ?_
   refine nw_seq ?_
   refine cw_seq ?_
   refine cw_t (b := true) rfl rfl ?_
   refine cw_skip ?_
   refine nw_seq ?_
   refine cw_seq ?_
   refine cw_block ?_
   refine cw_seq ?_
   refine cw_region ?_
   refine rw_ev (v := .pointer (some ⟨g241, 0, none⟩)) (ev_litAt (i := 0) rfl rfl el_46 (by decide) 0 rfl) rfl rfl rfl ?_
   refine rw_ev (v := .agg #[.int .i64 c.1, .int .i64 c.2]) (ev_lbk (off := 0) (vs := [.int .i64 c.1, .int .i64 c.2]) (fun _ h => h ▸ b245) rfl agg_55 rfl rfl) rfl rfl rfl ?_
   refine rw_op (op_alloc zero_55) rfl rfl rfl ?_
   rintro _ w247 ⟨g246, rfl, hg248, k249, b250⟩
   replace K0 := Ex.trans K0 k249
   replace f15 := f15.ex k249
   replace f16 := f16.ex k249
   replace sl21 := sl21.ex k249
   replace b26 := b26.ex k249
   replace b245 := b245.ex k249
   have zw247 := k249.size
   have lg246 := b250.lt
   refine rw_none (op_store (off := 0) (v := .agg #[.int .i64 c.1, .int .i64 c.2]) (cs' := #[.int .i64 c.1, .int .i64 c.2]) b250 rfl rfl size_55 rfl (Nat.le_of_ble_eq_true rfl) (one_cons rfl (one_cons rfl one_nil)) rfl) rfl rfl ?_
   rintro _ w251 ⟨k252, b253⟩
   replace K0 := Ex.kp_new K0 k252 (fun _ h => h ▸ Nat.le_trans (Nat.le_trans zw2 (Nat.le_trans zw6 (Nat.le_trans z12 (Nat.le_trans zw19 (Nat.le_trans zw23 (Nat.le_trans zw28 (Nat.le_trans zw32 (Nat.le_trans zw35 (Nat.le_trans zw37 (Nat.le_trans zw39 (Nat.le_trans zw41 (Nat.le_trans zw44 (Nat.le_trans zw48 (Nat.le_trans zw51 (Nat.le_trans zw54 (Nat.le_trans zw58 (Nat.le_trans zw61 (Nat.le_trans zw63 (Nat.le_trans zw66 (Nat.le_trans zw70 (Nat.le_trans zw75 (Nat.le_trans zw79 (Nat.le_trans zw83 (Nat.le_trans zw88 (Nat.le_trans zw92 (Nat.le_trans zw95 (Nat.le_trans zw98 (Nat.le_trans zw102 (Nat.le_trans zw105 (Nat.le_trans zw107 (Nat.le_trans zw109 (Nat.le_trans zw111 (Nat.le_trans zw114 (Nat.le_trans zw118 (Nat.le_trans zw122 (Nat.le_trans zw127 (Nat.le_trans zw131 (Nat.le_trans zw134 (Nat.le_trans zw137 (Nat.le_trans zw141 (Nat.le_trans zw144 (Nat.le_trans zw146 (Nat.le_trans zw148 (Nat.le_trans zw150 (Nat.le_trans zw152 (Nat.le_trans zw155 (Nat.le_trans zw159 (Nat.le_trans zw164 (Nat.le_trans zw168 (Nat.le_trans zw172 (Nat.le_trans zw176 (Nat.le_trans zw179 (Nat.le_trans zw182 (Nat.le_trans zw186 (Nat.le_trans zw190 (Nat.le_trans zw194 (Nat.le_trans zw197 (Nat.le_trans zw200 (Nat.le_trans zw204 (Nat.le_trans zw207 (Nat.le_trans zw209 (Nat.le_trans zw211 (Nat.le_trans zw213 (Nat.le_trans zw216 (Nat.le_trans zw220 (Nat.le_trans zw223 (Nat.le_trans zw226 (Nat.le_trans zw230 (Nat.le_trans zw233 (Nat.le_trans zw235 (Nat.le_trans zw238 zw242))))))))))))))))))))))))))))))))))))))))))))))))))))))))))))))))))))))) hg248)
   replace f15 := f15.kp k252 (Nat.ne_of_lt (Nat.lt_of_lt_of_le lg1 (Nat.le_trans (Nat.le_trans zw6 (Nat.le_trans z12 (Nat.le_trans zw19 (Nat.le_trans zw23 (Nat.le_trans zw28 (Nat.le_trans zw32 (Nat.le_trans zw35 (Nat.le_trans zw37 (Nat.le_trans zw39 (Nat.le_trans zw41 (Nat.le_trans zw44 (Nat.le_trans zw48 (Nat.le_trans zw51 (Nat.le_trans zw54 (Nat.le_trans zw58 (Nat.le_trans zw61 (Nat.le_trans zw63 (Nat.le_trans zw66 (Nat.le_trans zw70 (Nat.le_trans zw75 (Nat.le_trans zw79 (Nat.le_trans zw83 (Nat.le_trans zw88 (Nat.le_trans zw92 (Nat.le_trans zw95 (Nat.le_trans zw98 (Nat.le_trans zw102 (Nat.le_trans zw105 (Nat.le_trans zw107 (Nat.le_trans zw109 (Nat.le_trans zw111 (Nat.le_trans zw114 (Nat.le_trans zw118 (Nat.le_trans zw122 (Nat.le_trans zw127 (Nat.le_trans zw131 (Nat.le_trans zw134 (Nat.le_trans zw137 (Nat.le_trans zw141 (Nat.le_trans zw144 (Nat.le_trans zw146 (Nat.le_trans zw148 (Nat.le_trans zw150 (Nat.le_trans zw152 (Nat.le_trans zw155 (Nat.le_trans zw159 (Nat.le_trans zw164 (Nat.le_trans zw168 (Nat.le_trans zw172 (Nat.le_trans zw176 (Nat.le_trans zw179 (Nat.le_trans zw182 (Nat.le_trans zw186 (Nat.le_trans zw190 (Nat.le_trans zw194 (Nat.le_trans zw197 (Nat.le_trans zw200 (Nat.le_trans zw204 (Nat.le_trans zw207 (Nat.le_trans zw209 (Nat.le_trans zw211 (Nat.le_trans zw213 (Nat.le_trans zw216 (Nat.le_trans zw220 (Nat.le_trans zw223 (Nat.le_trans zw226 (Nat.le_trans zw230 (Nat.le_trans zw233 (Nat.le_trans zw235 (Nat.le_trans zw238 zw242)))))))))))))))))))))))))))))))))))))))))))))))))))))))))))))))))))))) hg248)))
   replace f16 := f16.kp k252 (fun b h e => Nat.lt_irrefl _ (Nat.lt_of_lt_of_le (show g246 < _ from e ▸ (show b < _ from h)) (Nat.le_trans (Nat.le_trans zw2 (Nat.le_trans zw6 (Nat.le_trans z12 (Nat.le_trans zw19 (Nat.le_trans zw23 (Nat.le_trans zw28 (Nat.le_trans zw32 (Nat.le_trans zw35 (Nat.le_trans zw37 (Nat.le_trans zw39 (Nat.le_trans zw41 (Nat.le_trans zw44 (Nat.le_trans zw48 (Nat.le_trans zw51 (Nat.le_trans zw54 (Nat.le_trans zw58 (Nat.le_trans zw61 (Nat.le_trans zw63 (Nat.le_trans zw66 (Nat.le_trans zw70 (Nat.le_trans zw75 (Nat.le_trans zw79 (Nat.le_trans zw83 (Nat.le_trans zw88 (Nat.le_trans zw92 (Nat.le_trans zw95 (Nat.le_trans zw98 (Nat.le_trans zw102 (Nat.le_trans zw105 (Nat.le_trans zw107 (Nat.le_trans zw109 (Nat.le_trans zw111 (Nat.le_trans zw114 (Nat.le_trans zw118 (Nat.le_trans zw122 (Nat.le_trans zw127 (Nat.le_trans zw131 (Nat.le_trans zw134 (Nat.le_trans zw137 (Nat.le_trans zw141 (Nat.le_trans zw144 (Nat.le_trans zw146 (Nat.le_trans zw148 (Nat.le_trans zw150 (Nat.le_trans zw152 (Nat.le_trans zw155 (Nat.le_trans zw159 (Nat.le_trans zw164 (Nat.le_trans zw168 (Nat.le_trans zw172 (Nat.le_trans zw176 (Nat.le_trans zw179 (Nat.le_trans zw182 (Nat.le_trans zw186 (Nat.le_trans zw190 (Nat.le_trans zw194 (Nat.le_trans zw197 (Nat.le_trans zw200 (Nat.le_trans zw204 (Nat.le_trans zw207 (Nat.le_trans zw209 (Nat.le_trans zw211 (Nat.le_trans zw213 (Nat.le_trans zw216 (Nat.le_trans zw220 (Nat.le_trans zw223 (Nat.le_trans zw226 (Nat.le_trans zw230 (Nat.le_trans zw233 (Nat.le_trans zw235 (Nat.le_trans zw238 zw242))))))))))))))))))))))))))))))))))))))))))))))))))))))))))))))))))))))) hg248)))
   replace sl21 := sl21.kp k252 (fun b h e => Nat.lt_irrefl _ (Nat.lt_of_lt_of_le (show g246 < _ from e ▸ (show b < _ from h.2)) (Nat.le_trans (Nat.le_trans zw23 (Nat.le_trans zw28 (Nat.le_trans zw32 (Nat.le_trans zw35 (Nat.le_trans zw37 (Nat.le_trans zw39 (Nat.le_trans zw41 (Nat.le_trans zw44 (Nat.le_trans zw48 (Nat.le_trans zw51 (Nat.le_trans zw54 (Nat.le_trans zw58 (Nat.le_trans zw61 (Nat.le_trans zw63 (Nat.le_trans zw66 (Nat.le_trans zw70 (Nat.le_trans zw75 (Nat.le_trans zw79 (Nat.le_trans zw83 (Nat.le_trans zw88 (Nat.le_trans zw92 (Nat.le_trans zw95 (Nat.le_trans zw98 (Nat.le_trans zw102 (Nat.le_trans zw105 (Nat.le_trans zw107 (Nat.le_trans zw109 (Nat.le_trans zw111 (Nat.le_trans zw114 (Nat.le_trans zw118 (Nat.le_trans zw122 (Nat.le_trans zw127 (Nat.le_trans zw131 (Nat.le_trans zw134 (Nat.le_trans zw137 (Nat.le_trans zw141 (Nat.le_trans zw144 (Nat.le_trans zw146 (Nat.le_trans zw148 (Nat.le_trans zw150 (Nat.le_trans zw152 (Nat.le_trans zw155 (Nat.le_trans zw159 (Nat.le_trans zw164 (Nat.le_trans zw168 (Nat.le_trans zw172 (Nat.le_trans zw176 (Nat.le_trans zw179 (Nat.le_trans zw182 (Nat.le_trans zw186 (Nat.le_trans zw190 (Nat.le_trans zw194 (Nat.le_trans zw197 (Nat.le_trans zw200 (Nat.le_trans zw204 (Nat.le_trans zw207 (Nat.le_trans zw209 (Nat.le_trans zw211 (Nat.le_trans zw213 (Nat.le_trans zw216 (Nat.le_trans zw220 (Nat.le_trans zw223 (Nat.le_trans zw226 (Nat.le_trans zw230 (Nat.le_trans zw233 (Nat.le_trans zw235 (Nat.le_trans zw238 zw242))))))))))))))))))))))))))))))))))))))))))))))))))))))))))))))))))) hg248)))
   replace b26 := b26.kp k252 (Nat.ne_of_lt (Nat.lt_of_lt_of_le lg22 (Nat.le_trans (Nat.le_trans zw28 (Nat.le_trans zw32 (Nat.le_trans zw35 (Nat.le_trans zw37 (Nat.le_trans zw39 (Nat.le_trans zw41 (Nat.le_trans zw44 (Nat.le_trans zw48 (Nat.le_trans zw51 (Nat.le_trans zw54 (Nat.le_trans zw58 (Nat.le_trans zw61 (Nat.le_trans zw63 (Nat.le_trans zw66 (Nat.le_trans zw70 (Nat.le_trans zw75 (Nat.le_trans zw79 (Nat.le_trans zw83 (Nat.le_trans zw88 (Nat.le_trans zw92 (Nat.le_trans zw95 (Nat.le_trans zw98 (Nat.le_trans zw102 (Nat.le_trans zw105 (Nat.le_trans zw107 (Nat.le_trans zw109 (Nat.le_trans zw111 (Nat.le_trans zw114 (Nat.le_trans zw118 (Nat.le_trans zw122 (Nat.le_trans zw127 (Nat.le_trans zw131 (Nat.le_trans zw134 (Nat.le_trans zw137 (Nat.le_trans zw141 (Nat.le_trans zw144 (Nat.le_trans zw146 (Nat.le_trans zw148 (Nat.le_trans zw150 (Nat.le_trans zw152 (Nat.le_trans zw155 (Nat.le_trans zw159 (Nat.le_trans zw164 (Nat.le_trans zw168 (Nat.le_trans zw172 (Nat.le_trans zw176 (Nat.le_trans zw179 (Nat.le_trans zw182 (Nat.le_trans zw186 (Nat.le_trans zw190 (Nat.le_trans zw194 (Nat.le_trans zw197 (Nat.le_trans zw200 (Nat.le_trans zw204 (Nat.le_trans zw207 (Nat.le_trans zw209 (Nat.le_trans zw211 (Nat.le_trans zw213 (Nat.le_trans zw216 (Nat.le_trans zw220 (Nat.le_trans zw223 (Nat.le_trans zw226 (Nat.le_trans zw230 (Nat.le_trans zw233 (Nat.le_trans zw235 (Nat.le_trans zw238 zw242)))))))))))))))))))))))))))))))))))))))))))))))))))))))))))))))))) hg248)))
   replace b245 := b245.kp k252 (Nat.ne_of_lt (Nat.lt_of_lt_of_le lg241 (Nat.le_trans (Nat.le_refl _) hg248)))
   have zw251 := k252.size
   refine rw_nil ?_
   refine nw_seq ?_
   refine cw_seq ?_
   refine cw_seq ?_
   refine cw_region ?_
   refine rw_op (op_buildSlice (E := 4) (m := 2) (pv := #[(0, .bool true), (1, .bool false)]) (cs := #[.bool true, .bool false]) rfl (fun _ => by kernel_rfl)) rfl rfl rfl ?_
   rintro _ w255 ⟨g254, rfl, hg256, k257, b258⟩
   replace K0 := Ex.trans K0 k257
   replace f15 := f15.ex k257
   replace f16 := f16.ex k257
   replace sl21 := sl21.ex k257
   replace b26 := b26.ex k257
   replace b245 := b245.ex k257
   replace b253 := b253.ex k257
   have zw255 := k257.size
   have lg254 := b258.lt
   refine rw_ev (v := .int .i64 2) (ev_pure rfl rfl (fun _ => by kernel_rfl)) rfl rfl rfl ?_
   refine rw_ev (ev_move rfl) rfl rfl rfl ?_
   refine rw_nil ?_
   refine nw_seq ?_
   refine cw_block ?_
   refine cw_rounds 2 ?_
   refine cw_seq ?_
   refine cw_region ?_
   refine rw_ev (v := .bool true) (ev_lss (p := 0) (q := 2) rfl rfl) rfl rfl rfl ?_
   refine rw_nil ?_
   refine nw_seq ?_
   refine cw_seq ?_
   refine cw_t (b := true) rfl rfl ?_
   refine cw_skip ?_
   refine nw_seq ?_
   refine cw_seq ?_
   refine cw_block ?_
   refine cw_seq ?_
   refine cw_region ?_
   refine rw_ev (v := .pointer (some ⟨g254, 0, none⟩)) (ev_litAt (i := 0) rfl rfl el_78 (by decide) 0 rfl) rfl rfl rfl ?_
   refine rw_ev (v := .bool true) (ev_lb1 (off := 0) (fun _ h => h ▸ b258) rfl one_4 rfl) rfl rfl rfl ?_
   refine rw_ev (ev_assign rfl) rfl rfl rfl ?_
   refine rw_nil ?_
   refine nw_seq ?_
   refine cw_seq ?_
   refine cw_region ?_
   refine rw_ev (ev_move rfl) rfl rfl rfl ?_
   refine rw_ev (v := .agg #[.int .i64 c.1, .int .i64 c.2]) (ev_lbk (off := 0) (vs := [.int .i64 c.1, .int .i64 c.2]) (fun _ h => h ▸ b253) rfl agg_55 rfl rfl) rfl rfl rfl ?_
   refine rw_ev (ev_move rfl) rfl rfl rfl ?_
   refine rw_op (op_fn (xs := [.tmp 112, .tmp 113, .tmp 114]) ent_61 rfl (c_cwith w255 xv xl (Sl.below f16) c true)) rfl rfl rfl ?_
   rintro _ w260 ⟨u259, rfl, k261, sl262⟩
   replace K0 := Ex.trans K0 k261
   replace f15 := f15.ex k261
   replace f16 := f16.ex k261
   replace sl21 := sl21.ex k261
   replace b26 := b26.ex k261
   replace b245 := b245.ex k261
   replace b253 := b253.ex k261
   replace b258 := b258.ex k261
   have zw260 := k261.size
   refine rw_ev (ev_move rfl) rfl rfl rfl ?_
   refine rw_ev (ev_extract rfl rfl) rfl rfl rfl ?_
   refine rw_ev (ev_extract rfl rfl) rfl rfl rfl ?_
   refine rw_ev (ev_assign rfl) rfl rfl rfl ?_
   refine rw_ev (ev_assign rfl) rfl rfl rfl ?_
   refine rw_nil ?_
   refine nw_seq ?_
   refine cw_seq ?_
   refine cw_region ?_
   refine rw_ev (ev_move rfl) rfl rfl rfl ?_
   refine rw_ev (v := .agg #[.int .i64 c.1, .int .i64 c.2]) (ev_lbk (off := 0) (vs := [.int .i64 c.1, .int .i64 c.2]) (fun _ h => h ▸ b253) rfl agg_55 rfl rfl) rfl rfl rfl ?_
   refine rw_ev (ev_move rfl) rfl rfl rfl ?_
   refine rw_op (op_fn (xs := [.tmp 119, .tmp 120, .tmp 121]) ent_62 rfl (c_with w260 xv xl (Sl.below f16) c true)) rfl rfl rfl ?_
   rintro _ w264 ⟨u263, rfl, k265, sl266⟩
   replace K0 := Ex.trans K0 k265
   replace f15 := f15.ex k265
   replace f16 := f16.ex k265
   replace sl21 := sl21.ex k265
   replace b26 := b26.ex k265
   replace b245 := b245.ex k265
   replace b253 := b253.ex k265
   replace b258 := b258.ex k265
   replace sl262 := sl262.ex k265
   have zw264 := k265.size
   refine rw_ev (ev_move rfl) rfl rfl rfl ?_
   refine rw_ev (ev_extract rfl rfl) rfl rfl rfl ?_
   refine rw_ev (ev_extract rfl rfl) rfl rfl rfl ?_
   refine rw_ev (ev_assign rfl) rfl rfl rfl ?_
   refine rw_ev (ev_assign rfl) rfl rfl rfl ?_
   refine rw_nil ?_
   refine nw_seq ?_
   refine cw_seq ?_
   refine cw_region ?_
   refine rw_ev (ev_move rfl) rfl rfl rfl ?_
   refine rw_ev (ev_move rfl) rfl rfl rfl ?_
   refine rw_op (op_fn (xs := [.tmp 125, .tmp 126]) ent_37 rfl (c_same w264 u259 ((withC xl c true).1) (Sl.below sl262) u263 ((withC xl c true).1) (Sl.below sl266))) rfl rfl rfl ?_
   rintro _ w267 ⟨rfl, k268⟩
   replace K0 := Ex.trans K0 k268
   replace f15 := f15.ex k268
   replace f16 := f16.ex k268
   replace sl21 := sl21.ex k268
   replace b26 := b26.ex k268
   replace b245 := b245.ex k268
   replace b253 := b253.ex k268
   replace b258 := b258.ex k268
   replace sl262 := sl262.ex k268
   replace sl266 := sl266.ex k268
   have zw267 := k268.size
   refine rw_ev (ev_not rfl rfl) rfl rfl rfl ?_
   refine rw_ev (ev_move rfl) rfl rfl rfl ?_
   refine rw_ev (ev_move rfl) (gd_ff rfl (not_f (by exact same_self _))) rfl rfl ?_
   refine rw_ev (ev_move rfl) (gd_ff rfl (not_f (by exact same_self _))) rfl rfl ?_
   refine rw_ev (ev_ne rfl rfl) (gd_ff rfl (not_f (by exact same_self _))) rfl rfl ?_
   refine rw_ev (ev_pk_f rfl (not_f (by exact same_self _)) rfl) rfl rfl rfl ?_
   refine rw_nil ?_
   refine nw_seq ?_
   refine cw_f (b := decide (((withC xl c true).2) ≠ ((withC xl c true).2))) rfl (dec_f (fun h_ => h_ rfl)) ?_
   refine cw_skip ?_
   refine nw_block ?_
   refine nw_seq ?_
   refine cw_region ?_
   refine rw_ev (v := .int .i64 1) (ev_add (p := 0) (q := 1) rfl rfl (by decide)) rfl rfl rfl ?_
   refine rw_ev (v := .int .i64 1) (ev_move rfl) rfl rfl rfl ?_
   refine rw_nil ?_
   refine nw_again ?_
   refine cw_sub (e' := [(3, .int .i64 dx), (4, .int .i64 dy), (7, .pointer (some ⟨g1, 0, none⟩)), (10, .bool false), (11, .bool true), (39, .slice (some ⟨g22, 0, none⟩) 2 2), (40, .int .i64 2), (41, .int .i64 1), (14, xv), (101, .int .i64 0), (99, .slice (some ⟨g241, 0, none⟩) 2 2), (100, .int .i64 2), (24, .pointer (some ⟨g246, 0, none⟩)), (105, .slice (some ⟨g254, 0, none⟩) 2 2), (106, .int .i64 2), (107, .int .i64 1)]) (Sub.cons rfl (Sub.cons rfl (Sub.cons rfl (Sub.cons rfl (Sub.cons rfl (Sub.cons rfl (Sub.cons rfl (Sub.cons rfl (Sub.cons rfl (Sub.cons rfl (Sub.cons rfl (Sub.cons rfl (Sub.cons rfl (Sub.cons rfl (Sub.cons rfl (Sub.cons rfl Sub.nil)))))))))))))))) ?_
   refine cw_seq ?_
   refine cw_region ?_
   refine rw_ev (v := .bool true) (ev_lss (p := 1) (q := 2) rfl rfl) rfl rfl rfl ?_
   refine rw_nil ?_
   refine nw_seq ?_
   refine cw_seq ?_
   refine cw_t (b := true) rfl rfl ?_
   refine cw_skip ?_
   refine nw_seq ?_
   refine cw_seq ?_
   refine cw_block ?_
   refine cw_seq ?_
   refine cw_region ?_
   refine rw_ev (v := .pointer (some ⟨g254, 1, none⟩)) (ev_litAt (i := 1) rfl rfl el_78 (by decide) 1 rfl) rfl rfl rfl ?_
   refine rw_ev (v := .bool false) (ev_lb1 (off := 1) (fun _ h => h ▸ b258) rfl one_4 rfl) rfl rfl rfl ?_
   refine rw_ev (ev_assign rfl) rfl rfl rfl ?_
   refine rw_nil ?_
   refine nw_seq ?_
   refine cw_seq ?_
   refine cw_region ?_
   refine rw_ev (ev_move rfl) rfl rfl rfl ?_
   refine rw_ev (v := .agg #[.int .i64 c.1, .int .i64 c.2]) (ev_lbk (off := 0) (vs := [.int .i64 c.1, .int .i64 c.2]) (fun _ h => h ▸ b253) rfl agg_55 rfl rfl) rfl rfl rfl ?_
   refine rw_ev (ev_move rfl) rfl rfl rfl ?_
   refine rw_op (op_fn (xs := [.tmp 112, .tmp 113, .tmp 114]) ent_61 rfl (c_cwith w267 xv xl (Sl.below f16) c false)) rfl rfl rfl ?_
   rintro _ w270 ⟨u269, rfl, k271, sl272⟩
   replace K0 := Ex.trans K0 k271
   replace f15 := f15.ex k271
   replace f16 := f16.ex k271
   replace sl21 := sl21.ex k271
   replace b26 := b26.ex k271
   replace b245 := b245.ex k271
   replace b253 := b253.ex k271
   replace b258 := b258.ex k271
   have zw270 := k271.size
   refine rw_ev (ev_move rfl) rfl rfl rfl ?_
   refine rw_ev (ev_extract rfl rfl) rfl rfl rfl ?_
   refine rw_ev (ev_extract rfl rfl) rfl rfl rfl ?_
   refine rw_ev (ev_assign rfl) rfl rfl rfl ?_
   refine rw_ev (ev_assign rfl) rfl rfl rfl ?_
   refine rw_nil ?_
   refine nw_seq ?_
   refine cw_seq ?_
   refine cw_region ?_
   refine rw_ev (ev_move rfl) rfl rfl rfl ?_
   refine rw_ev (v := .agg #[.int .i64 c.1, .int .i64 c.2]) (ev_lbk (off := 0) (vs := [.int .i64 c.1, .int .i64 c.2]) (fun _ h => h ▸ b253) rfl agg_55 rfl rfl) rfl rfl rfl ?_
   refine rw_ev (ev_move rfl) rfl rfl rfl ?_
   refine rw_op (op_fn (xs := [.tmp 119, .tmp 120, .tmp 121]) ent_62 rfl (c_with w270 xv xl (Sl.below f16) c false)) rfl rfl rfl ?_
   rintro _ w274 ⟨u273, rfl, k275, sl276⟩
   replace K0 := Ex.trans K0 k275
   replace f15 := f15.ex k275
   replace f16 := f16.ex k275
   replace sl21 := sl21.ex k275
   replace b26 := b26.ex k275
   replace b245 := b245.ex k275
   replace b253 := b253.ex k275
   replace b258 := b258.ex k275
   replace sl272 := sl272.ex k275
   have zw274 := k275.size
   refine rw_ev (ev_move rfl) rfl rfl rfl ?_
   refine rw_ev (ev_extract rfl rfl) rfl rfl rfl ?_
   refine rw_ev (ev_extract rfl rfl) rfl rfl rfl ?_
   refine rw_ev (ev_assign rfl) rfl rfl rfl ?_
   refine rw_ev (ev_assign rfl) rfl rfl rfl ?_
   refine rw_nil ?_
   refine nw_seq ?_
   refine cw_seq ?_
   refine cw_region ?_
   refine rw_ev (ev_move rfl) rfl rfl rfl ?_
   refine rw_ev (ev_move rfl) rfl rfl rfl ?_
   refine rw_op (op_fn (xs := [.tmp 125, .tmp 126]) ent_37 rfl (c_same w274 u269 ((withC xl c false).1) (Sl.below sl272) u273 ((withC xl c false).1) (Sl.below sl276))) rfl rfl rfl ?_
   rintro _ w277 ⟨rfl, k278⟩
   replace K0 := Ex.trans K0 k278
   replace f15 := f15.ex k278
   replace f16 := f16.ex k278
   replace sl21 := sl21.ex k278
   replace b26 := b26.ex k278
   replace b245 := b245.ex k278
   replace b253 := b253.ex k278
   replace b258 := b258.ex k278
   replace sl272 := sl272.ex k278
   replace sl276 := sl276.ex k278
   have zw277 := k278.size
   refine rw_ev (ev_not rfl rfl) rfl rfl rfl ?_
   refine rw_ev (ev_move rfl) rfl rfl rfl ?_
   refine rw_ev (ev_move rfl) (gd_ff rfl (not_f (by exact same_self _))) rfl rfl ?_
   refine rw_ev (ev_move rfl) (gd_ff rfl (not_f (by exact same_self _))) rfl rfl ?_
   refine rw_ev (ev_ne rfl rfl) (gd_ff rfl (not_f (by exact same_self _))) rfl rfl ?_
   refine rw_ev (ev_pk_f rfl (not_f (by exact same_self _)) rfl) rfl rfl rfl ?_
   refine rw_nil ?_
   refine nw_seq ?_
   refine cw_f (b := decide (((withC xl c false).2) ≠ ((withC xl c false).2))) rfl (dec_f (fun h_ => h_ rfl)) ?_
   refine cw_skip ?_
   refine nw_block ?_
   refine nw_seq ?_
   refine cw_region ?_
   refine rw_ev (v := .int .i64 2) (ev_add (p := 1) (q := 1) rfl rfl (by decide)) rfl rfl rfl ?_
   refine rw_ev (v := .int .i64 2) (ev_move rfl) rfl rfl rfl ?_
   refine rw_nil ?_
   refine nw_again ?_
   refine cw_sub (e' := [(3, .int .i64 dx), (4, .int .i64 dy), (7, .pointer (some ⟨g1, 0, none⟩)), (10, .bool false), (11, .bool true), (39, .slice (some ⟨g22, 0, none⟩) 2 2), (40, .int .i64 2), (41, .int .i64 1), (14, xv), (101, .int .i64 0), (99, .slice (some ⟨g241, 0, none⟩) 2 2), (100, .int .i64 2), (24, .pointer (some ⟨g246, 0, none⟩)), (105, .slice (some ⟨g254, 0, none⟩) 2 2), (106, .int .i64 2), (107, .int .i64 2)]) (Sub.cons rfl (Sub.cons rfl (Sub.cons rfl (Sub.cons rfl (Sub.cons rfl (Sub.cons rfl (Sub.cons rfl (Sub.cons rfl (Sub.cons rfl (Sub.cons rfl (Sub.cons rfl (Sub.cons rfl (Sub.cons rfl (Sub.cons rfl (Sub.cons rfl (Sub.cons rfl Sub.nil)))))))))))))))) ?_
   refine cw_seq ?_
   refine cw_region ?_
   refine rw_ev (v := .bool false) (ev_lss (p := 2) (q := 2) rfl rfl) rfl rfl rfl ?_
   refine rw_nil ?_
   refine nw_seq ?_
   refine cw_seq ?_
   refine cw_f (b := false) rfl rfl ?_
   refine cw_exit ?_
   refine xw_seq ?_
   refine xw_again ?_
   refine xw_hit ?_
   refine nw_seq ?_
   refine cw_seq ?_
   refine cw_drawn (fun w279 w_ => Ex w279 w_) [] (.take 0 (.take 1 (.take 3 (.take 4 (.one 2 (.one 5 (.take 6 .done))))))) mixed (by kernel_rfl) (by kernel_rfl) (Nat.le_of_ble_eq_true (by kernel_rfl)) ?_; intro w279 k280 hs_
   replace K0 := Ex.trans K0 k280
   replace f15 := f15.ex k280
   replace f16 := f16.ex k280
   replace sl21 := sl21.ex k280
   replace b26 := b26.ex k280
   replace b245 := b245.ex k280
   replace b253 := b253.ex k280
   have zw279 := k280.size
   have hS : (fun w_ => Ex w279 w_) w279 := Kp.refl _ _
   refine rp_take hs_ hS rfl rfl (ev_move rfl) rfl rfl rfl ?_
   refine rp_take (v := .agg #[.int .i64 c.1, .int .i64 c.2]) hs_ hS rfl rfl (ev_lbk (off := 0) (vs := [.int .i64 c.1, .int .i64 c.2]) (fun _ h => b253.ex h) rfl agg_55 rfl rfl) rfl rfl rfl ?_
   refine rp_take hs_ hS rfl rfl (ev_move rfl) rfl rfl rfl ?_
   refine rp_take (v := .agg #[.int .i64 c.1, .int .i64 c.2]) hs_ hS rfl rfl (ev_lbk (off := 0) (vs := [.int .i64 c.1, .int .i64 c.2]) (fun _ h => b253.ex h) rfl agg_55 rfl rfl) rfl rfl rfl ?_
   refine rp_up (up_op rfl (op_fn (xs := [.tmp 135, .tmp 136]) ent_63 rfl (c_chas w279 xv xl (Sl.below (f16.ex hS)) c)) rfl rfl rfl ?_)
   rintro _ w281 ⟨rfl, k282⟩
   replace K0 := Ex.trans K0 k282
   replace hS := Ex.trans hS k282
   have zw281 := k282.size
   refine ⟨(fun _ => hS), ?_⟩
   refine rp_up (up_op rfl (op_fn (xs := [.tmp 138, .tmp 139]) ent_55 rfl (c_has w281 xv xl (Sl.below (f16.ex hS)) c)) rfl rfl rfl ?_)
   rintro _ w283 ⟨rfl, k284⟩
   replace K0 := Ex.trans K0 k284
   replace hS := Ex.trans hS k284
   have zw283 := k284.size
   refine ⟨(fun _ => hS), ?_⟩
   refine rp_take hs_ hS rfl rfl (ev_neb bool_4 rfl rfl) rfl rfl rfl ?_
   refine rp_done ?_
   clear hs_
   replace f15 := f15.ex hS
   replace f16 := f16.ex hS
   replace sl21 := sl21.ex hS
   replace b26 := b26.ex hS
   replace b245 := b245.ex hS
   replace b253 := b253.ex hS
   refine nw_seq ?_
   refine cw_f (b := decide ((hasC xl c) ≠ (hasC xl c))) rfl (dec_f (fun h_ => h_ rfl)) ?_
   refine cw_skip ?_
   refine nw_block ?_
   refine nw_seq ?_
   refine cw_region ?_
   refine rw_ev (v := .int .i64 1) (ev_add (p := 0) (q := 1) rfl rfl (by decide)) rfl rfl rfl ?_
   refine rw_ev (v := .int .i64 1) (ev_move rfl) rfl rfl rfl ?_
   refine rw_nil ?_
   refine nw_again ?_
   refine cw_sub (e' := [(3, .int .i64 dx), (4, .int .i64 dy), (7, .pointer (some ⟨g1, 0, none⟩)), (10, .bool false), (11, .bool true), (39, .slice (some ⟨g22, 0, none⟩) 2 2), (40, .int .i64 2), (41, .int .i64 1), (14, xv), (101, .int .i64 1), (99, .slice (some ⟨g241, 0, none⟩) 2 2), (100, .int .i64 2)]) (Sub.cons rfl (Sub.cons rfl (Sub.cons rfl (Sub.cons rfl (Sub.cons rfl (Sub.cons rfl (Sub.cons rfl (Sub.cons rfl (Sub.cons rfl (Sub.cons rfl (Sub.cons rfl (Sub.cons rfl Sub.nil)))))))))))) ?_
   refine cw_seq ?_
   refine cw_region ?_
   refine rw_ev (v := .bool true) (ev_lss (p := 1) (q := 2) rfl rfl) rfl rfl rfl ?_
   refine rw_nil ?_
   refine nw_seq ?_
   refine cw_seq ?_
   refine cw_t (b := true) rfl rfl ?_
   refine cw_skip ?_
   refine nw_seq ?_
   refine cw_seq ?_
   refine cw_block ?_
   refine cw_seq ?_
   refine cw_region ?_
   refine rw_ev (v := .pointer (some ⟨g241, 2, none⟩)) (ev_litAt (i := 1) rfl rfl el_46 (by decide) 2 rfl) rfl rfl rfl ?_
   refine rw_ev (v := .agg #[.int .i64 ((pickI c.1 (16 : Int)) - 8), .int .i64 ((pickI c.2 (16 : Int)) - 8)]) (ev_lbk (off := 2) (vs := [.int .i64 ((pickI c.1 (16 : Int)) - 8), .int .i64 ((pickI c.2 (16 : Int)) - 8)]) (fun _ h => h ▸ b245) rfl agg_55 rfl rfl) rfl rfl rfl ?_
   refine rw_op (op_alloc zero_55) rfl rfl rfl ?_
   rintro _ w286 ⟨g285, rfl, hg287, k288, b289⟩
   replace K0 := Ex.trans K0 k288
   replace f15 := f15.ex k288
   replace f16 := f16.ex k288
   replace sl21 := sl21.ex k288
   replace b26 := b26.ex k288
   replace b245 := b245.ex k288
   have zw286 := k288.size
   have lg285 := b289.lt
   refine rw_none (op_store (off := 0) (v := .agg #[.int .i64 ((pickI c.1 (16 : Int)) - 8), .int .i64 ((pickI c.2 (16 : Int)) - 8)]) (cs' := #[.int .i64 ((pickI c.1 (16 : Int)) - 8), .int .i64 ((pickI c.2 (16 : Int)) - 8)]) b289 rfl rfl size_55 rfl (Nat.le_of_ble_eq_true rfl) (one_cons rfl (one_cons rfl one_nil)) rfl) rfl rfl ?_
   rintro _ w290 ⟨k291, b292⟩
   replace K0 := Ex.kp_new K0 k291 (fun _ h => h ▸ Nat.le_trans (Nat.le_trans zw2 (Nat.le_trans zw6 (Nat.le_trans z12 (Nat.le_trans zw19 (Nat.le_trans zw23 (Nat.le_trans zw28 (Nat.le_trans zw32 (Nat.le_trans zw35 (Nat.le_trans zw37 (Nat.le_trans zw39 (Nat.le_trans zw41 (Nat.le_trans zw44 (Nat.le_trans zw48 (Nat.le_trans zw51 (Nat.le_trans zw54 (Nat.le_trans zw58 (Nat.le_trans zw61 (Nat.le_trans zw63 (Nat.le_trans zw66 (Nat.le_trans zw70 (Nat.le_trans zw75 (Nat.le_trans zw79 (Nat.le_trans zw83 (Nat.le_trans zw88 (Nat.le_trans zw92 (Nat.le_trans zw95 (Nat.le_trans zw98 (Nat.le_trans zw102 (Nat.le_trans zw105 (Nat.le_trans zw107 (Nat.le_trans zw109 (Nat.le_trans zw111 (Nat.le_trans zw114 (Nat.le_trans zw118 (Nat.le_trans zw122 (Nat.le_trans zw127 (Nat.le_trans zw131 (Nat.le_trans zw134 (Nat.le_trans zw137 (Nat.le_trans zw141 (Nat.le_trans zw144 (Nat.le_trans zw146 (Nat.le_trans zw148 (Nat.le_trans zw150 (Nat.le_trans zw152 (Nat.le_trans zw155 (Nat.le_trans zw159 (Nat.le_trans zw164 (Nat.le_trans zw168 (Nat.le_trans zw172 (Nat.le_trans zw176 (Nat.le_trans zw179 (Nat.le_trans zw182 (Nat.le_trans zw186 (Nat.le_trans zw190 (Nat.le_trans zw194 (Nat.le_trans zw197 (Nat.le_trans zw200 (Nat.le_trans zw204 (Nat.le_trans zw207 (Nat.le_trans zw209 (Nat.le_trans zw211 (Nat.le_trans zw213 (Nat.le_trans zw216 (Nat.le_trans zw220 (Nat.le_trans zw223 (Nat.le_trans zw226 (Nat.le_trans zw230 (Nat.le_trans zw233 (Nat.le_trans zw235 (Nat.le_trans zw238 (Nat.le_trans zw242 (Nat.le_trans zw247 (Nat.le_trans zw251 (Nat.le_trans zw255 (Nat.le_trans zw260 (Nat.le_trans zw264 (Nat.le_trans zw267 (Nat.le_trans zw270 (Nat.le_trans zw274 (Nat.le_trans zw277 (Nat.le_trans zw279 (Nat.le_trans zw281 zw283))))))))))))))))))))))))))))))))))))))))))))))))))))))))))))))))))))))))))))))))))) hg287)
   replace f15 := f15.kp k291 (Nat.ne_of_lt (Nat.lt_of_lt_of_le lg1 (Nat.le_trans (Nat.le_trans zw6 (Nat.le_trans z12 (Nat.le_trans zw19 (Nat.le_trans zw23 (Nat.le_trans zw28 (Nat.le_trans zw32 (Nat.le_trans zw35 (Nat.le_trans zw37 (Nat.le_trans zw39 (Nat.le_trans zw41 (Nat.le_trans zw44 (Nat.le_trans zw48 (Nat.le_trans zw51 (Nat.le_trans zw54 (Nat.le_trans zw58 (Nat.le_trans zw61 (Nat.le_trans zw63 (Nat.le_trans zw66 (Nat.le_trans zw70 (Nat.le_trans zw75 (Nat.le_trans zw79 (Nat.le_trans zw83 (Nat.le_trans zw88 (Nat.le_trans zw92 (Nat.le_trans zw95 (Nat.le_trans zw98 (Nat.le_trans zw102 (Nat.le_trans zw105 (Nat.le_trans zw107 (Nat.le_trans zw109 (Nat.le_trans zw111 (Nat.le_trans zw114 (Nat.le_trans zw118 (Nat.le_trans zw122 (Nat.le_trans zw127 (Nat.le_trans zw131 (Nat.le_trans zw134 (Nat.le_trans zw137 (Nat.le_trans zw141 (Nat.le_trans zw144 (Nat.le_trans zw146 (Nat.le_trans zw148 (Nat.le_trans zw150 (Nat.le_trans zw152 (Nat.le_trans zw155 (Nat.le_trans zw159 (Nat.le_trans zw164 (Nat.le_trans zw168 (Nat.le_trans zw172 (Nat.le_trans zw176 (Nat.le_trans zw179 (Nat.le_trans zw182 (Nat.le_trans zw186 (Nat.le_trans zw190 (Nat.le_trans zw194 (Nat.le_trans zw197 (Nat.le_trans zw200 (Nat.le_trans zw204 (Nat.le_trans zw207 (Nat.le_trans zw209 (Nat.le_trans zw211 (Nat.le_trans zw213 (Nat.le_trans zw216 (Nat.le_trans zw220 (Nat.le_trans zw223 (Nat.le_trans zw226 (Nat.le_trans zw230 (Nat.le_trans zw233 (Nat.le_trans zw235 (Nat.le_trans zw238 (Nat.le_trans zw242 (Nat.le_trans zw247 (Nat.le_trans zw251 (Nat.le_trans zw255 (Nat.le_trans zw260 (Nat.le_trans zw264 (Nat.le_trans zw267 (Nat.le_trans zw270 (Nat.le_trans zw274 (Nat.le_trans zw277 (Nat.le_trans zw279 (Nat.le_trans zw281 zw283)))))))))))))))))))))))))))))))))))))))))))))))))))))))))))))))))))))))))))))))))) hg287)))
   replace f16 := f16.kp k291 (fun b h e => Nat.lt_irrefl _ (Nat.lt_of_lt_of_le (show g285 < _ from e ▸ (show b < _ from h)) (Nat.le_trans (Nat.le_trans zw2 (Nat.le_trans zw6 (Nat.le_trans z12 (Nat.le_trans zw19 (Nat.le_trans zw23 (Nat.le_trans zw28 (Nat.le_trans zw32 (Nat.le_trans zw35 (Nat.le_trans zw37 (Nat.le_trans zw39 (Nat.le_trans zw41 (Nat.le_trans zw44 (Nat.le_trans zw48 (Nat.le_trans zw51 (Nat.le_trans zw54 (Nat.le_trans zw58 (Nat.le_trans zw61 (Nat.le_trans zw63 (Nat.le_trans zw66 (Nat.le_trans zw70 (Nat.le_trans zw75 (Nat.le_trans zw79 (Nat.le_trans zw83 (Nat.le_trans zw88 (Nat.le_trans zw92 (Nat.le_trans zw95 (Nat.le_trans zw98 (Nat.le_trans zw102 (Nat.le_trans zw105 (Nat.le_trans zw107 (Nat.le_trans zw109 (Nat.le_trans zw111 (Nat.le_trans zw114 (Nat.le_trans zw118 (Nat.le_trans zw122 (Nat.le_trans zw127 (Nat.le_trans zw131 (Nat.le_trans zw134 (Nat.le_trans zw137 (Nat.le_trans zw141 (Nat.le_trans zw144 (Nat.le_trans zw146 (Nat.le_trans zw148 (Nat.le_trans zw150 (Nat.le_trans zw152 (Nat.le_trans zw155 (Nat.le_trans zw159 (Nat.le_trans zw164 (Nat.le_trans zw168 (Nat.le_trans zw172 (Nat.le_trans zw176 (Nat.le_trans zw179 (Nat.le_trans zw182 (Nat.le_trans zw186 (Nat.le_trans zw190 (Nat.le_trans zw194 (Nat.le_trans zw197 (Nat.le_trans zw200 (Nat.le_trans zw204 (Nat.le_trans zw207 (Nat.le_trans zw209 (Nat.le_trans zw211 (Nat.le_trans zw213 (Nat.le_trans zw216 (Nat.le_trans zw220 (Nat.le_trans zw223 (Nat.le_trans zw226 (Nat.le_trans zw230 (Nat.le_trans zw233 (Nat.le_trans zw235 (Nat.le_trans zw238 (Nat.le_trans zw242 (Nat.le_trans zw247 (Nat.le_trans zw251 (Nat.le_trans zw255 (Nat.le_trans zw260 (Nat.le_trans zw264 (Nat.le_trans zw267 (Nat.le_trans zw270 (Nat.le_trans zw274 (Nat.le_trans zw277 (Nat.le_trans zw279 (Nat.le_trans zw281 zw283))))))))))))))))))))))))))))))))))))))))))))))))))))))))))))))))))))))))))))))))))) hg287)))
   replace sl21 := sl21.kp k291 (fun b h e => Nat.lt_irrefl _ (Nat.lt_of_lt_of_le (show g285 < _ from e ▸ (show b < _ from h.2)) (Nat.le_trans (Nat.le_trans zw23 (Nat.le_trans zw28 (Nat.le_trans zw32 (Nat.le_trans zw35 (Nat.le_trans zw37 (Nat.le_trans zw39 (Nat.le_trans zw41 (Nat.le_trans zw44 (Nat.le_trans zw48 (Nat.le_trans zw51 (Nat.le_trans zw54 (Nat.le_trans zw58 (Nat.le_trans zw61 (Nat.le_trans zw63 (Nat.le_trans zw66 (Nat.le_trans zw70 (Nat.le_trans zw75 (Nat.le_trans zw79 (Nat.le_trans zw83 (Nat.le_trans zw88 (Nat.le_trans zw92 (Nat.le_trans zw95 (Nat.le_trans zw98 (Nat.le_trans zw102 (Nat.le_trans zw105 (Nat.le_trans zw107 (Nat.le_trans zw109 (Nat.le_trans zw111 (Nat.le_trans zw114 (Nat.le_trans zw118 (Nat.le_trans zw122 (Nat.le_trans zw127 (Nat.le_trans zw131 (Nat.le_trans zw134 (Nat.le_trans zw137 (Nat.le_trans zw141 (Nat.le_trans zw144 (Nat.le_trans zw146 (Nat.le_trans zw148 (Nat.le_trans zw150 (Nat.le_trans zw152 (Nat.le_trans zw155 (Nat.le_trans zw159 (Nat.le_trans zw164 (Nat.le_trans zw168 (Nat.le_trans zw172 (Nat.le_trans zw176 (Nat.le_trans zw179 (Nat.le_trans zw182 (Nat.le_trans zw186 (Nat.le_trans zw190 (Nat.le_trans zw194 (Nat.le_trans zw197 (Nat.le_trans zw200 (Nat.le_trans zw204 (Nat.le_trans zw207 (Nat.le_trans zw209 (Nat.le_trans zw211 (Nat.le_trans zw213 (Nat.le_trans zw216 (Nat.le_trans zw220 (Nat.le_trans zw223 (Nat.le_trans zw226 (Nat.le_trans zw230 (Nat.le_trans zw233 (Nat.le_trans zw235 (Nat.le_trans zw238 (Nat.le_trans zw242 (Nat.le_trans zw247 (Nat.le_trans zw251 (Nat.le_trans zw255 (Nat.le_trans zw260 (Nat.le_trans zw264 (Nat.le_trans zw267 (Nat.le_trans zw270 (Nat.le_trans zw274 (Nat.le_trans zw277 (Nat.le_trans zw279 (Nat.le_trans zw281 zw283))))))))))))))))))))))))))))))))))))))))))))))))))))))))))))))))))))))))))))))) hg287)))
   replace b26 := b26.kp k291 (Nat.ne_of_lt (Nat.lt_of_lt_of_le lg22 (Nat.le_trans (Nat.le_trans zw28 (Nat.le_trans zw32 (Nat.le_trans zw35 (Nat.le_trans zw37 (Nat.le_trans zw39 (Nat.le_trans zw41 (Nat.le_trans zw44 (Nat.le_trans zw48 (Nat.le_trans zw51 (Nat.le_trans zw54 (Nat.le_trans zw58 (Nat.le_trans zw61 (Nat.le_trans zw63 (Nat.le_trans zw66 (Nat.le_trans zw70 (Nat.le_trans zw75 (Nat.le_trans zw79 (Nat.le_trans zw83 (Nat.le_trans zw88 (Nat.le_trans zw92 (Nat.le_trans zw95 (Nat.le_trans zw98 (Nat.le_trans zw102 (Nat.le_trans zw105 (Nat.le_trans zw107 (Nat.le_trans zw109 (Nat.le_trans zw111 (Nat.le_trans zw114 (Nat.le_trans zw118 (Nat.le_trans zw122 (Nat.le_trans zw127 (Nat.le_trans zw131 (Nat.le_trans zw134 (Nat.le_trans zw137 (Nat.le_trans zw141 (Nat.le_trans zw144 (Nat.le_trans zw146 (Nat.le_trans zw148 (Nat.le_trans zw150 (Nat.le_trans zw152 (Nat.le_trans zw155 (Nat.le_trans zw159 (Nat.le_trans zw164 (Nat.le_trans zw168 (Nat.le_trans zw172 (Nat.le_trans zw176 (Nat.le_trans zw179 (Nat.le_trans zw182 (Nat.le_trans zw186 (Nat.le_trans zw190 (Nat.le_trans zw194 (Nat.le_trans zw197 (Nat.le_trans zw200 (Nat.le_trans zw204 (Nat.le_trans zw207 (Nat.le_trans zw209 (Nat.le_trans zw211 (Nat.le_trans zw213 (Nat.le_trans zw216 (Nat.le_trans zw220 (Nat.le_trans zw223 (Nat.le_trans zw226 (Nat.le_trans zw230 (Nat.le_trans zw233 (Nat.le_trans zw235 (Nat.le_trans zw238 (Nat.le_trans zw242 (Nat.le_trans zw247 (Nat.le_trans zw251 (Nat.le_trans zw255 (Nat.le_trans zw260 (Nat.le_trans zw264 (Nat.le_trans zw267 (Nat.le_trans zw270 (Nat.le_trans zw274 (Nat.le_trans zw277 (Nat.le_trans zw279 (Nat.le_trans zw281 zw283)))))))))))))))))))))))))))))))))))))))))))))))))))))))))))))))))))))))))))))) hg287)))
   replace b245 := b245.kp k291 (Nat.ne_of_lt (Nat.lt_of_lt_of_le lg241 (Nat.le_trans (Nat.le_trans zw247 (Nat.le_trans zw251 (Nat.le_trans zw255 (Nat.le_trans zw260 (Nat.le_trans zw264 (Nat.le_trans zw267 (Nat.le_trans zw270 (Nat.le_trans zw274 (Nat.le_trans zw277 (Nat.le_trans zw279 (Nat.le_trans zw281 zw283))))))))))) hg287)))
   have zw290 := k291.size
   refine rw_nil ?_
   refine nw_seq ?_
   refine cw_seq ?_
   refine cw_seq ?_
   refine cw_region ?_
   refine rw_op (op_buildSlice (E := 4) (m := 2) (pv := #[(0, .bool true), (1, .bool false)]) (cs := #[.bool true, .bool false]) rfl (fun _ => by kernel_rfl)) rfl rfl rfl ?_
   rintro _ w294 ⟨g293, rfl, hg295, k296, b297⟩
   replace K0 := Ex.trans K0 k296
   replace f15 := f15.ex k296
   replace f16 := f16.ex k296
   replace sl21 := sl21.ex k296
   replace b26 := b26.ex k296
   replace b245 := b245.ex k296
   replace b292 := b292.ex k296
   have zw294 := k296.size
   have lg293 := b297.lt
   refine rw_ev (v := .int .i64 2) (ev_pure rfl rfl (fun _ => by kernel_rfl)) rfl rfl rfl ?_
   refine rw_ev (ev_move rfl) rfl rfl rfl ?_
   refine rw_nil ?_
   refine nw_seq ?_
   refine cw_block ?_
   refine cw_rounds 2 ?_
   refine cw_seq ?_
   refine cw_region ?_
   refine rw_ev (v := .bool true) (ev_lss (p := 0) (q := 2) rfl rfl) rfl rfl rfl ?_
   refine rw_nil ?_
   refine nw_seq ?_
   refine cw_seq ?_
   refine cw_t (b := true) rfl rfl ?_
   refine cw_skip ?_
   refine nw_seq ?_
   refine cw_seq ?_
   refine cw_block ?_
   refine cw_seq ?_
   refine cw_region ?_
   refine rw_ev (v := .pointer (some ⟨g293, 0, none⟩)) (ev_litAt (i := 0) rfl rfl el_78 (by decide) 0 rfl) rfl rfl rfl ?_
   refine rw_ev (v := .bool true) (ev_lb1 (off := 0) (fun _ h => h ▸ b297) rfl one_4 rfl) rfl rfl rfl ?_
   refine rw_ev (ev_assign rfl) rfl rfl rfl ?_
   refine rw_nil ?_
   refine nw_seq ?_
   refine cw_seq ?_
   refine cw_region ?_
   refine rw_ev (ev_move rfl) rfl rfl rfl ?_
   refine rw_ev (v := .agg #[.int .i64 ((pickI c.1 (16 : Int)) - 8), .int .i64 ((pickI c.2 (16 : Int)) - 8)]) (ev_lbk (off := 0) (vs := [.int .i64 ((pickI c.1 (16 : Int)) - 8), .int .i64 ((pickI c.2 (16 : Int)) - 8)]) (fun _ h => h ▸ b292) rfl agg_55 rfl rfl) rfl rfl rfl ?_
   refine rw_ev (ev_move rfl) rfl rfl rfl ?_
   refine rw_op (op_fn (xs := [.tmp 112, .tmp 113, .tmp 114]) ent_61 rfl (c_cwith w294 xv xl (Sl.below f16) ((pickI c.1 (16 : Int)) - 8, (pickI c.2 (16 : Int)) - 8) true)) rfl rfl rfl ?_
   rintro _ w299 ⟨u298, rfl, k300, sl301⟩
   replace K0 := Ex.trans K0 k300
   replace f15 := f15.ex k300
   replace f16 := f16.ex k300
   replace sl21 := sl21.ex k300
   replace b26 := b26.ex k300
   replace b245 := b245.ex k300
   replace b292 := b292.ex k300
   replace b297 := b297.ex k300
   have zw299 := k300.size
   refine rw_ev (ev_move rfl) rfl rfl rfl ?_
   refine rw_ev (ev_extract (vs := #[u298, .int .i64 ((withC xl ((pickI c.1 (16 : Int)) - 8, (pickI c.2 (16 : Int)) - 8) true).2)]) rfl rfl) rfl rfl rfl ?_
   refine rw_ev (ev_extract (vs := #[u298, .int .i64 ((withC xl ((pickI c.1 (16 : Int)) - 8, (pickI c.2 (16 : Int)) - 8) true).2)]) rfl rfl) rfl rfl rfl ?_
   refine rw_ev (ev_assign rfl) rfl rfl rfl ?_
   refine rw_ev (ev_assign rfl) rfl rfl rfl ?_
   refine rw_nil ?_
   refine nw_seq ?_
   refine cw_seq ?_
   refine cw_region ?_
   refine rw_ev (ev_move rfl) rfl rfl rfl ?_
   refine rw_ev (v := .agg #[.int .i64 ((pickI c.1 (16 : Int)) - 8), .int .i64 ((pickI c.2 (16 : Int)) - 8)]) (ev_lbk (off := 0) (vs := [.int .i64 ((pickI c.1 (16 : Int)) - 8), .int .i64 ((pickI c.2 (16 : Int)) - 8)]) (fun _ h => h ▸ b292) rfl agg_55 rfl rfl) rfl rfl rfl ?_
   refine rw_ev (ev_move rfl) rfl rfl rfl ?_
   refine rw_op (op_fn (xs := [.tmp 119, .tmp 120, .tmp 121]) ent_62 rfl (c_with w299 xv xl (Sl.below f16) ((pickI c.1 (16 : Int)) - 8, (pickI c.2 (16 : Int)) - 8) true)) rfl rfl rfl ?_
   rintro _ w303 ⟨u302, rfl, k304, sl305⟩
   replace K0 := Ex.trans K0 k304
   replace f15 := f15.ex k304
   replace f16 := f16.ex k304
   replace sl21 := sl21.ex k304
   replace b26 := b26.ex k304
   replace b245 := b245.ex k304
   replace b292 := b292.ex k304
   replace b297 := b297.ex k304
   replace sl301 := sl301.ex k304
   have zw303 := k304.size
   refine rw_ev (ev_move rfl) rfl rfl rfl ?_
   refine rw_ev (ev_extract (vs := #[u302, .int .i64 ((withC xl ((pickI c.1 (16 : Int)) - 8, (pickI c.2 (16 : Int)) - 8) true).2)]) rfl rfl) rfl rfl rfl ?_
   refine rw_ev (ev_extract (vs := #[u302, .int .i64 ((withC xl ((pickI c.1 (16 : Int)) - 8, (pickI c.2 (16 : Int)) - 8) true).2)]) rfl rfl) rfl rfl rfl ?_
   refine rw_ev (ev_assign rfl) rfl rfl rfl ?_
   refine rw_ev (ev_assign rfl) rfl rfl rfl ?_
   refine rw_nil ?_
   refine nw_seq ?_
   refine cw_seq ?_
   refine cw_region ?_
   refine rw_ev (ev_move rfl) rfl rfl rfl ?_
   refine rw_ev (ev_move rfl) rfl rfl rfl ?_
   refine rw_op (op_fn (xs := [.tmp 125, .tmp 126]) ent_37 rfl (c_same w303 u298 ((withC xl ((pickI c.1 (16 : Int)) - 8, (pickI c.2 (16 : Int)) - 8) true).1) (Sl.below sl301) u302 ((withC xl ((pickI c.1 (16 : Int)) - 8, (pickI c.2 (16 : Int)) - 8) true).1) (Sl.below sl305))) rfl rfl rfl ?_
   rintro _ w306 ⟨rfl, k307⟩
   replace K0 := Ex.trans K0 k307
   replace f15 := f15.ex k307
   replace f16 := f16.ex k307
   replace sl21 := sl21.ex k307
   replace b26 := b26.ex k307
   replace b245 := b245.ex k307
   replace b292 := b292.ex k307
   replace b297 := b297.ex k307
   replace sl301 := sl301.ex k307
   replace sl305 := sl305.ex k307
   have zw306 := k307.size
   refine rw_ev (ev_not (b := sameC ((withC xl ((pickI c.1 (16 : Int)) - 8, (pickI c.2 (16 : Int)) - 8) true).1) ((withC xl ((pickI c.1 (16 : Int)) - 8, (pickI c.2 (16 : Int)) - 8) true).1)) rfl rfl) rfl rfl rfl ?_
   refine rw_ev (ev_move rfl) rfl rfl rfl ?_
   refine rw_ev (ev_move rfl) (gd_ff rfl (not_f (by exact same_self _))) rfl rfl ?_
   refine rw_ev (ev_move rfl) (gd_ff rfl (not_f (by exact same_self _))) rfl rfl ?_
   refine rw_ev (ev_ne rfl rfl) (gd_ff rfl (not_f (by exact same_self _))) rfl rfl ?_
   refine rw_ev (ev_pk_f (b := !(sameC ((withC xl ((pickI c.1 (16 : Int)) - 8, (pickI c.2 (16 : Int)) - 8) true).1) ((withC xl ((pickI c.1 (16 : Int)) - 8, (pickI c.2 (16 : Int)) - 8) true).1))) rfl (not_f (by exact same_self _)) rfl) rfl rfl rfl ?_
   refine rw_nil ?_
   refine nw_seq ?_
   refine cw_f (b := decide (((withC xl ((pickI c.1 (16 : Int)) - 8, (pickI c.2 (16 : Int)) - 8) true).2) ≠ ((withC xl ((pickI c.1 (16 : Int)) - 8, (pickI c.2 (16 : Int)) - 8) true).2))) rfl (dec_f (fun h_ => h_ rfl)) ?_
   refine cw_skip ?_
   refine nw_block ?_
   refine nw_seq ?_
   refine cw_region ?_
   refine rw_ev (v := .int .i64 1) (ev_add (p := 0) (q := 1) rfl rfl (by decide)) rfl rfl rfl ?_
   refine rw_ev (v := .int .i64 1) (ev_move rfl) rfl rfl rfl ?_
   refine rw_nil ?_
   refine nw_again ?_
   refine cw_sub (e' := [(3, .int .i64 dx), (4, .int .i64 dy), (7, .pointer (some ⟨g1, 0, none⟩)), (10, .bool false), (11, .bool true), (39, .slice (some ⟨g22, 0, none⟩) 2 2), (40, .int .i64 2), (41, .int .i64 1), (14, xv), (101, .int .i64 1), (99, .slice (some ⟨g241, 0, none⟩) 2 2), (100, .int .i64 2), (24, .pointer (some ⟨g285, 0, none⟩)), (105, .slice (some ⟨g293, 0, none⟩) 2 2), (106, .int .i64 2), (107, .int .i64 1)]) (Sub.cons rfl (Sub.cons rfl (Sub.cons rfl (Sub.cons rfl (Sub.cons rfl (Sub.cons rfl (Sub.cons rfl (Sub.cons rfl (Sub.cons rfl (Sub.cons rfl (Sub.cons rfl (Sub.cons rfl (Sub.cons rfl (Sub.cons rfl (Sub.cons rfl (Sub.cons rfl Sub.nil)))))))))))))))) ?_
   refine cw_seq ?_
   refine cw_region ?_
   refine rw_ev (v := .bool true) (ev_lss (p := 1) (q := 2) rfl rfl) rfl rfl rfl ?_
   refine rw_nil ?_
   refine nw_seq ?_
   refine cw_seq ?_
   refine cw_t (b := true) rfl rfl ?_
   refine cw_skip ?_
   refine nw_seq ?_
   refine cw_seq ?_
   refine cw_block ?_
   refine cw_seq ?_
   refine cw_region ?_
   refine rw_ev (v := .pointer (some ⟨g293, 1, none⟩)) (ev_litAt (i := 1) rfl rfl el_78 (by decide) 1 rfl) rfl rfl rfl ?_
   refine rw_ev (v := .bool false) (ev_lb1 (off := 1) (fun _ h => h ▸ b297) rfl one_4 rfl) rfl rfl rfl ?_
   refine rw_ev (ev_assign rfl) rfl rfl rfl ?_
   refine rw_nil ?_
   refine nw_seq ?_
   refine cw_seq ?_
   refine cw_region ?_
   refine rw_ev (ev_move rfl) rfl rfl rfl ?_
   refine rw_ev (v := .agg #[.int .i64 ((pickI c.1 (16 : Int)) - 8), .int .i64 ((pickI c.2 (16 : Int)) - 8)]) (ev_lbk (off := 0) (vs := [.int .i64 ((pickI c.1 (16 : Int)) - 8), .int .i64 ((pickI c.2 (16 : Int)) - 8)]) (fun _ h => h ▸ b292) rfl agg_55 rfl rfl) rfl rfl rfl ?_
   refine rw_ev (ev_move rfl) rfl rfl rfl ?_
   refine rw_op (op_fn (xs := [.tmp 112, .tmp 113, .tmp 114]) ent_61 rfl (c_cwith w306 xv xl (Sl.below f16) ((pickI c.1 (16 : Int)) - 8, (pickI c.2 (16 : Int)) - 8) false)) rfl rfl rfl ?_
   rintro _ w309 ⟨u308, rfl, k310, sl311⟩
   replace K0 := Ex.trans K0 k310
   replace f15 := f15.ex k310
   replace f16 := f16.ex k310
   replace sl21 := sl21.ex k310
   replace b26 := b26.ex k310
   replace b245 := b245.ex k310
   replace b292 := b292.ex k310
   replace b297 := b297.ex k310
   have zw309 := k310.size
   refine rw_ev (ev_move rfl) rfl rfl rfl ?_
   refine rw_ev (ev_extract (vs := #[u308, .int .i64 ((withC xl ((pickI c.1 (16 : Int)) - 8, (pickI c.2 (16 : Int)) - 8) false).2)]) rfl rfl) rfl rfl rfl ?_
   refine rw_ev (ev_extract (vs := #[u308, .int .i64 ((withC xl ((pickI c.1 (16 : Int)) - 8, (pickI c.2 (16 : Int)) - 8) false).2)]) rfl rfl) rfl rfl rfl ?_
   refine rw_ev (ev_assign rfl) rfl rfl rfl ?_
   refine rw_ev (ev_assign rfl) rfl rfl rfl ?_
   refine rw_nil ?_
   refine nw_seq ?_
   refine cw_seq ?_
   refine cw_region ?_
   refine rw_ev (ev_move rfl) rfl rfl rfl ?_
   refine rw_ev (v := .agg #[.int .i64 ((pickI c.1 (16 : Int)) - 8), .int .i64 ((pickI c.2 (16 : Int)) - 8)]) (ev_lbk (off := 0) (vs := [.int .i64 ((pickI c.1 (16 : Int)) - 8), .int .i64 ((pickI c.2 (16 : Int)) - 8)]) (fun _ h => h ▸ b292) rfl agg_55 rfl rfl) rfl rfl rfl ?_
   refine rw_ev (ev_move rfl) rfl rfl rfl ?_
   refine rw_op (op_fn (xs := [.tmp 119, .tmp 120, .tmp 121]) ent_62 rfl (c_with w309 xv xl (Sl.below f16) ((pickI c.1 (16 : Int)) - 8, (pickI c.2 (16 : Int)) - 8) false)) rfl rfl rfl ?_
   rintro _ w313 ⟨u312, rfl, k314, sl315⟩
   replace K0 := Ex.trans K0 k314
   replace f15 := f15.ex k314
   replace f16 := f16.ex k314
   replace sl21 := sl21.ex k314
   replace b26 := b26.ex k314
   replace b245 := b245.ex k314
   replace b292 := b292.ex k314
   replace b297 := b297.ex k314
   replace sl311 := sl311.ex k314
   have zw313 := k314.size
   refine rw_ev (ev_move rfl) rfl rfl rfl ?_
   refine rw_ev (ev_extract (vs := #[u312, .int .i64 ((withC xl ((pickI c.1 (16 : Int)) - 8, (pickI c.2 (16 : Int)) - 8) false).2)]) rfl rfl) rfl rfl rfl ?_
   refine rw_ev (ev_extract (vs := #[u312, .int .i64 ((withC xl ((pickI c.1 (16 : Int)) - 8, (pickI c.2 (16 : Int)) - 8) false).2)]) rfl rfl) rfl rfl rfl ?_
   refine rw_ev (ev_assign rfl) rfl rfl rfl ?_
   refine rw_ev (ev_assign rfl) rfl rfl rfl ?_
   refine rw_nil ?_
   refine nw_seq ?_
   refine cw_seq ?_
   refine cw_region ?_
   refine rw_ev (ev_move rfl) rfl rfl rfl ?_
   refine rw_ev (ev_move rfl) rfl rfl rfl ?_
   refine rw_op (op_fn (xs := [.tmp 125, .tmp 126]) ent_37 rfl (c_same w313 u308 ((withC xl ((pickI c.1 (16 : Int)) - 8, (pickI c.2 (16 : Int)) - 8) false).1) (Sl.below sl311) u312 ((withC xl ((pickI c.1 (16 : Int)) - 8, (pickI c.2 (16 : Int)) - 8) false).1) (Sl.below sl315))) rfl rfl rfl ?_
   rintro _ w316 ⟨rfl, k317⟩
   replace K0 := Ex.trans K0 k317
   replace f15 := f15.ex k317
   replace f16 := f16.ex k317
   replace sl21 := sl21.ex k317
   replace b26 := b26.ex k317
   replace b245 := b245.ex k317
   replace b292 := b292.ex k317
   replace b297 := b297.ex k317
   replace sl311 := sl311.ex k317
   replace sl315 := sl315.ex k317
   have zw316 := k317.size
   refine rw_ev (ev_not (b := sameC ((withC xl ((pickI c.1 (16 : Int)) - 8, (pickI c.2 (16 : Int)) - 8) false).1) ((withC xl ((pickI c.1 (16 : Int)) - 8, (pickI c.2 (16 : Int)) - 8) false).1)) rfl rfl) rfl rfl rfl ?_
   refine rw_ev (ev_move rfl) rfl rfl rfl ?_
   refine rw_ev (ev_move rfl) (gd_ff rfl (not_f (by exact same_self _))) rfl rfl ?_
   refine rw_ev (ev_move rfl) (gd_ff rfl (not_f (by exact same_self _))) rfl rfl ?_
   refine rw_ev (ev_ne rfl rfl) (gd_ff rfl (not_f (by exact same_self _))) rfl rfl ?_
   refine rw_ev (ev_pk_f (b := !(sameC ((withC xl ((pickI c.1 (16 : Int)) - 8, (pickI c.2 (16 : Int)) - 8) false).1) ((withC xl ((pickI c.1 (16 : Int)) - 8, (pickI c.2 (16 : Int)) - 8) false).1))) rfl (not_f (by exact same_self _)) rfl) rfl rfl rfl ?_
   refine rw_nil ?_
   refine nw_seq ?_
   refine cw_f (b := decide (((withC xl ((pickI c.1 (16 : Int)) - 8, (pickI c.2 (16 : Int)) - 8) false).2) ≠ ((withC xl ((pickI c.1 (16 : Int)) - 8, (pickI c.2 (16 : Int)) - 8) false).2))) rfl (dec_f (fun h_ => h_ rfl)) ?_
   refine cw_skip ?_
   refine nw_block ?_
   refine nw_seq ?_
   refine cw_region ?_
   refine rw_ev (v := .int .i64 2) (ev_add (p := 1) (q := 1) rfl rfl (by decide)) rfl rfl rfl ?_
   refine rw_ev (v := .int .i64 2) (ev_move rfl) rfl rfl rfl ?_
   refine rw_nil ?_
   refine nw_again ?_
   refine cw_sub (e' := [(3, .int .i64 dx), (4, .int .i64 dy), (7, .pointer (some ⟨g1, 0, none⟩)), (10, .bool false), (11, .bool true), (39, .slice (some ⟨g22, 0, none⟩) 2 2), (40, .int .i64 2), (41, .int .i64 1), (14, xv), (101, .int .i64 1), (99, .slice (some ⟨g241, 0, none⟩) 2 2), (100, .int .i64 2), (24, .pointer (some ⟨g285, 0, none⟩)), (105, .slice (some ⟨g293, 0, none⟩) 2 2), (106, .int .i64 2), (107, .int .i64 2)]) (Sub.cons rfl (Sub.cons rfl (Sub.cons rfl (Sub.cons rfl (Sub.cons rfl (Sub.cons rfl (Sub.cons rfl (Sub.cons rfl (Sub.cons rfl (Sub.cons rfl (Sub.cons rfl (Sub.cons rfl (Sub.cons rfl (Sub.cons rfl (Sub.cons rfl (Sub.cons rfl Sub.nil)))))))))))))))) ?_
   refine cw_seq ?_
   refine cw_region ?_
   refine rw_ev (v := .bool false) (ev_lss (p := 2) (q := 2) rfl rfl) rfl rfl rfl ?_
   refine rw_nil ?_
   refine nw_seq ?_
   refine cw_seq ?_
   refine cw_f (b := false) rfl rfl ?_
   refine cw_exit ?_
   refine xw_seq ?_
   refine xw_again ?_
   refine xw_hit ?_
   refine nw_seq ?_
   refine cw_seq ?_
   refine cw_drawn (fun w318 w_ => Ex w318 w_) [] (.take 0 (.take 1 (.take 3 (.take 4 (.one 2 (.one 5 (.take 6 .done))))))) mixed (by kernel_rfl) (by kernel_rfl) (Nat.le_of_ble_eq_true (by kernel_rfl)) ?_; intro w318 k319 hs_
   replace K0 := Ex.trans K0 k319
   replace f15 := f15.ex k319
   replace f16 := f16.ex k319
   replace sl21 := sl21.ex k319
   replace b26 := b26.ex k319
   replace b245 := b245.ex k319
   replace b292 := b292.ex k319
   have zw318 := k319.size
   have hS : (fun w_ => Ex w318 w_) w318 := Kp.refl _ _
   refine rp_take hs_ hS rfl rfl (ev_move rfl) rfl rfl rfl ?_
   refine rp_take (v := .agg #[.int .i64 ((pickI c.1 (16 : Int)) - 8), .int .i64 ((pickI c.2 (16 : Int)) - 8)]) hs_ hS rfl rfl (ev_lbk (off := 0) (vs := [.int .i64 ((pickI c.1 (16 : Int)) - 8), .int .i64 ((pickI c.2 (16 : Int)) - 8)]) (fun _ h => b292.ex h) rfl agg_55 rfl rfl) rfl rfl rfl ?_
   refine rp_take hs_ hS rfl rfl (ev_move rfl) rfl rfl rfl ?_
   refine rp_take (v := .agg #[.int .i64 ((pickI c.1 (16 : Int)) - 8), .int .i64 ((pickI c.2 (16 : Int)) - 8)]) hs_ hS rfl rfl (ev_lbk (off := 0) (vs := [.int .i64 ((pickI c.1 (16 : Int)) - 8), .int .i64 ((pickI c.2 (16 : Int)) - 8)]) (fun _ h => b292.ex h) rfl agg_55 rfl rfl) rfl rfl rfl ?_
   refine rp_up (up_op rfl (op_fn (xs := [.tmp 135, .tmp 136]) ent_63 rfl (c_chas w318 xv xl (Sl.below (f16.ex hS)) ((pickI c.1 (16 : Int)) - 8, (pickI c.2 (16 : Int)) - 8))) rfl rfl rfl ?_)
   rintro _ w320 ⟨rfl, k321⟩
   replace K0 := Ex.trans K0 k321
   replace hS := Ex.trans hS k321
   have zw320 := k321.size
   refine ⟨(fun _ => hS), ?_⟩
   refine rp_up (up_op rfl (op_fn (xs := [.tmp 138, .tmp 139]) ent_55 rfl (c_has w320 xv xl (Sl.below (f16.ex hS)) ((pickI c.1 (16 : Int)) - 8, (pickI c.2 (16 : Int)) - 8))) rfl rfl rfl ?_)
   rintro _ w322 ⟨rfl, k323⟩
   replace K0 := Ex.trans K0 k323
   replace hS := Ex.trans hS k323
   have zw322 := k323.size
   refine ⟨(fun _ => hS), ?_⟩
   refine rp_take hs_ hS rfl rfl (ev_neb bool_4 rfl rfl) rfl rfl rfl ?_
   refine rp_done ?_
   clear hs_
   replace f15 := f15.ex hS
   replace f16 := f16.ex hS
   replace sl21 := sl21.ex hS
   replace b26 := b26.ex hS
   replace b245 := b245.ex hS
   replace b292 := b292.ex hS
   refine nw_seq ?_
   refine cw_f (b := decide ((hasC xl ((pickI c.1 (16 : Int)) - 8, (pickI c.2 (16 : Int)) - 8)) ≠ (hasC xl ((pickI c.1 (16 : Int)) - 8, (pickI c.2 (16 : Int)) - 8)))) rfl (dec_f (fun h_ => h_ rfl)) ?_
   refine cw_skip ?_
   refine nw_block ?_
   refine nw_seq ?_
   refine cw_region ?_
   refine rw_ev (v := .int .i64 2) (ev_add (p := 1) (q := 1) rfl rfl (by decide)) rfl rfl rfl ?_
   refine rw_ev (v := .int .i64 2) (ev_move rfl) rfl rfl rfl ?_
   refine rw_nil ?_
   refine nw_again ?_
   refine cw_sub (e' := [(3, .int .i64 dx), (4, .int .i64 dy), (7, .pointer (some ⟨g1, 0, none⟩)), (10, .bool false), (11, .bool true), (39, .slice (some ⟨g22, 0, none⟩) 2 2), (40, .int .i64 2), (41, .int .i64 1), (14, xv), (101, .int .i64 2), (99, .slice (some ⟨g241, 0, none⟩) 2 2), (100, .int .i64 2)]) (Sub.cons rfl (Sub.cons rfl (Sub.cons rfl (Sub.cons rfl (Sub.cons rfl (Sub.cons rfl (Sub.cons rfl (Sub.cons rfl (Sub.cons rfl (Sub.cons rfl (Sub.cons rfl (Sub.cons rfl Sub.nil)))))))))))) ?_
   refine cw_seq ?_
   refine cw_region ?_
   refine rw_ev (v := .bool false) (ev_lss (p := 2) (q := 2) rfl rfl) rfl rfl rfl ?_
   refine rw_nil ?_
   refine nw_seq ?_
   refine cw_seq ?_
   refine cw_f (b := false) rfl rfl ?_
   refine cw_exit ?_
   refine xw_seq ?_
   refine xw_again ?_
   refine xw_hit ?_
   refine nw_seq ?_
   refine cw_seq ?_
   refine cw_region ?_
   refine rw_ev (ev_move rfl) rfl rfl rfl ?_
   refine rw_ev (ev_move rfl) rfl rfl rfl ?_
   refine rw_ev (v := .agg #[.int .i64 dx, .int .i64 dy]) (ev_pure rfl rfl (fun _ => by kernel_rfl)) rfl rfl rfl ?_
   refine rw_ev (ev_move rfl) rfl rfl rfl ?_
   refine rw_op (op_fn (xs := [.tmp 146, .const (.int .i64 40)]) ent_60 rfl (c_pick60 w322 dx (40 : Int) (by omega) (by omega))) rfl rfl rfl ?_
   rintro _ w324 ⟨rfl, k325, pr326⟩
   replace K0 := Ex.trans K0 k325
   replace f15 := f15.ex k325
   replace f16 := f16.ex k325
   replace sl21 := sl21.ex k325
   replace b26 := b26.ex k325
   have zw324 := k325.size
   refine rw_ev (ev_move rfl) rfl rfl rfl ?_
   refine rw_op (op_fn (xs := [.tmp 148, .const (.int .i64 40)]) ent_60 rfl (c_pick60 w324 dy (40 : Int) (by omega) (by omega))) rfl rfl rfl ?_
   rintro _ w327 ⟨rfl, k328, pr329⟩
   replace K0 := Ex.trans K0 k328
   replace f15 := f15.ex k328
   replace f16 := f16.ex k328
   replace sl21 := sl21.ex k328
   replace b26 := b26.ex k328
   have zw327 := k328.size
   refine rw_ev (ev_neg rfl (by omega)) rfl rfl rfl ?_
   refine rw_ev (v := .agg #[.int .i64 (pickI dx (40 : Int)), .int .i64 (-(pickI dy (40 : Int)))]) (ev_pure rfl rfl (fun _ => by kernel_rfl)) rfl rfl rfl ?_
   refine rw_op (op_buildSlice (E := 45) (m := 2) (pv := #[(0, .agg #[.int .i64 dx, .int .i64 dy]), (1, .agg #[.int .i64 (pickI dx (40 : Int)), .int .i64 (-(pickI dy (40 : Int)))])]) (cs := #[.int .i64 dx, .int .i64 dy, .int .i64 (pickI dx (40 : Int)), .int .i64 (-(pickI dy (40 : Int)))]) rfl (fun _ => by kernel_rfl)) rfl rfl rfl ?_
   rintro _ w331 ⟨g330, rfl, hg332, k333, b334⟩
   replace K0 := Ex.trans K0 k333
   replace f15 := f15.ex k333
   replace f16 := f16.ex k333
   replace sl21 := sl21.ex k333
   replace b26 := b26.ex k333
   have zw331 := k333.size
   have lg330 := b334.lt
   refine rw_ev (v := .int .i64 2) (ev_pure rfl rfl (fun _ => by kernel_rfl)) rfl rfl rfl ?_
   refine rw_ev (ev_move rfl) rfl rfl rfl ?_
   refine rw_nil ?_
   refine nw_seq ?_
   refine cw_block ?_
   refine cw_rounds 2 ?_
   refine cw_seq ?_
   refine cw_region ?_
   refine rw_ev (v := .bool true) (ev_lss (p := 0) (q := 2) rfl rfl) rfl rfl rfl ?_
   refine rw_nil ?_
   refine nw_seq ?_
   refine cw_seq ?_
   refine cw_t (b := true) rfl rfl ?_
   refine cw_skip ?_
   refine nw_seq ?_
   refine cw_seq ?_
   refine cw_block ?_
   refine cw_seq ?_
   refine cw_region ?_
   refine rw_ev (v := .pointer (some ⟨g330, 0, none⟩)) (ev_litAt (i := 0) rfl rfl el_23 (by decide) 0 rfl) rfl rfl rfl ?_
   refine rw_ev (v := .agg #[.int .i64 dx, .int .i64 dy]) (ev_lbk (off := 0) (vs := [.int .i64 dx, .int .i64 dy]) (fun _ h => h ▸ b334) rfl agg_45 rfl rfl) rfl rfl rfl ?_
   refine rw_op (op_alloc zero_45) rfl rfl rfl ?_
   rintro _ w336 ⟨g335, rfl, hg337, k338, b339⟩
   replace K0 := Ex.trans K0 k338
   replace f15 := f15.ex k338
   replace f16 := f16.ex k338
   replace sl21 := sl21.ex k338
   replace b26 := b26.ex k338
   replace b334 := b334.ex k338
   have zw336 := k338.size
   have lg335 := b339.lt
   refine rw_none (op_store (off := 0) (v := .agg #[.int .i64 dx, .int .i64 dy]) (cs' := #[.int .i64 dx, .int .i64 dy]) b339 rfl rfl size_45 rfl (Nat.le_of_ble_eq_true rfl) (one_cons rfl (one_cons rfl one_nil)) rfl) rfl rfl ?_
   rintro _ w340 ⟨k341, b342⟩
   replace K0 := Ex.kp_new K0 k341 (fun _ h => h ▸ Nat.le_trans (Nat.le_trans zw2 (Nat.le_trans zw6 (Nat.le_trans z12 (Nat.le_trans zw19 (Nat.le_trans zw23 (Nat.le_trans zw28 (Nat.le_trans zw32 (Nat.le_trans zw35 (Nat.le_trans zw37 (Nat.le_trans zw39 (Nat.le_trans zw41 (Nat.le_trans zw44 (Nat.le_trans zw48 (Nat.le_trans zw51 (Nat.le_trans zw54 (Nat.le_trans zw58 (Nat.le_trans zw61 (Nat.le_trans zw63 (Nat.le_trans zw66 (Nat.le_trans zw70 (Nat.le_trans zw75 (Nat.le_trans zw79 (Nat.le_trans zw83 (Nat.le_trans zw88 (Nat.le_trans zw92 (Nat.le_trans zw95 (Nat.le_trans zw98 (Nat.le_trans zw102 (Nat.le_trans zw105 (Nat.le_trans zw107 (Nat.le_trans zw109 (Nat.le_trans zw111 (Nat.le_trans zw114 (Nat.le_trans zw118 (Nat.le_trans zw122 (Nat.le_trans zw127 (Nat.le_trans zw131 (Nat.le_trans zw134 (Nat.le_trans zw137 (Nat.le_trans zw141 (Nat.le_trans zw144 (Nat.le_trans zw146 (Nat.le_trans zw148 (Nat.le_trans zw150 (Nat.le_trans zw152 (Nat.le_trans zw155 (Nat.le_trans zw159 (Nat.le_trans zw164 (Nat.le_trans zw168 (Nat.le_trans zw172 (Nat.le_trans zw176 (Nat.le_trans zw179 (Nat.le_trans zw182 (Nat.le_trans zw186 (Nat.le_trans zw190 (Nat.le_trans zw194 (Nat.le_trans zw197 (Nat.le_trans zw200 (Nat.le_trans zw204 (Nat.le_trans zw207 (Nat.le_trans zw209 (Nat.le_trans zw211 (Nat.le_trans zw213 (Nat.le_trans zw216 (Nat.le_trans zw220 (Nat.le_trans zw223 (Nat.le_trans zw226 (Nat.le_trans zw230 (Nat.le_trans zw233 (Nat.le_trans zw235 (Nat.le_trans zw238 (Nat.le_trans zw242 (Nat.le_trans zw247 (Nat.le_trans zw251 (Nat.le_trans zw255 (Nat.le_trans zw260 (Nat.le_trans zw264 (Nat.le_trans zw267 (Nat.le_trans zw270 (Nat.le_trans zw274 (Nat.le_trans zw277 (Nat.le_trans zw279 (Nat.le_trans zw281 (Nat.le_trans zw283 (Nat.le_trans zw286 (Nat.le_trans zw290 (Nat.le_trans zw294 (Nat.le_trans zw299 (Nat.le_trans zw303 (Nat.le_trans zw306 (Nat.le_trans zw309 (Nat.le_trans zw313 (Nat.le_trans zw316 (Nat.le_trans zw318 (Nat.le_trans zw320 (Nat.le_trans zw322 (Nat.le_trans zw324 (Nat.le_trans zw327 zw331)))))))))))))))))))))))))))))))))))))))))))))))))))))))))))))))))))))))))))))))))))))))))))))))))) hg337)
   replace f15 := f15.kp k341 (Nat.ne_of_lt (Nat.lt_of_lt_of_le lg1 (Nat.le_trans (Nat.le_trans zw6 (Nat.le_trans z12 (Nat.le_trans zw19 (Nat.le_trans zw23 (Nat.le_trans zw28 (Nat.le_trans zw32 (Nat.le_trans zw35 (Nat.le_trans zw37 (Nat.le_trans zw39 (Nat.le_trans zw41 (Nat.le_trans zw44 (Nat.le_trans zw48 (Nat.le_trans zw51 (Nat.le_trans zw54 (Nat.le_trans zw58 (Nat.le_trans zw61 (Nat.le_trans zw63 (Nat.le_trans zw66 (Nat.le_trans zw70 (Nat.le_trans zw75 (Nat.le_trans zw79 (Nat.le_trans zw83 (Nat.le_trans zw88 (Nat.le_trans zw92 (Nat.le_trans zw95 (Nat.le_trans zw98 (Nat.le_trans zw102 (Nat.le_trans zw105 (Nat.le_trans zw107 (Nat.le_trans zw109 (Nat.le_trans zw111 (Nat.le_trans zw114 (Nat.le_trans zw118 (Nat.le_trans zw122 (Nat.le_trans zw127 (Nat.le_trans zw131 (Nat.le_trans zw134 (Nat.le_trans zw137 (Nat.le_trans zw141 (Nat.le_trans zw144 (Nat.le_trans zw146 (Nat.le_trans zw148 (Nat.le_trans zw150 (Nat.le_trans zw152 (Nat.le_trans zw155 (Nat.le_trans zw159 (Nat.le_trans zw164 (Nat.le_trans zw168 (Nat.le_trans zw172 (Nat.le_trans zw176 (Nat.le_trans zw179 (Nat.le_trans zw182 (Nat.le_trans zw186 (Nat.le_trans zw190 (Nat.le_trans zw194 (Nat.le_trans zw197 (Nat.le_trans zw200 (Nat.le_trans zw204 (Nat.le_trans zw207 (Nat.le_trans zw209 (Nat.le_trans zw211 (Nat.le_trans zw213 (Nat.le_trans zw216 (Nat.le_trans zw220 (Nat.le_trans zw223 (Nat.le_trans zw226 (Nat.le_trans zw230 (Nat.le_trans zw233 (Nat.le_trans zw235 (Nat.le_trans zw238 (Nat.le_trans zw242 (Nat.le_trans zw247 (Nat.le_trans zw251 (Nat.le_trans zw255 (Nat.le_trans zw260 (Nat.le_trans zw264 (Nat.le_trans zw267 (Nat.le_trans zw270 (Nat.le_trans zw274 (Nat.le_trans zw277 (Nat.le_trans zw279 (Nat.le_trans zw281 (Nat.le_trans zw283 (Nat.le_trans zw286 (Nat.le_trans zw290 (Nat.le_trans zw294 (Nat.le_trans zw299 (Nat.le_trans zw303 (Nat.le_trans zw306 (Nat.le_trans zw309 (Nat.le_trans zw313 (Nat.le_trans zw316 (Nat.le_trans zw318 (Nat.le_trans zw320 (Nat.le_trans zw322 (Nat.le_trans zw324 (Nat.le_trans zw327 zw331))))))))))))))))))))))))))))))))))))))))))))))))))))))))))))))))))))))))))))))))))))))))))))))))) hg337)))
   replace f16 := f16.kp k341 (fun b h e => Nat.lt_irrefl _ (Nat.lt_of_lt_of_le (show g335 < _ from e ▸ (show b < _ from h)) (Nat.le_trans (Nat.le_trans zw2 (Nat.le_trans zw6 (Nat.le_trans z12 (Nat.le_trans zw19 (Nat.le_trans zw23 (Nat.le_trans zw28 (Nat.le_trans zw32 (Nat.le_trans zw35 (Nat.le_trans zw37 (Nat.le_trans zw39 (Nat.le_trans zw41 (Nat.le_trans zw44 (Nat.le_trans zw48 (Nat.le_trans zw51 (Nat.le_trans zw54 (Nat.le_trans zw58 (Nat.le_trans zw61 (Nat.le_trans zw63 (Nat.le_trans zw66 (Nat.le_trans zw70 (Nat.le_trans zw75 (Nat.le_trans zw79 (Nat.le_trans zw83 (Nat.le_trans zw88 (Nat.le_trans zw92 (Nat.le_trans zw95 (Nat.le_trans zw98 (Nat.le_trans zw102 (Nat.le_trans zw105 (Nat.le_trans zw107 (Nat.le_trans zw109 (Nat.le_trans zw111 (Nat.le_trans zw114 (Nat.le_trans zw118 (Nat.le_trans zw122 (Nat.le_trans zw127 (Nat.le_trans zw131 (Nat.le_trans zw134 (Nat.le_trans zw137 (Nat.le_trans zw141 (Nat.le_trans zw144 (Nat.le_trans zw146 (Nat.le_trans zw148 (Nat.le_trans zw150 (Nat.le_trans zw152 (Nat.le_trans zw155 (Nat.le_trans zw159 (Nat.le_trans zw164 (Nat.le_trans zw168 (Nat.le_trans zw172 (Nat.le_trans zw176 (Nat.le_trans zw179 (Nat.le_trans zw182 (Nat.le_trans zw186 (Nat.le_trans zw190 (Nat.le_trans zw194 (Nat.le_trans zw197 (Nat.le_trans zw200 (Nat.le_trans zw204 (Nat.le_trans zw207 (Nat.le_trans zw209 (Nat.le_trans zw211 (Nat.le_trans zw213 (Nat.le_trans zw216 (Nat.le_trans zw220 (Nat.le_trans zw223 (Nat.le_trans zw226 (Nat.le_trans zw230 (Nat.le_trans zw233 (Nat.le_trans zw235 (Nat.le_trans zw238 (Nat.le_trans zw242 (Nat.le_trans zw247 (Nat.le_trans zw251 (Nat.le_trans zw255 (Nat.le_trans zw260 (Nat.le_trans zw264 (Nat.le_trans zw267 (Nat.le_trans zw270 (Nat.le_trans zw274 (Nat.le_trans zw277 (Nat.le_trans zw279 (Nat.le_trans zw281 (Nat.le_trans zw283 (Nat.le_trans zw286 (Nat.le_trans zw290 (Nat.le_trans zw294 (Nat.le_trans zw299 (Nat.le_trans zw303 (Nat.le_trans zw306 (Nat.le_trans zw309 (Nat.le_trans zw313 (Nat.le_trans zw316 (Nat.le_trans zw318 (Nat.le_trans zw320 (Nat.le_trans zw322 (Nat.le_trans zw324 (Nat.le_trans zw327 zw331)))))))))))))))))))))))))))))))))))))))))))))))))))))))))))))))))))))))))))))))))))))))))))))))))) hg337)))
   replace sl21 := sl21.kp k341 (fun b h e => Nat.lt_irrefl _ (Nat.lt_of_lt_of_le (show g335 < _ from e ▸ (show b < _ from h.2)) (Nat.le_trans (Nat.le_trans zw23 (Nat.le_trans zw28 (Nat.le_trans zw32 (Nat.le_trans zw35 (Nat.le_trans zw37 (Nat.le_trans zw39 (Nat.le_trans zw41 (Nat.le_trans zw44 (Nat.le_trans zw48 (Nat.le_trans zw51 (Nat.le_trans zw54 (Nat.le_trans zw58 (Nat.le_trans zw61 (Nat.le_trans zw63 (Nat.le_trans zw66 (Nat.le_trans zw70 (Nat.le_trans zw75 (Nat.le_trans zw79 (Nat.le_trans zw83 (Nat.le_trans zw88 (Nat.le_trans zw92 (Nat.le_trans zw95 (Nat.le_trans zw98 (Nat.le_trans zw102 (Nat.le_trans zw105 (Nat.le_trans zw107 (Nat.le_trans zw109 (Nat.le_trans zw111 (Nat.le_trans zw114 (Nat.le_trans zw118 (Nat.le_trans zw122 (Nat.le_trans zw127 (Nat.le_trans zw131 (Nat.le_trans zw134 (Nat.le_trans zw137 (Nat.le_trans zw141 (Nat.le_trans zw144 (Nat.le_trans zw146 (Nat.le_trans zw148 (Nat.le_trans zw150 (Nat.le_trans zw152 (Nat.le_trans zw155 (Nat.le_trans zw159 (Nat.le_trans zw164 (Nat.le_trans zw168 (Nat.le_trans zw172 (Nat.le_trans zw176 (Nat.le_trans zw179 (Nat.le_trans zw182 (Nat.le_trans zw186 (Nat.le_trans zw190 (Nat.le_trans zw194 (Nat.le_trans zw197 (Nat.le_trans zw200 (Nat.le_trans zw204 (Nat.le_trans zw207 (Nat.le_trans zw209 (Nat.le_trans zw211 (Nat.le_trans zw213 (Nat.le_trans zw216 (Nat.le_trans zw220 (Nat.le_trans zw223 (Nat.le_trans zw226 (Nat.le_trans zw230 (Nat.le_trans zw233 (Nat.le_trans zw235 (Nat.le_trans zw238 (Nat.le_trans zw242 (Nat.le_trans zw247 (Nat.le_trans zw251 (Nat.le_trans zw255 (Nat.le_trans zw260 (Nat.le_trans zw264 (Nat.le_trans zw267 (Nat.le_trans zw270 (Nat.le_trans zw274 (Nat.le_trans zw277 (Nat.le_trans zw279 (Nat.le_trans zw281 (Nat.le_trans zw283 (Nat.le_trans zw286 (Nat.le_trans zw290 (Nat.le_trans zw294 (Nat.le_trans zw299 (Nat.le_trans zw303 (Nat.le_trans zw306 (Nat.le_trans zw309 (Nat.le_trans zw313 (Nat.le_trans zw316 (Nat.le_trans zw318 (Nat.le_trans zw320 (Nat.le_trans zw322 (Nat.le_trans zw324 (Nat.le_trans zw327 zw331)))))))))))))))))))))))))))))))))))))))))))))))))))))))))))))))))))))))))))))))))))))))))))))) hg337)))
   replace b26 := b26.kp k341 (Nat.ne_of_lt (Nat.lt_of_lt_of_le lg22 (Nat.le_trans (Nat.le_trans zw28 (Nat.le_trans zw32 (Nat.le_trans zw35 (Nat.le_trans zw37 (Nat.le_trans zw39 (Nat.le_trans zw41 (Nat.le_trans zw44 (Nat.le_trans zw48 (Nat.le_trans zw51 (Nat.le_trans zw54 (Nat.le_trans zw58 (Nat.le_trans zw61 (Nat.le_trans zw63 (Nat.le_trans zw66 (Nat.le_trans zw70 (Nat.le_trans zw75 (Nat.le_trans zw79 (Nat.le_trans zw83 (Nat.le_trans zw88 (Nat.le_trans zw92 (Nat.le_trans zw95 (Nat.le_trans zw98 (Nat.le_trans zw102 (Nat.le_trans zw105 (Nat.le_trans zw107 (Nat.le_trans zw109 (Nat.le_trans zw111 (Nat.le_trans zw114 (Nat.le_trans zw118 (Nat.le_trans zw122 (Nat.le_trans zw127 (Nat.le_trans zw131 (Nat.le_trans zw134 (Nat.le_trans zw137 (Nat.le_trans zw141 (Nat.le_trans zw144 (Nat.le_trans zw146 (Nat.le_trans zw148 (Nat.le_trans zw150 (Nat.le_trans zw152 (Nat.le_trans zw155 (Nat.le_trans zw159 (Nat.le_trans zw164 (Nat.le_trans zw168 (Nat.le_trans zw172 (Nat.le_trans zw176 (Nat.le_trans zw179 (Nat.le_trans zw182 (Nat.le_trans zw186 (Nat.le_trans zw190 (Nat.le_trans zw194 (Nat.le_trans zw197 (Nat.le_trans zw200 (Nat.le_trans zw204 (Nat.le_trans zw207 (Nat.le_trans zw209 (Nat.le_trans zw211 (Nat.le_trans zw213 (Nat.le_trans zw216 (Nat.le_trans zw220 (Nat.le_trans zw223 (Nat.le_trans zw226 (Nat.le_trans zw230 (Nat.le_trans zw233 (Nat.le_trans zw235 (Nat.le_trans zw238 (Nat.le_trans zw242 (Nat.le_trans zw247 (Nat.le_trans zw251 (Nat.le_trans zw255 (Nat.le_trans zw260 (Nat.le_trans zw264 (Nat.le_trans zw267 (Nat.le_trans zw270 (Nat.le_trans zw274 (Nat.le_trans zw277 (Nat.le_trans zw279 (Nat.le_trans zw281 (Nat.le_trans zw283 (Nat.le_trans zw286 (Nat.le_trans zw290 (Nat.le_trans zw294 (Nat.le_trans zw299 (Nat.le_trans zw303 (Nat.le_trans zw306 (Nat.le_trans zw309 (Nat.le_trans zw313 (Nat.le_trans zw316 (Nat.le_trans zw318 (Nat.le_trans zw320 (Nat.le_trans zw322 (Nat.le_trans zw324 (Nat.le_trans zw327 zw331))))))))))))))))))))))))))))))))))))))))))))))))))))))))))))))))))))))))))))))))))))))))))))) hg337)))
   replace b334 := b334.kp k341 (Nat.ne_of_lt (Nat.lt_of_lt_of_le lg330 (Nat.le_trans (Nat.le_refl _) hg337)))
   have zw340 := k341.size
   refine rw_nil ?_
   refine nw_seq ?_
   refine cw_seq ?_
   refine cw_region ?_
   refine rw_ev (ev_move rfl) rfl rfl rfl ?_
   refine rw_ev (v := .pointer (some ⟨g335, 0, none⟩)) (ev_arrAt (i := 0) (m := 2) (k := 1) rfl rfl arr_45 (by omega)) rfl rfl rfl ?_
   refine rw_ev (v := .int .i64 dx) (ev_lb1 (off := 0) (fun _ h => h ▸ b342) rfl one_3 rfl) rfl rfl rfl ?_
   refine rw_ev (v := .pointer (some ⟨g335, 1, none⟩)) (ev_arrAt (i := 1) (m := 2) (k := 1) rfl rfl arr_45 (by omega)) rfl rfl rfl ?_
   refine rw_ev (v := .int .i64 dy) (ev_lb1 (off := 1) (fun _ h => h ▸ b342) rfl one_3 rfl) rfl rfl rfl ?_
   refine rw_op (op_fn (xs := [.tmp 159, .tmp 161, .tmp 163]) ent_64 rfl (c_cshift w340 xv xl (Sl.below f16) dx dy (by omega) (by omega))) rfl rfl rfl ?_
   rintro _ w344 ⟨u343, rfl, k345, sl346⟩
   replace K0 := Ex.trans K0 k345
   replace f15 := f15.ex k345
   replace f16 := f16.ex k345
   replace sl21 := sl21.ex k345
   replace b26 := b26.ex k345
   replace b334 := b334.ex k345
   replace b342 := b342.ex k345
   have zw344 := k345.size
   refine rw_ev (ev_move rfl) rfl rfl rfl ?_
   refine rw_ev (ev_extract rfl rfl) rfl rfl rfl ?_
   refine rw_ev (ev_extract rfl rfl) rfl rfl rfl ?_
   refine rw_ev (ev_assign rfl) rfl rfl rfl ?_
   refine rw_ev (ev_assign rfl) rfl rfl rfl ?_
   refine rw_nil ?_
   refine nw_seq ?_
   refine cw_seq ?_
   refine cw_region ?_
   refine rw_ev (ev_move rfl) rfl rfl rfl ?_
   refine rw_ev (v := .pointer (some ⟨g335, 0, none⟩)) (ev_arrAt (i := 0) (m := 2) (k := 1) rfl rfl arr_45 (by omega)) rfl rfl rfl ?_
   refine rw_ev (v := .int .i64 dx) (ev_lb1 (off := 0) (fun _ h => h ▸ b342) rfl one_3 rfl) rfl rfl rfl ?_
   refine rw_ev (v := .pointer (some ⟨g335, 1, none⟩)) (ev_arrAt (i := 1) (m := 2) (k := 1) rfl rfl arr_45 (by omega)) rfl rfl rfl ?_
   refine rw_ev (v := .int .i64 dy) (ev_lb1 (off := 1) (fun _ h => h ▸ b342) rfl one_3 rfl) rfl rfl rfl ?_
   refine rw_op (op_fn (xs := [.tmp 168, .tmp 170, .tmp 172]) ent_45 rfl (c_shift w344 xv xl (Sl.below f16) dx dy)) rfl rfl rfl ?_
   rintro _ w348 ⟨u347, rfl, k349, sl350⟩
   replace K0 := Ex.trans K0 k349
   replace f15 := f15.ex k349
   replace f16 := f16.ex k349
   replace sl21 := sl21.ex k349
   replace b26 := b26.ex k349
   replace b334 := b334.ex k349
   replace b342 := b342.ex k349
   replace sl346 := sl346.ex k349
   have zw348 := k349.size
   refine rw_ev (ev_move rfl) rfl rfl rfl ?_
   refine rw_ev (ev_extract rfl rfl) rfl rfl rfl ?_
   refine rw_ev (ev_extract rfl rfl) rfl rfl rfl ?_
   refine rw_ev (ev_assign rfl) rfl rfl rfl ?_
   refine rw_ev (ev_assign rfl) rfl rfl rfl ?_
   refine rw_nil ?_
   refine nw_seq ?_
   refine cw_seq ?_
   refine cw_region ?_
   refine rw_ev (ev_move rfl) rfl rfl rfl ?_
   refine rw_ev (ev_move rfl) rfl rfl rfl ?_
   refine rw_op (op_fn (xs := [.tmp 176, .tmp 177]) ent_37 rfl (c_same w348 u343 ((shiftC xl dx dy).1) (Sl.below sl346) u347 ((shiftC xl dx dy).1) (Sl.below sl350))) rfl rfl rfl ?_
   rintro _ w351 ⟨rfl, k352⟩
   replace K0 := Ex.trans K0 k352
   replace f15 := f15.ex k352
   replace f16 := f16.ex k352
   replace sl21 := sl21.ex k352
   replace b26 := b26.ex k352
   replace b334 := b334.ex k352
   replace sl346 := sl346.ex k352
   replace sl350 := sl350.ex k352
   have zw351 := k352.size
   refine rw_ev (ev_not rfl rfl) rfl rfl rfl ?_
   refine rw_ev (ev_move rfl) rfl rfl rfl ?_
   refine rw_ev (ev_move rfl) (gd_ff rfl (not_f (by exact same_self _))) rfl rfl ?_
   refine rw_ev (ev_move rfl) (gd_ff rfl (not_f (by exact same_self _))) rfl rfl ?_
   refine rw_ev (ev_ne rfl rfl) (gd_ff rfl (not_f (by exact same_self _))) rfl rfl ?_
   refine rw_ev (ev_pk_f rfl (not_f (by exact same_self _)) rfl) rfl rfl rfl ?_
   refine rw_nil ?_
   refine nw_seq ?_
   refine cw_f (b := decide (((shiftC xl dx dy).2) ≠ ((shiftC xl dx dy).2))) rfl (dec_f (fun h_ => h_ rfl)) ?_
   refine cw_skip ?_
   refine nw_block ?_
   refine nw_seq ?_
   refine cw_region ?_
   refine rw_ev (v := .int .i64 1) (ev_add (p := 0) (q := 1) rfl rfl (by decide)) rfl rfl rfl ?_
   refine rw_ev (v := .int .i64 1) (ev_move rfl) rfl rfl rfl ?_
   refine rw_nil ?_
   refine nw_again ?_
   refine cw_sub (e' := [(3, .int .i64 dx), (4, .int .i64 dy), (7, .pointer (some ⟨g1, 0, none⟩)), (10, .bool false), (11, .bool true), (39, .slice (some ⟨g22, 0, none⟩) 2 2), (40, .int .i64 2), (41, .int .i64 1), (14, xv), (152, .slice (some ⟨g330, 0, none⟩) 2 2), (153, .int .i64 2), (154, .int .i64 1)]) (Sub.cons rfl (Sub.cons rfl (Sub.cons rfl (Sub.cons rfl (Sub.cons rfl (Sub.cons rfl (Sub.cons rfl (Sub.cons rfl (Sub.cons rfl (Sub.cons rfl (Sub.cons rfl (Sub.cons rfl Sub.nil)))))))))))) ?_
   refine cw_seq ?_
   refine cw_region ?_
   refine rw_ev (v := .bool true) (ev_lss (p := 1) (q := 2) rfl rfl) rfl rfl rfl ?_
   refine rw_nil ?_
   refine nw_seq ?_
   refine cw_seq ?_
   refine cw_t (b := true) rfl rfl ?_
   refine cw_skip ?_
   refine nw_seq ?_
   refine cw_seq ?_
   refine cw_block ?_
   refine cw_seq ?_
   refine cw_region ?_
   refine rw_ev (v := .pointer (some ⟨g330, 2, none⟩)) (ev_litAt (i := 1) rfl rfl el_23 (by decide) 2 rfl) rfl rfl rfl ?_
   refine rw_ev (v := .agg #[.int .i64 (pickI dx (40 : Int)), .int .i64 (-(pickI dy (40 : Int)))]) (ev_lbk (off := 2) (vs := [.int .i64 (pickI dx (40 : Int)), .int .i64 (-(pickI dy (40 : Int)))]) (fun _ h => h ▸ b334) rfl agg_45 rfl rfl) rfl rfl rfl ?_
   refine rw_op (op_alloc zero_45) rfl rfl rfl ?_
   rintro _ w354 ⟨g353, rfl, hg355, k356, b357⟩
   replace K0 := Ex.trans K0 k356
   replace f15 := f15.ex k356
   replace f16 := f16.ex k356
   replace sl21 := sl21.ex k356
   replace b26 := b26.ex k356
   replace b334 := b334.ex k356
   have zw354 := k356.size
   have lg353 := b357.lt
   refine rw_none (op_store (off := 0) (v := .agg #[.int .i64 (pickI dx (40 : Int)), .int .i64 (-(pickI dy (40 : Int)))]) (cs' := #[.int .i64 (pickI dx (40 : Int)), .int .i64 (-(pickI dy (40 : Int)))]) b357 rfl rfl size_45 rfl (Nat.le_of_ble_eq_true rfl) (one_cons rfl (one_cons rfl one_nil)) rfl) rfl rfl ?_
   rintro _ w358 ⟨k359, b360⟩
   replace K0 := Ex.kp_new K0 k359 (fun _ h => h ▸ Nat.le_trans (Nat.le_trans zw2 (Nat.le_trans zw6 (Nat.le_trans z12 (Nat.le_trans zw19 (Nat.le_trans zw23 (Nat.le_trans zw28 (Nat.le_trans zw32 (Nat.le_trans zw35 (Nat.le_trans zw37 (Nat.le_trans zw39 (Nat.le_trans zw41 (Nat.le_trans zw44 (Nat.le_trans zw48 (Nat.le_trans zw51 (Nat.le_trans zw54 (Nat.le_trans zw58 (Nat.le_trans zw61 (Nat.le_trans zw63 (Nat.le_trans zw66 (Nat.le_trans zw70 (Nat.le_trans zw75 (Nat.le_trans zw79 (Nat.le_trans zw83 (Nat.le_trans zw88 (Nat.le_trans zw92 (Nat.le_trans zw95 (Nat.le_trans zw98 (Nat.le_trans zw102 (Nat.le_trans zw105 (Nat.le_trans zw107 (Nat.le_trans zw109 (Nat.le_trans zw111 (Nat.le_trans zw114 (Nat.le_trans zw118 (Nat.le_trans zw122 (Nat.le_trans zw127 (Nat.le_trans zw131 (Nat.le_trans zw134 (Nat.le_trans zw137 (Nat.le_trans zw141 (Nat.le_trans zw144 (Nat.le_trans zw146 (Nat.le_trans zw148 (Nat.le_trans zw150 (Nat.le_trans zw152 (Nat.le_trans zw155 (Nat.le_trans zw159 (Nat.le_trans zw164 (Nat.le_trans zw168 (Nat.le_trans zw172 (Nat.le_trans zw176 (Nat.le_trans zw179 (Nat.le_trans zw182 (Nat.le_trans zw186 (Nat.le_trans zw190 (Nat.le_trans zw194 (Nat.le_trans zw197 (Nat.le_trans zw200 (Nat.le_trans zw204 (Nat.le_trans zw207 (Nat.le_trans zw209 (Nat.le_trans zw211 (Nat.le_trans zw213 (Nat.le_trans zw216 (Nat.le_trans zw220 (Nat.le_trans zw223 (Nat.le_trans zw226 (Nat.le_trans zw230 (Nat.le_trans zw233 (Nat.le_trans zw235 (Nat.le_trans zw238 (Nat.le_trans zw242 (Nat.le_trans zw247 (Nat.le_trans zw251 (Nat.le_trans zw255 (Nat.le_trans zw260 (Nat.le_trans zw264 (Nat.le_trans zw267 (Nat.le_trans zw270 (Nat.le_trans zw274 (Nat.le_trans zw277 (Nat.le_trans zw279 (Nat.le_trans zw281 (Nat.le_trans zw283 (Nat.le_trans zw286 (Nat.le_trans zw290 (Nat.le_trans zw294 (Nat.le_trans zw299 (Nat.le_trans zw303 (Nat.le_trans zw306 (Nat.le_trans zw309 (Nat.le_trans zw313 (Nat.le_trans zw316 (Nat.le_trans zw318 (Nat.le_trans zw320 (Nat.le_trans zw322 (Nat.le_trans zw324 (Nat.le_trans zw327 (Nat.le_trans zw331 (Nat.le_trans zw336 (Nat.le_trans zw340 (Nat.le_trans zw344 (Nat.le_trans zw348 zw351))))))))))))))))))))))))))))))))))))))))))))))))))))))))))))))))))))))))))))))))))))))))))))))))))))))) hg355)
   replace f15 := f15.kp k359 (Nat.ne_of_lt (Nat.lt_of_lt_of_le lg1 (Nat.le_trans (Nat.le_trans zw6 (Nat.le_trans z12 (Nat.le_trans zw19 (Nat.le_trans zw23 (Nat.le_trans zw28 (Nat.le_trans zw32 (Nat.le_trans zw35 (Nat.le_trans zw37 (Nat.le_trans zw39 (Nat.le_trans zw41 (Nat.le_trans zw44 (Nat.le_trans zw48 (Nat.le_trans zw51 (Nat.le_trans zw54 (Nat.le_trans zw58 (Nat.le_trans zw61 (Nat.le_trans zw63 (Nat.le_trans zw66 (Nat.le_trans zw70 (Nat.le_trans zw75 (Nat.le_trans zw79 (Nat.le_trans zw83 (Nat.le_trans zw88 (Nat.le_trans zw92 (Nat.le_trans zw95 (Nat.le_trans zw98 (Nat.le_trans zw102 (Nat.le_trans zw105 (Nat.le_trans zw107 (Nat.le_trans zw109 (Nat.le_trans zw111 (Nat.le_trans zw114 (Nat.le_trans zw118 (Nat.le_trans zw122 (Nat.le_trans zw127 (Nat.le_trans zw131 (Nat.le_trans zw134 (Nat.le_trans zw137 (Nat.le_trans zw141 (Nat.le_trans zw144 (Nat.le_trans zw146 (Nat.le_trans zw148 (Nat.le_trans zw150 (Nat.le_trans zw152 (Nat.le_trans zw155 (Nat.le_trans zw159 (Nat.le_trans zw164 (Nat.le_trans zw168 (Nat.le_trans zw172 (Nat.le_trans zw176 (Nat.le_trans zw179 (Nat.le_trans zw182 (Nat.le_trans zw186 (Nat.le_trans zw190 (Nat.le_trans zw194 (Nat.le_trans zw197 (Nat.le_trans zw200 (Nat.le_trans zw204 (Nat.le_trans zw207 (Nat.le_trans zw209 (Nat.le_trans zw211 (Nat.le_trans zw213 (Nat.le_trans zw216 (Nat.le_trans zw220 (Nat.le_trans zw223 (Nat.le_trans zw226 (Nat.le_trans zw230 (Nat.le_trans zw233 (Nat.le_trans zw235 (Nat.le_trans zw238 (Nat.le_trans zw242 (Nat.le_trans zw247 (Nat.le_trans zw251 (Nat.le_trans zw255 (Nat.le_trans zw260 (Nat.le_trans zw264 (Nat.le_trans zw267 (Nat.le_trans zw270 (Nat.le_trans zw274 (Nat.le_trans zw277 (Nat.le_trans zw279 (Nat.le_trans zw281 (Nat.le_trans zw283 (Nat.le_trans zw286 (Nat.le_trans zw290 (Nat.le_trans zw294 (Nat.le_trans zw299 (Nat.le_trans zw303 (Nat.le_trans zw306 (Nat.le_trans zw309 (Nat.le_trans zw313 (Nat.le_trans zw316 (Nat.le_trans zw318 (Nat.le_trans zw320 (Nat.le_trans zw322 (Nat.le_trans zw324 (Nat.le_trans zw327 (Nat.le_trans zw331 (Nat.le_trans zw336 (Nat.le_trans zw340 (Nat.le_trans zw344 (Nat.le_trans zw348 zw351)))))))))))))))))))))))))))))))))))))))))))))))))))))))))))))))))))))))))))))))))))))))))))))))))))))) hg355)))
   replace f16 := f16.kp k359 (fun b h e => Nat.lt_irrefl _ (Nat.lt_of_lt_of_le (show g353 < _ from e ▸ (show b < _ from h)) (Nat.le_trans (Nat.le_trans zw2 (Nat.le_trans zw6 (Nat.le_trans z12 (Nat.le_trans zw19 (Nat.le_trans zw23 (Nat.le_trans zw28 (Nat.le_trans zw32 (Nat.le_trans zw35 (Nat.le_trans zw37 (Nat.le_trans zw39 (Nat.le_trans zw41 (Nat.le_trans zw44 (Nat.le_trans zw48 (Nat.le_trans zw51 (Nat.le_trans zw54 (Nat.le_trans zw58 (Nat.le_trans zw61 (Nat.le_trans zw63 (Nat.le_trans zw66 (Nat.le_trans zw70 (Nat.le_trans zw75 (Nat.le_trans zw79 (Nat.le_trans zw83 (Nat.le_trans zw88 (Nat.le_trans zw92 (Nat.le_trans zw95 (Nat.le_trans zw98 (Nat.le_trans zw102 (Nat.le_trans zw105 (Nat.le_trans zw107 (Nat.le_trans zw109 (Nat.le_trans zw111 (Nat.le_trans zw114 (Nat.le_trans zw118 (Nat.le_trans zw122 (Nat.le_trans zw127 (Nat.le_trans zw131 (Nat.le_trans zw134 (Nat.le_trans zw137 (Nat.le_trans zw141 (Nat.le_trans zw144 (Nat.le_trans zw146 (Nat.le_trans zw148 (Nat.le_trans zw150 (Nat.le_trans zw152 (Nat.le_trans zw155 (Nat.le_trans zw159 (Nat.le_trans zw164 (Nat.le_trans zw168 (Nat.le_trans zw172 (Nat.le_trans zw176 (Nat.le_trans zw179 (Nat.le_trans zw182 (Nat.le_trans zw186 (Nat.le_trans zw190 (Nat.le_trans zw194 (Nat.le_trans zw197 (Nat.le_trans zw200 (Nat.le_trans zw204 (Nat.le_trans zw207 (Nat.le_trans zw209 (Nat.le_trans zw211 (Nat.le_trans zw213 (Nat.le_trans zw216 (Nat.le_trans zw220 (Nat.le_trans zw223 (Nat.le_trans zw226 (Nat.le_trans zw230 (Nat.le_trans zw233 (Nat.le_trans zw235 (Nat.le_trans zw238 (Nat.le_trans zw242 (Nat.le_trans zw247 (Nat.le_trans zw251 (Nat.le_trans zw255 (Nat.le_trans zw260 (Nat.le_trans zw264 (Nat.le_trans zw267 (Nat.le_trans zw270 (Nat.le_trans zw274 (Nat.le_trans zw277 (Nat.le_trans zw279 (Nat.le_trans zw281 (Nat.le_trans zw283 (Nat.le_trans zw286 (Nat.le_trans zw290 (Nat.le_trans zw294 (Nat.le_trans zw299 (Nat.le_trans zw303 (Nat.le_trans zw306 (Nat.le_trans zw309 (Nat.le_trans zw313 (Nat.le_trans zw316 (Nat.le_trans zw318 (Nat.le_trans zw320 (Nat.le_trans zw322 (Nat.le_trans zw324 (Nat.le_trans zw327 (Nat.le_trans zw331 (Nat.le_trans zw336 (Nat.le_trans zw340 (Nat.le_trans zw344 (Nat.le_trans zw348 zw351))))))))))))))))))))))))))))))))))))))))))))))))))))))))))))))))))))))))))))))))))))))))))))))))))))))) hg355)))
   replace sl21 := sl21.kp k359 (fun b h e => Nat.lt_irrefl _ (Nat.lt_of_lt_of_le (show g353 < _ from e ▸ (show b < _ from h.2)) (Nat.le_trans (Nat.le_trans zw23 (Nat.le_trans zw28 (Nat.le_trans zw32 (Nat.le_trans zw35 (Nat.le_trans zw37 (Nat.le_trans zw39 (Nat.le_trans zw41 (Nat.le_trans zw44 (Nat.le_trans zw48 (Nat.le_trans zw51 (Nat.le_trans zw54 (Nat.le_trans zw58 (Nat.le_trans zw61 (Nat.le_trans zw63 (Nat.le_trans zw66 (Nat.le_trans zw70 (Nat.le_trans zw75 (Nat.le_trans zw79 (Nat.le_trans zw83 (Nat.le_trans zw88 (Nat.le_trans zw92 (Nat.le_trans zw95 (Nat.le_trans zw98 (Nat.le_trans zw102 (Nat.le_trans zw105 (Nat.le_trans zw107 (Nat.le_trans zw109 (Nat.le_trans zw111 (Nat.le_trans zw114 (Nat.le_trans zw118 (Nat.le_trans zw122 (Nat.le_trans zw127 (Nat.le_trans zw131 (Nat.le_trans zw134 (Nat.le_trans zw137 (Nat.le_trans zw141 (Nat.le_trans zw144 (Nat.le_trans zw146 (Nat.le_trans zw148 (Nat.le_trans zw150 (Nat.le_trans zw152 (Nat.le_trans zw155 (Nat.le_trans zw159 (Nat.le_trans zw164 (Nat.le_trans zw168 (Nat.le_trans zw172 (Nat.le_trans zw176 (Nat.le_trans zw179 (Nat.le_trans zw182 (Nat.le_trans zw186 (Nat.le_trans zw190 (Nat.le_trans zw194 (Nat.le_trans zw197 (Nat.le_trans zw200 (Nat.le_trans zw204 (Nat.le_trans zw207 (Nat.le_trans zw209 (Nat.le_trans zw211 (Nat.le_trans zw213 (Nat.le_trans zw216 (Nat.le_trans zw220 (Nat.le_trans zw223 (Nat.le_trans zw226 (Nat.le_trans zw230 (Nat.le_trans zw233 (Nat.le_trans zw235 (Nat.le_trans zw238 (Nat.le_trans zw242 (Nat.le_trans zw247 (Nat.le_trans zw251 (Nat.le_trans zw255 (Nat.le_trans zw260 (Nat.le_trans zw264 (Nat.le_trans zw267 (Nat.le_trans zw270 (Nat.le_trans zw274 (Nat.le_trans zw277 (Nat.le_trans zw279 (Nat.le_trans zw281 (Nat.le_trans zw283 (Nat.le_trans zw286 (Nat.le_trans zw290 (Nat.le_trans zw294 (Nat.le_trans zw299 (Nat.le_trans zw303 (Nat.le_trans zw306 (Nat.le_trans zw309 (Nat.le_trans zw313 (Nat.le_trans zw316 (Nat.le_trans zw318 (Nat.le_trans zw320 (Nat.le_trans zw322 (Nat.le_trans zw324 (Nat.le_trans zw327 (Nat.le_trans zw331 (Nat.le_trans zw336 (Nat.le_trans zw340 (Nat.le_trans zw344 (Nat.le_trans zw348 zw351))))))))))))))))))))))))))))))))))))))))))))))))))))))))))))))))))))))))))))))))))))))))))))))))))) hg355)))
   replace b26 := b26.kp k359 (Nat.ne_of_lt (Nat.lt_of_lt_of_le lg22 (Nat.le_trans (Nat.le_trans zw28 (Nat.le_trans zw32 (Nat.le_trans zw35 (Nat.le_trans zw37 (Nat.le_trans zw39 (Nat.le_trans zw41 (Nat.le_trans zw44 (Nat.le_trans zw48 (Nat.le_trans zw51 (Nat.le_trans zw54 (Nat.le_trans zw58 (Nat.le_trans zw61 (Nat.le_trans zw63 (Nat.le_trans zw66 (Nat.le_trans zw70 (Nat.le_trans zw75 (Nat.le_trans zw79 (Nat.le_trans zw83 (Nat.le_trans zw88 (Nat.le_trans zw92 (Nat.le_trans zw95 (Nat.le_trans zw98 (Nat.le_trans zw102 (Nat.le_trans zw105 (Nat.le_trans zw107 (Nat.le_trans zw109 (Nat.le_trans zw111 (Nat.le_trans zw114 (Nat.le_trans zw118 (Nat.le_trans zw122 (Nat.le_trans zw127 (Nat.le_trans zw131 (Nat.le_trans zw134 (Nat.le_trans zw137 (Nat.le_trans zw141 (Nat.le_trans zw144 (Nat.le_trans zw146 (Nat.le_trans zw148 (Nat.le_trans zw150 (Nat.le_trans zw152 (Nat.le_trans zw155 (Nat.le_trans zw159 (Nat.le_trans zw164 (Nat.le_trans zw168 (Nat.le_trans zw172 (Nat.le_trans zw176 (Nat.le_trans zw179 (Nat.le_trans zw182 (Nat.le_trans zw186 (Nat.le_trans zw190 (Nat.le_trans zw194 (Nat.le_trans zw197 (Nat.le_trans zw200 (Nat.le_trans zw204 (Nat.le_trans zw207 (Nat.le_trans zw209 (Nat.le_trans zw211 (Nat.le_trans zw213 (Nat.le_trans zw216 (Nat.le_trans zw220 (Nat.le_trans zw223 (Nat.le_trans zw226 (Nat.le_trans zw230 (Nat.le_trans zw233 (Nat.le_trans zw235 (Nat.le_trans zw238 (Nat.le_trans zw242 (Nat.le_trans zw247 (Nat.le_trans zw251 (Nat.le_trans zw255 (Nat.le_trans zw260 (Nat.le_trans zw264 (Nat.le_trans zw267 (Nat.le_trans zw270 (Nat.le_trans zw274 (Nat.le_trans zw277 (Nat.le_trans zw279 (Nat.le_trans zw281 (Nat.le_trans zw283 (Nat.le_trans zw286 (Nat.le_trans zw290 (Nat.le_trans zw294 (Nat.le_trans zw299 (Nat.le_trans zw303 (Nat.le_trans zw306 (Nat.le_trans zw309 (Nat.le_trans zw313 (Nat.le_trans zw316 (Nat.le_trans zw318 (Nat.le_trans zw320 (Nat.le_trans zw322 (Nat.le_trans zw324 (Nat.le_trans zw327 (Nat.le_trans zw331 (Nat.le_trans zw336 (Nat.le_trans zw340 (Nat.le_trans zw344 (Nat.le_trans zw348 zw351)))))))))))))))))))))))))))))))))))))))))))))))))))))))))))))))))))))))))))))))))))))))))))))))))) hg355)))
   replace b334 := b334.kp k359 (Nat.ne_of_lt (Nat.lt_of_lt_of_le lg330 (Nat.le_trans (Nat.le_trans zw336 (Nat.le_trans zw340 (Nat.le_trans zw344 (Nat.le_trans zw348 zw351)))) hg355)))
   have zw358 := k359.size
   refine rw_nil ?_
   refine nw_seq ?_
   refine cw_seq ?_
   refine cw_region ?_
   refine rw_ev (ev_move rfl) rfl rfl rfl ?_
   refine rw_ev (v := .pointer (some ⟨g353, 0, none⟩)) (ev_arrAt (i := 0) (m := 2) (k := 1) rfl rfl arr_45 (by omega)) rfl rfl rfl ?_
   refine rw_ev (v := .int .i64 (pickI dx (40 : Int))) (ev_lb1 (off := 0) (fun _ h => h ▸ b360) rfl one_3 rfl) rfl rfl rfl ?_
   refine rw_ev (v := .pointer (some ⟨g353, 1, none⟩)) (ev_arrAt (i := 1) (m := 2) (k := 1) rfl rfl arr_45 (by omega)) rfl rfl rfl ?_
   refine rw_ev (v := .int .i64 (-(pickI dy (40 : Int)))) (ev_lb1 (off := 1) (fun _ h => h ▸ b360) rfl one_3 rfl) rfl rfl rfl ?_
   refine rw_op (op_fn (xs := [.tmp 159, .tmp 161, .tmp 163]) ent_64 rfl (c_cshift w358 xv xl (Sl.below f16) (pickI dx (40 : Int)) (-(pickI dy (40 : Int))) (by omega) (by omega))) rfl rfl rfl ?_
   rintro _ w362 ⟨u361, rfl, k363, sl364⟩
   replace K0 := Ex.trans K0 k363
   replace f15 := f15.ex k363
   replace f16 := f16.ex k363
   replace sl21 := sl21.ex k363
   replace b26 := b26.ex k363
   replace b334 := b334.ex k363
   replace b360 := b360.ex k363
   have zw362 := k363.size
   refine rw_ev (ev_move rfl) rfl rfl rfl ?_
   refine rw_ev (ev_extract (vs := #[u361, .int .i64 ((shiftC xl (pickI dx (40 : Int)) (-(pickI dy (40 : Int)))).2)]) rfl rfl) rfl rfl rfl ?_
   refine rw_ev (ev_extract (vs := #[u361, .int .i64 ((shiftC xl (pickI dx (40 : Int)) (-(pickI dy (40 : Int)))).2)]) rfl rfl) rfl rfl rfl ?_
   refine rw_ev (ev_assign rfl) rfl rfl rfl ?_
   refine rw_ev (ev_assign rfl) rfl rfl rfl ?_
   refine rw_nil ?_
   refine nw_seq ?_
   refine cw_seq ?_
   refine cw_region ?_
   refine rw_ev (ev_move rfl) rfl rfl rfl ?_
   refine rw_ev (v := .pointer (some ⟨g353, 0, none⟩)) (ev_arrAt (i := 0) (m := 2) (k := 1) rfl rfl arr_45 (by omega)) rfl rfl rfl ?_
   refine rw_ev (v := .int .i64 (pickI dx (40 : Int))) (ev_lb1 (off := 0) (fun _ h => h ▸ b360) rfl one_3 rfl) rfl rfl rfl ?_
   refine rw_ev (v := .pointer (some ⟨g353, 1, none⟩)) (ev_arrAt (i := 1) (m := 2) (k := 1) rfl rfl arr_45 (by omega)) rfl rfl rfl ?_
   refine rw_ev (v := .int .i64 (-(pickI dy (40 : Int)))) (ev_lb1 (off := 1) (fun _ h => h ▸ b360) rfl one_3 rfl) rfl rfl rfl ?_
   refine rw_op (op_fn (xs := [.tmp 168, .tmp 170, .tmp 172]) ent_45 rfl (c_shift w362 xv xl (Sl.below f16) (pickI dx (40 : Int)) (-(pickI dy (40 : Int))))) rfl rfl rfl ?_
   rintro _ w366 ⟨u365, rfl, k367, sl368⟩
   replace K0 := Ex.trans K0 k367
   replace f15 := f15.ex k367
   replace f16 := f16.ex k367
   replace sl21 := sl21.ex k367
   replace b26 := b26.ex k367
   replace b334 := b334.ex k367
   replace b360 := b360.ex k367
   replace sl364 := sl364.ex k367
   have zw366 := k367.size
   refine rw_ev (ev_move rfl) rfl rfl rfl ?_
   refine rw_ev (ev_extract (vs := #[u365, .int .i64 ((shiftC xl (pickI dx (40 : Int)) (-(pickI dy (40 : Int)))).2)]) rfl rfl) rfl rfl rfl ?_
   refine rw_ev (ev_extract (vs := #[u365, .int .i64 ((shiftC xl (pickI dx (40 : Int)) (-(pickI dy (40 : Int)))).2)]) rfl rfl) rfl rfl rfl ?_
   refine rw_ev (ev_assign rfl) rfl rfl rfl ?_
   refine rw_ev (ev_assign rfl) rfl rfl rfl ?_
   refine rw_nil ?_
   refine nw_seq ?_
   refine cw_seq ?_
   refine cw_region ?_
   refine rw_ev (ev_move rfl) rfl rfl rfl ?_
   refine rw_ev (ev_move rfl) rfl rfl rfl ?_
   refine rw_op (op_fn (xs := [.tmp 176, .tmp 177]) ent_37 rfl (c_same w366 u361 ((shiftC xl (pickI dx (40 : Int)) (-(pickI dy (40 : Int)))).1) (Sl.below sl364) u365 ((shiftC xl (pickI dx (40 : Int)) (-(pickI dy (40 : Int)))).1) (Sl.below sl368))) rfl rfl rfl ?_
   rintro _ w369 ⟨rfl, k370⟩
   replace K0 := Ex.trans K0 k370
   replace f15 := f15.ex k370
   replace f16 := f16.ex k370
   replace sl21 := sl21.ex k370
   replace b26 := b26.ex k370
   replace b334 := b334.ex k370
   replace sl364 := sl364.ex k370
   replace sl368 := sl368.ex k370
   have zw369 := k370.size
   refine rw_ev (ev_not (b := sameC ((shiftC xl (pickI dx (40 : Int)) (-(pickI dy (40 : Int)))).1) ((shiftC xl (pickI dx (40 : Int)) (-(pickI dy (40 : Int)))).1)) rfl rfl) rfl rfl rfl ?_
   refine rw_ev (ev_move rfl) rfl rfl rfl ?_
   refine rw_ev (ev_move rfl) (gd_ff rfl (not_f (by exact same_self _))) rfl rfl ?_
   refine rw_ev (ev_move rfl) (gd_ff rfl (not_f (by exact same_self _))) rfl rfl ?_
   refine rw_ev (ev_ne rfl rfl) (gd_ff rfl (not_f (by exact same_self _))) rfl rfl ?_
   refine rw_ev (ev_pk_f (b := !(sameC ((shiftC xl (pickI dx (40 : Int)) (-(pickI dy (40 : Int)))).1) ((shiftC xl (pickI dx (40 : Int)) (-(pickI dy (40 : Int)))).1))) rfl (not_f (by exact same_self _)) rfl) rfl rfl rfl ?_
   refine rw_nil ?_
   refine nw_seq ?_
   refine cw_f (b := decide (((shiftC xl (pickI dx (40 : Int)) (-(pickI dy (40 : Int)))).2) ≠ ((shiftC xl (pickI dx (40 : Int)) (-(pickI dy (40 : Int)))).2))) rfl (dec_f (fun h_ => h_ rfl)) ?_
   refine cw_skip ?_
   refine nw_block ?_
   refine nw_seq ?_
   refine cw_region ?_
   refine rw_ev (v := .int .i64 2) (ev_add (p := 1) (q := 1) rfl rfl (by decide)) rfl rfl rfl ?_
   refine rw_ev (v := .int .i64 2) (ev_move rfl) rfl rfl rfl ?_
   refine rw_nil ?_
   refine nw_again ?_
   refine cw_sub (e' := [(3, .int .i64 dx), (4, .int .i64 dy), (7, .pointer (some ⟨g1, 0, none⟩)), (10, .bool false), (11, .bool true), (39, .slice (some ⟨g22, 0, none⟩) 2 2), (40, .int .i64 2), (41, .int .i64 1), (14, xv), (152, .slice (some ⟨g330, 0, none⟩) 2 2), (153, .int .i64 2), (154, .int .i64 2)]) (Sub.cons rfl (Sub.cons rfl (Sub.cons rfl (Sub.cons rfl (Sub.cons rfl (Sub.cons rfl (Sub.cons rfl (Sub.cons rfl (Sub.cons rfl (Sub.cons rfl (Sub.cons rfl (Sub.cons rfl Sub.nil)))))))))))) ?_
   refine cw_seq ?_
   refine cw_region ?_
   refine rw_ev (v := .bool false) (ev_lss (p := 2) (q := 2) rfl rfl) rfl rfl rfl ?_
   refine rw_nil ?_
   refine nw_seq ?_
   refine cw_seq ?_
   refine cw_f (b := false) rfl rfl ?_
   refine cw_exit ?_
   refine xw_seq ?_
   refine xw_again ?_
   refine xw_hit ?_
   refine nw_block ?_
   refine nw_seq ?_
   refine cw_region ?_
   refine rw_ev (v := .int .i64 2) (ev_add (p := 1) (q := 1) rfl rfl (by decide)) rfl rfl rfl ?_
   refine rw_ev (v := .int .i64 2) (ev_move rfl) rfl rfl rfl ?_
   refine rw_nil ?_
   refine nw_again ?_
   refine cw_sub (e' := [(3, .int .i64 dx), (4, .int .i64 dy), (7, .pointer (some ⟨g1, 0, none⟩)), (10, .bool false), (11, .bool true), (39, .slice (some ⟨g22, 0, none⟩) 2 2), (40, .int .i64 2), (41, .int .i64 2)]) (Sub.cons rfl (Sub.cons rfl (Sub.cons rfl (Sub.cons rfl (Sub.cons rfl (Sub.cons rfl (Sub.cons rfl (Sub.cons rfl Sub.nil)))))))) ?_
   refine cw_seq ?_
   refine cw_region ?_
   refine rw_ev (v := .bool false) (ev_lss (p := 2) (q := 2) rfl rfl) rfl rfl rfl ?_
   refine rw_nil ?_
   refine nw_seq ?_
   refine cw_seq ?_
   refine cw_f (b := false) rfl rfl ?_
   refine cw_exit ?_
   refine xw_seq ?_
   refine xw_again ?_
   refine xw_hit ?_
   refine nw_seq ?_
   refine cw_seq ?_
   refine cw_region ?_
   refine rw_ev (ev_move rfl) rfl rfl rfl ?_
   refine rw_ev (ev_assign rfl) rfl rfl rfl ?_
   refine rw_nil ?_
   refine nw_seq ?_
   refine cw_ret ?_
   refine ret_post (rs := [.tmp 10]) (vs := [.bool true]) rfl (.tmp rfl .nil) ?_
   refine ⟨?_, K0⟩
   · show (.bool true : Value) = _
     rfl

end Go.Proofs.Ythpaadmpgdglnaa
