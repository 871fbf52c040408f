/- The law LifeTells: it returns true. Its condition: numbers of 64 bits. -/
import Derived.Test.YthpaadmpgdglnaaFk
import Derived.Test.YthpaadmpgdglnaaF7
import Derived.Test.YthpaadmpgdglnaaD9
import Derived.Test.YthpaadmpgdglnaaKe
namespace Go.Proofs.Ythpaadmpgdglnaa
open Go Go.RowKit
set_option linter.unusedVariables false
set_option linter.unusedSimpArgs false
set_option maxRecDepth 100000
set_option maxHeartbeats 4000000

theorem law_LifeTells (w : World) (rv : Value) (raw : List Cell) (hrv : Sl w (fun b => b < w.heap.size) rv 2 (raw.map encC)) (hrvr : RawOk raw) (av : Value) (al : List Cell) (hav : Sl w (fun b => b < w.heap.size) av 2 (al.map encC)) (n : Int) (side : Int) (hn64 : -9223372036854775808 ≤ n ∧ n ≤ 9223372036854775807) (hside64 : -9223372036854775808 ≤ side ∧ side ≤ 9223372036854775807) : Fn Try.prog 8 [rv, av, .int .i64 n, .int .i64 side] w (fun v w' =>  v = .bool true ∧ Ex w w') := by
  have K0 : Ex w w := Kp.refl _ _
  refine fn_enter (n := 151) Try.func8 rfl rfl (Nat.le_of_ble_eq_true rfl) ?_
  show CW _ _ _ _ _ _ [(0, rv), (1, av), (2, .int .i64 n), (3, .int .i64 side)] _
  have hlav_ := hav.lenm
  have hlen_ := set_len raw
  have hq_ := tdiv_bd (p := side) (q := 3) (by omega) (by omega)
  refine cw_seq ?_
  refine cw_region ?_
  refine rw_ev (ev_assign rfl) rfl rfl rfl ?_
  refine rw_nil ?_
  refine nw_seq ?_
  refine cw_seq ?_
  refine cw_region ?_
  refine rw_op (op_fn (xs := []) ent_43 rfl (c_awake2 w )) rfl rfl rfl ?_
  rintro _ w1 ⟨rfl, k2⟩
  replace K0 := Ex.trans K0 k2
  replace hrv := hrv.ex k2
  replace hav := hav.ex k2
  have zw1 := k2.size
  refine rw_ev (ev_assign rfl) rfl rfl rfl ?_
  refine rw_nil ?_
  refine nw_seq ?_
  refine cw_seq ?_
  refine cw_region ?_
  refine rw_ev (ev_move rfl) rfl rfl rfl ?_
  refine rw_ev (ev_assign rfl) rfl rfl rfl ?_
  refine rw_nil ?_
  refine nw_seq ?_
  refine cw_seq ?_
  refine cw_seq ?_
  refine cw_region ?_
  refine rw_ev (ev_move rfl) rfl rfl rfl ?_
  refine rw_ev (v := .int .i64 (al.length : Int)) (ev_lenm (l := al) ⟨_, hav⟩ rfl el_46 rfl) rfl rfl rfl ?_
  refine rw_ev (ev_gtr rfl rfl) rfl rfl rfl ?_
  refine rw_nil ?_
  refine nw_seq ?_
  refine cw_mid (σ := Value × List Cell) (fun s_ => match s_ with | (xv, xl) => [(0, rv), (2, .int .i64 n), (3, .int .i64 side), (8, .bool false), (9, .bool true), (10, xv)]) (fun s_ wr => match s_ with | (xv, xl) => Ex w wr ∧ w1.heap.size ≤ wr.heap.size ∧ Sl wr (fun b => b < w.heap.size) rv 2 (raw.map encC) ∧ Sl wr (fun b => b < w.heap.size) av 2 (al.map encC) ∧ Sl wr (fun b => b < w.heap.size) xv 2 (xl.map encC)) ?_ ?_
  ·
   by_cases h3 : (40 : Int) < (al.length : Int)
   ·
    refine cw_t (b := decide ((40 : Int) < (al.length : Int))) rfl (dec_t h3) ?_
    refine cw_region ?_
    refine rw_ev (ev_move rfl) rfl rfl rfl ?_
    have hs4 : 0 ≤ (0 : Int) ∧ (0 : Int) ≤ 40 ∧ (40 : Int) ≤ (al.map encC).length := by rw [List.length_map]; omega
    have sl5 := sub_encs hav (lo := 0) (hi := 40) (by omega) (by have := hs4; rw [List.length_map] at this; omega)
    refine rw_ev (v := (subSl av 0 40 2)) (ev_slice (l := 0) (h := 40) ⟨_, hav⟩ rfl el_46 (.inl ⟨rfl, rfl⟩) (.inr ⟨_, rfl, rfl⟩) hs4) rfl rfl rfl ?_
    refine rw_ev (ev_assign rfl) rfl rfl rfl ?_
    refine rw_nil ?_
    exact nw_cut ((subSl av 0 40 2), ((al.take 40).drop 0)) (Sub.cons rfl (Sub.cons rfl (Sub.cons rfl (Sub.cons rfl (Sub.cons rfl (Sub.val (v := subSl av 0 40 2) rfl (by rfl) Sub.nil)))))) ⟨K0, (Nat.le_refl _), hrv, hav, sl5⟩
   ·
    refine cw_f (b := decide ((40 : Int) < (al.length : Int))) rfl (dec_f h3) ?_
    refine cw_skip ?_
    exact nw_cut (av, al) (Sub.cons rfl (Sub.cons rfl (Sub.cons rfl (Sub.cons rfl (Sub.cons rfl (Sub.cons rfl Sub.nil)))))) ⟨K0, (Nat.le_refl _), hrv, hav, hav⟩
  ·
   rintro ⟨xv, xl⟩ w6 ⟨K0, z7, f8, f9, f10⟩
   show NW _ _ _ _ _ [(0, rv), (2, .int .i64 n), (3, .int .i64 side), (8, .bool false), (9, .bool true), (10, xv)] _
   refine nw_seq ?_
   refine cw_seq ?_
   refine cw_region ?_
   refine rw_ev (ev_move rfl) rfl rfl rfl ?_
   refine rw_op (op_fn (xs := [.tmp 36]) ent_44 rfl (c_set w6 rv raw (Sl.below f8) (by exact hrvr))) rfl rfl rfl ?_
   rintro u11 w12 ⟨_, rfl, k13, sl14⟩
   replace K0 := Ex.trans K0 k13
   replace f8 := f8.ex k13
   replace f10 := f10.ex k13
   have zw12 := k13.size
   refine rw_ev (ev_assign rfl) rfl rfl rfl ?_
   refine rw_nil ?_
   refine nw_seq ?_
   refine cw_seq ?_
   refine cw_region ?_
   refine rw_ev (ev_move rfl) rfl rfl rfl ?_
   refine rw_ev (ev_move rfl) rfl rfl rfl ?_
   refine rw_op (op_fn (xs := [.tmp 40, .const (.int .i64 3)]) ent_46 rfl (c_pick46 w12 side (3 : Int) (by omega) (by omega))) rfl rfl rfl ?_
   rintro _ w15 ⟨rfl, k16, pr17⟩
   replace K0 := Ex.trans K0 k16
   replace f10 := f10.ex k16
   replace sl14 := sl14.ex k16
   have zw15 := k16.size
   refine rw_ev (ev_sub rfl rfl (by omega)) rfl rfl rfl ?_
   refine rw_ev (ev_mul rfl rfl (by omega)) rfl rfl rfl ?_
   refine rw_ev (ev_move rfl) rfl rfl rfl ?_
   refine rw_ev (v := .int .i64 ((side).tdiv 3)) (ev_quot (p := side) (q := 3) rfl rfl (by omega)) rfl rfl rfl ?_
   refine rw_op (op_fn (xs := [.tmp 45, .const (.int .i64 3)]) ent_46 rfl (c_pick46 w15 ((side).tdiv 3) (3 : Int) (by omega) (by omega))) rfl rfl rfl ?_
   rintro _ w18 ⟨rfl, k19, pr20⟩
   replace K0 := Ex.trans K0 k19
   replace f10 := f10.ex k19
   replace sl14 := sl14.ex k19
   have zw18 := k19.size
   refine rw_ev (ev_sub rfl rfl (by omega)) rfl rfl rfl ?_
   refine rw_ev (ev_mul rfl rfl (by omega)) rfl rfl rfl ?_
   refine rw_op (op_fn (xs := [.tmp 39, .tmp 43, .tmp 48]) ent_45 rfl (c_shift w18 u11 (setC raw) (Sl.below sl14) (((pickI side (3 : Int)) - 1) * 1099511627768) (((pickI ((side).tdiv 3) (3 : Int)) - 1) * 1099511627768))) rfl rfl rfl ?_
   rintro _ w22 ⟨u21, rfl, k23, sl24⟩
   replace K0 := Ex.trans K0 k23
   replace f10 := f10.ex k23
   replace sl14 := sl14.ex k23
   have zw22 := k23.size
   refine rw_ev (ev_move rfl) rfl rfl rfl ?_
   refine rw_ev (ev_extract (vs := #[u21, .int .i64 ((shiftC (setC raw) (((pickI side (3 : Int)) - 1) * 1099511627768) (((pickI ((side).tdiv 3) (3 : Int)) - 1) * 1099511627768)).2)]) rfl rfl) rfl rfl rfl ?_
   refine rw_ev (ev_extract (vs := #[u21, .int .i64 ((shiftC (setC raw) (((pickI side (3 : Int)) - 1) * 1099511627768) (((pickI ((side).tdiv 3) (3 : Int)) - 1) * 1099511627768)).2)]) rfl rfl) rfl rfl rfl ?_
   refine rw_ev (ev_assign rfl) rfl rfl rfl ?_
   refine rw_ev (ev_assign rfl) rfl rfl rfl ?_
   refine rw_nil ?_
   refine nw_seq ?_
   refine cw_seq ?_
   refine cw_seq ?_
   refine cw_region ?_
   refine rw_ev (ev_move rfl) rfl rfl rfl ?_
   refine rw_ev (ev_move rfl) rfl rfl rfl ?_
   refine rw_ev (ev_move rfl) rfl rfl rfl ?_
   refine rw_op (op_buildSlice (E := 46) (m := 3) (pv := #[(0, u11), (1, u21), (2, xv)]) (cs := #[u11, u21, xv]) rfl (fun _ => by obtain ⟨_, _, _, rfl⟩ := (sl14).isSl; obtain ⟨_, _, _, rfl⟩ := (sl24).isSl; obtain ⟨_, _, _, rfl⟩ := (f10).isSl; kernel_rfl)) rfl rfl rfl ?_
   rintro _ w26 ⟨g25, rfl, hg27, k28, b29⟩
   replace K0 := Ex.trans K0 k28
   replace f10 := f10.ex k28
   replace sl14 := sl14.ex k28
   replace sl24 := sl24.ex k28
   have zw26 := k28.size
   have lg25 := b29.lt
   refine rw_ev (v := .int .i64 3) (ev_pure rfl rfl (fun _ => by kernel_rfl)) rfl rfl rfl ?_
   refine rw_ev (ev_move rfl) rfl rfl rfl ?_
   refine rw_nil ?_
   refine nw_seq ?_
   refine cw_block ?_
   refine cw_rounds 3 ?_
   refine cw_seq ?_
   refine cw_region ?_
   refine rw_ev (v := .bool true) (ev_lss (p := 0) (q := 3) rfl rfl) rfl rfl rfl ?_
   refine rw_nil ?_
   refine nw_seq ?_
   refine cw_seq ?_
   refine cw_t (b := true) rfl rfl ?_
   refine cw_skip ?_
   refine nw_seq ?_
   refine cw_seq ?_
   refine cw_block ?_
   refine cw_seq ?_
   refine cw_region ?_
   refine rw_ev (v := .pointer (some ⟨g25, 0, none⟩)) (ev_litAt (i := 0) rfl rfl el_62 (by decide) 0 rfl) rfl rfl rfl ?_
   refine rw_ev (v := u11) (ev_lb1 (off := 0) (fun _ h => h ▸ b29) rfl one_46 rfl) rfl rfl rfl ?_
   refine rw_ev (ev_assign rfl) rfl rfl rfl ?_
   refine rw_nil ?_
   refine nw_seq ?_
   refine cw_seq ?_
   refine cw_region ?_
   refine rw_ev (ev_move rfl) rfl rfl rfl ?_
   refine rw_op (op_fn (xs := [.tmp 62]) ent_47 rfl (c_next w26 u11 (setC raw) (Sl.below sl14))) rfl rfl rfl ?_
   rintro _ w31 ⟨u30, rfl, k32, sl33⟩
   replace K0 := Ex.trans K0 k32
   replace f10 := f10.ex k32
   replace sl14 := sl14.ex k32
   replace sl24 := sl24.ex k32
   replace b29 := b29.ex k32
   have zw31 := k32.size
   refine rw_ev (ev_move rfl) rfl rfl rfl ?_
   refine rw_ev (ev_extract rfl rfl) rfl rfl rfl ?_
   refine rw_ev (ev_extract rfl rfl) rfl rfl rfl ?_
   refine rw_ev (ev_assign rfl) rfl rfl rfl ?_
   refine rw_ev (ev_assign rfl) rfl rfl rfl ?_
   refine rw_nil ?_
   refine nw_seq ?_
   refine cw_seq ?_
   refine cw_region ?_
   refine rw_ev (ev_move rfl) rfl rfl rfl ?_
   refine rw_op (op_fn (xs := [.tmp 67]) ent_48 rfl (c_next2 w31 u11 (setC raw) (Sl.below sl14))) rfl rfl rfl ?_
   rintro _ w35 ⟨u34, rfl, k36, sl37⟩
   replace K0 := Ex.trans K0 k36
   replace f10 := f10.ex k36
   replace sl14 := sl14.ex k36
   replace sl24 := sl24.ex k36
   replace b29 := b29.ex k36
   replace sl33 := sl33.ex k36
   have zw35 := k36.size
   refine rw_ev (ev_move rfl) rfl rfl rfl ?_
   refine rw_ev (ev_extract rfl rfl) rfl rfl rfl ?_
   refine rw_ev (ev_extract rfl rfl) rfl rfl rfl ?_
   refine rw_ev (ev_assign rfl) rfl rfl rfl ?_
   refine rw_ev (ev_assign rfl) rfl rfl rfl ?_
   refine rw_nil ?_
   refine nw_seq ?_
   refine cw_seq ?_
   refine cw_region ?_
   refine rw_ev (ev_move rfl) rfl rfl rfl ?_
   refine rw_ev (ev_move rfl) rfl rfl rfl ?_
   refine rw_op (op_fn (xs := [.tmp 73, .const (.int .i64 21)]) ent_46 rfl (c_pick46 w35 n (21 : Int) (by omega) (by omega))) rfl rfl rfl ?_
   rintro _ w38 ⟨rfl, k39, pr40⟩
   replace K0 := Ex.trans K0 k39
   replace f10 := f10.ex k39
   replace sl14 := sl14.ex k39
   replace sl24 := sl24.ex k39
   replace b29 := b29.ex k39
   replace sl33 := sl33.ex k39
   replace sl37 := sl37.ex k39
   have zw38 := k39.size
   refine rw_op (op_fn (xs := [.tmp 72, .tmp 74]) ent_49 rfl (c_run w38 u11 (setC raw) (Sl.below sl14) (pickI n (21 : Int)))) rfl rfl rfl ?_
   rintro _ w42 ⟨u41, rfl, k43, sl44⟩
   replace K0 := Ex.trans K0 k43
   replace f10 := f10.ex k43
   replace sl14 := sl14.ex k43
   replace sl24 := sl24.ex k43
   replace b29 := b29.ex k43
   replace sl33 := sl33.ex k43
   replace sl37 := sl37.ex k43
   have zw42 := k43.size
   refine rw_ev (ev_move rfl) rfl rfl rfl ?_
   refine rw_ev (ev_extract rfl rfl) rfl rfl rfl ?_
   refine rw_ev (ev_extract rfl rfl) rfl rfl rfl ?_
   refine rw_ev (ev_assign rfl) rfl rfl rfl ?_
   refine rw_ev (ev_assign rfl) rfl rfl rfl ?_
   refine rw_nil ?_
   refine nw_seq ?_
   refine cw_seq ?_
   refine cw_region ?_
   refine rw_ev (ev_move rfl) rfl rfl rfl ?_
   refine rw_ev (ev_move rfl) rfl rfl rfl ?_
   refine rw_op (op_fn (xs := [.tmp 80, .const (.int .i64 21)]) ent_46 rfl (c_pick46 w42 n (21 : Int) (by omega) (by omega))) rfl rfl rfl ?_
   rintro _ w45 ⟨rfl, k46, pr47⟩
   replace K0 := Ex.trans K0 k46
   replace f10 := f10.ex k46
   replace sl14 := sl14.ex k46
   replace sl24 := sl24.ex k46
   replace b29 := b29.ex k46
   replace sl33 := sl33.ex k46
   replace sl37 := sl37.ex k46
   replace sl44 := sl44.ex k46
   have zw45 := k46.size
   refine rw_op (op_fn (xs := [.tmp 79, .tmp 81]) ent_38 rfl (c_run2 w45 u11 (setC raw) (Sl.below sl14) (pickI n (21 : Int)))) rfl rfl rfl ?_
   rintro _ w49 ⟨u48, rfl, k50, sl51⟩
   replace K0 := Ex.trans K0 k50
   replace f10 := f10.ex k50
   replace sl14 := sl14.ex k50
   replace sl24 := sl24.ex k50
   replace b29 := b29.ex k50
   replace sl33 := sl33.ex k50
   replace sl37 := sl37.ex k50
   replace sl44 := sl44.ex k50
   have zw49 := k50.size
   refine rw_ev (ev_move rfl) rfl rfl rfl ?_
   refine rw_ev (ev_extract rfl rfl) rfl rfl rfl ?_
   refine rw_ev (ev_extract rfl rfl) rfl rfl rfl ?_
   refine rw_ev (ev_assign rfl) rfl rfl rfl ?_
   refine rw_ev (ev_assign rfl) rfl rfl rfl ?_
   refine rw_nil ?_
   refine nw_seq ?_
   refine cw_seq ?_
   refine cw_region ?_
   refine rw_ev (ev_move rfl) rfl rfl rfl ?_
   refine rw_ev (ev_move rfl) rfl rfl rfl ?_
   refine rw_op (op_fn (xs := [.tmp 85, .tmp 86]) ent_37 rfl (c_same w49 u30 ((nextC (setC raw)).1) (Sl.below sl33) u34 ((nextC (setC raw)).1) (Sl.below sl37))) rfl rfl rfl ?_
   rintro _ w52 ⟨rfl, k53⟩
   replace K0 := Ex.trans K0 k53
   replace f10 := f10.ex k53
   replace sl14 := sl14.ex k53
   replace sl24 := sl24.ex k53
   replace b29 := b29.ex k53
   replace sl33 := sl33.ex k53
   replace sl37 := sl37.ex k53
   replace sl44 := sl44.ex k53
   replace sl51 := sl51.ex k53
   have zw52 := k53.size
   refine rw_ev (ev_not rfl rfl) rfl rfl rfl ?_
   refine rw_ev (ev_move rfl) rfl rfl rfl ?_
   refine rw_ev (ev_move rfl) (gd_ff rfl (not_f (by exact same_self _))) rfl rfl ?_
   refine rw_ev (ev_move rfl) (gd_ff rfl (not_f (by exact same_self _))) rfl rfl ?_
   refine rw_ev (ev_ne rfl rfl) (gd_ff rfl (not_f (by exact same_self _))) rfl rfl ?_
   refine rw_ev (ev_pk_f rfl (not_f (by exact same_self _)) rfl) rfl rfl rfl ?_
   refine rw_ev (ev_move rfl) rfl rfl rfl ?_
   refine rw_ev (ev_move rfl) (gd_ff rfl (dec_f (fun h_ => h_ rfl))) rfl rfl ?_
   refine rw_ev (ev_move rfl) (gd_ff rfl (dec_f (fun h_ => h_ rfl))) rfl rfl ?_
   refine rw_op (op_fn (xs := [.tmp 95, .tmp 96]) ent_37 rfl (c_same w52 u41 ((runC (setC raw) (pickI n (21 : Int))).1) (Sl.below sl44) u48 ((runC (setC raw) (pickI n (21 : Int))).1) (Sl.below sl51))) (gd_ff rfl (dec_f (fun h_ => h_ rfl))) rfl rfl ?_
   rintro _ w54 ⟨rfl, k55⟩
   replace K0 := Ex.trans K0 k55
   replace f10 := f10.ex k55
   replace sl14 := sl14.ex k55
   replace sl24 := sl24.ex k55
   replace b29 := b29.ex k55
   replace sl33 := sl33.ex k55
   replace sl37 := sl37.ex k55
   replace sl44 := sl44.ex k55
   replace sl51 := sl51.ex k55
   have zw54 := k55.size
   refine rw_ev (ev_not rfl rfl) (gd_ff rfl (dec_f (fun h_ => h_ rfl))) rfl rfl ?_
   refine rw_ev (ev_pk_f rfl (dec_f (fun h_ => h_ rfl)) rfl) rfl rfl rfl ?_
   refine rw_ev (ev_move rfl) rfl rfl rfl ?_
   refine rw_ev (ev_move rfl) (gd_ff rfl (not_f (by exact same_self _))) rfl rfl ?_
   refine rw_ev (ev_move rfl) (gd_ff rfl (not_f (by exact same_self _))) rfl rfl ?_
   refine rw_ev (ev_ne rfl rfl) (gd_ff rfl (not_f (by exact same_self _))) rfl rfl ?_
   refine rw_ev (ev_pk_f (b := !(sameC ((runC (setC raw) (pickI n (21 : Int))).1) ((runC (setC raw) (pickI n (21 : Int))).1))) rfl (not_f (by exact same_self _)) rfl) rfl rfl rfl ?_
   refine rw_nil ?_
   refine nw_seq ?_
   refine cw_f (b := decide (((runC (setC raw) (pickI n (21 : Int))).2) ≠ ((runC (setC raw) (pickI n (21 : Int))).2))) rfl (dec_f (fun h_ => h_ rfl)) ?_
   refine cw_skip ?_
   refine nw_block ?_
   refine nw_seq ?_
   refine cw_region ?_
   refine rw_ev (v := .int .i64 1) (ev_add (p := 0) (q := 1) rfl rfl (by decide)) rfl rfl rfl ?_
   refine rw_ev (v := .int .i64 1) (ev_move rfl) rfl rfl rfl ?_
   refine rw_nil ?_
   refine nw_again ?_
   refine cw_sub (e' := [(2, .int .i64 n), (8, .bool false), (9, .bool true), (55, .slice (some ⟨g25, 0, none⟩) 3 3), (56, .int .i64 3), (57, .int .i64 1)]) (Sub.cons rfl (Sub.cons rfl (Sub.cons rfl (Sub.cons rfl (Sub.cons rfl (Sub.cons rfl Sub.nil)))))) ?_
   refine cw_seq ?_
   refine cw_region ?_
   refine rw_ev (v := .bool true) (ev_lss (p := 1) (q := 3) rfl rfl) rfl rfl rfl ?_
   refine rw_nil ?_
   refine nw_seq ?_
   refine cw_seq ?_
   refine cw_t (b := true) rfl rfl ?_
   refine cw_skip ?_
   refine nw_seq ?_
   refine cw_seq ?_
   refine cw_block ?_
   refine cw_seq ?_
   refine cw_region ?_
   refine rw_ev (v := .pointer (some ⟨g25, 1, none⟩)) (ev_litAt (i := 1) rfl rfl el_62 (by decide) 1 rfl) rfl rfl rfl ?_
   refine rw_ev (v := u21) (ev_lb1 (off := 1) (fun _ h => h ▸ b29) rfl one_46 rfl) rfl rfl rfl ?_
   refine rw_ev (ev_assign rfl) rfl rfl rfl ?_
   refine rw_nil ?_
   refine nw_seq ?_
   refine cw_seq ?_
   refine cw_region ?_
   refine rw_ev (ev_move rfl) rfl rfl rfl ?_
   refine rw_op (op_fn (xs := [.tmp 62]) ent_47 rfl (c_next w54 u21 ((shiftC (setC raw) (((pickI side (3 : Int)) - 1) * 1099511627768) (((pickI ((side).tdiv 3) (3 : Int)) - 1) * 1099511627768)).1) (Sl.below sl24))) rfl rfl rfl ?_
   rintro _ w57 ⟨u56, rfl, k58, sl59⟩
   replace K0 := Ex.trans K0 k58
   replace f10 := f10.ex k58
   replace sl14 := sl14.ex k58
   replace sl24 := sl24.ex k58
   replace b29 := b29.ex k58
   have zw57 := k58.size
   refine rw_ev (ev_move rfl) rfl rfl rfl ?_
   refine rw_ev (ev_extract (vs := #[u56, .int .i64 ((nextC ((shiftC (setC raw) (((pickI side (3 : Int)) - 1) * 1099511627768) (((pickI ((side).tdiv 3) (3 : Int)) - 1) * 1099511627768)).1)).2)]) rfl rfl) rfl rfl rfl ?_
   refine rw_ev (ev_extract (vs := #[u56, .int .i64 ((nextC ((shiftC (setC raw) (((pickI side (3 : Int)) - 1) * 1099511627768) (((pickI ((side).tdiv 3) (3 : Int)) - 1) * 1099511627768)).1)).2)]) rfl rfl) rfl rfl rfl ?_
   refine rw_ev (ev_assign rfl) rfl rfl rfl ?_
   refine rw_ev (ev_assign rfl) rfl rfl rfl ?_
   refine rw_nil ?_
   refine nw_seq ?_
   refine cw_seq ?_
   refine cw_region ?_
   refine rw_ev (ev_move rfl) rfl rfl rfl ?_
   refine rw_op (op_fn (xs := [.tmp 67]) ent_48 rfl (c_next2 w57 u21 ((shiftC (setC raw) (((pickI side (3 : Int)) - 1) * 1099511627768) (((pickI ((side).tdiv 3) (3 : Int)) - 1) * 1099511627768)).1) (Sl.below sl24))) rfl rfl rfl ?_
   rintro _ w61 ⟨u60, rfl, k62, sl63⟩
   replace K0 := Ex.trans K0 k62
   replace f10 := f10.ex k62
   replace sl14 := sl14.ex k62
   replace sl24 := sl24.ex k62
   replace b29 := b29.ex k62
   replace sl59 := sl59.ex k62
   have zw61 := k62.size
   refine rw_ev (ev_move rfl) rfl rfl rfl ?_
   refine rw_ev (ev_extract (vs := #[u60, .int .i64 ((nextC ((shiftC (setC raw) (((pickI side (3 : Int)) - 1) * 1099511627768) (((pickI ((side).tdiv 3) (3 : Int)) - 1) * 1099511627768)).1)).2)]) rfl rfl) rfl rfl rfl ?_
   refine rw_ev (ev_extract (vs := #[u60, .int .i64 ((nextC ((shiftC (setC raw) (((pickI side (3 : Int)) - 1) * 1099511627768) (((pickI ((side).tdiv 3) (3 : Int)) - 1) * 1099511627768)).1)).2)]) rfl rfl) rfl rfl rfl ?_
   refine rw_ev (ev_assign rfl) rfl rfl rfl ?_
   refine rw_ev (ev_assign rfl) rfl rfl rfl ?_
   refine rw_nil ?_
   refine nw_seq ?_
   refine cw_seq ?_
   refine cw_region ?_
   refine rw_ev (ev_move rfl) rfl rfl rfl ?_
   refine rw_ev (ev_move rfl) rfl rfl rfl ?_
   refine rw_op (op_fn (xs := [.tmp 73, .const (.int .i64 21)]) ent_46 rfl (c_pick46 w61 n (21 : Int) (by omega) (by omega))) rfl rfl rfl ?_
   rintro _ w64 ⟨rfl, k65, pr66⟩
   replace K0 := Ex.trans K0 k65
   replace f10 := f10.ex k65
   replace sl14 := sl14.ex k65
   replace sl24 := sl24.ex k65
   replace b29 := b29.ex k65
   replace sl59 := sl59.ex k65
   replace sl63 := sl63.ex k65
   have zw64 := k65.size
   refine rw_op (op_fn (xs := [.tmp 72, .tmp 74]) ent_49 rfl (c_run w64 u21 ((shiftC (setC raw) (((pickI side (3 : Int)) - 1) * 1099511627768) (((pickI ((side).tdiv 3) (3 : Int)) - 1) * 1099511627768)).1) (Sl.below sl24) (pickI n (21 : Int)))) rfl rfl rfl ?_
   rintro _ w68 ⟨u67, rfl, k69, sl70⟩
   replace K0 := Ex.trans K0 k69
   replace f10 := f10.ex k69
   replace sl14 := sl14.ex k69
   replace sl24 := sl24.ex k69
   replace b29 := b29.ex k69
   replace sl59 := sl59.ex k69
   replace sl63 := sl63.ex k69
   have zw68 := k69.size
   refine rw_ev (ev_move rfl) rfl rfl rfl ?_
   refine rw_ev (ev_extract (vs := #[u67, .int .i64 ((runC ((shiftC (setC raw) (((pickI side (3 : Int)) - 1) * 1099511627768) (((pickI ((side).tdiv 3) (3 : Int)) - 1) * 1099511627768)).1) (pickI n (21 : Int))).2)]) rfl rfl) rfl rfl rfl ?_
   refine rw_ev (ev_extract (vs := #[u67, .int .i64 ((runC ((shiftC (setC raw) (((pickI side (3 : Int)) - 1) * 1099511627768) (((pickI ((side).tdiv 3) (3 : Int)) - 1) * 1099511627768)).1) (pickI n (21 : Int))).2)]) rfl rfl) rfl rfl rfl ?_
   refine rw_ev (ev_assign rfl) rfl rfl rfl ?_
   refine rw_ev (ev_assign rfl) rfl rfl rfl ?_
   refine rw_nil ?_
   refine nw_seq ?_
   refine cw_seq ?_
   refine cw_region ?_
   refine rw_ev (ev_move rfl) rfl rfl rfl ?_
   refine rw_ev (ev_move rfl) rfl rfl rfl ?_
   refine rw_op (op_fn (xs := [.tmp 80, .const (.int .i64 21)]) ent_46 rfl (c_pick46 w68 n (21 : Int) (by omega) (by omega))) rfl rfl rfl ?_
   rintro _ w71 ⟨rfl, k72, pr73⟩
   replace K0 := Ex.trans K0 k72
   replace f10 := f10.ex k72
   replace sl14 := sl14.ex k72
   replace sl24 := sl24.ex k72
   replace b29 := b29.ex k72
   replace sl59 := sl59.ex k72
   replace sl63 := sl63.ex k72
   replace sl70 := sl70.ex k72
   have zw71 := k72.size
   refine rw_op (op_fn (xs := [.tmp 79, .tmp 81]) ent_38 rfl (c_run2 w71 u21 ((shiftC (setC raw) (((pickI side (3 : Int)) - 1) * 1099511627768) (((pickI ((side).tdiv 3) (3 : Int)) - 1) * 1099511627768)).1) (Sl.below sl24) (pickI n (21 : Int)))) rfl rfl rfl ?_
   rintro _ w75 ⟨u74, rfl, k76, sl77⟩
   replace K0 := Ex.trans K0 k76
   replace f10 := f10.ex k76
   replace sl14 := sl14.ex k76
   replace sl24 := sl24.ex k76
   replace b29 := b29.ex k76
   replace sl59 := sl59.ex k76
   replace sl63 := sl63.ex k76
   replace sl70 := sl70.ex k76
   have zw75 := k76.size
   refine rw_ev (ev_move rfl) rfl rfl rfl ?_
   refine rw_ev (ev_extract (vs := #[u74, .int .i64 ((runC ((shiftC (setC raw) (((pickI side (3 : Int)) - 1) * 1099511627768) (((pickI ((side).tdiv 3) (3 : Int)) - 1) * 1099511627768)).1) (pickI n (21 : Int))).2)]) rfl rfl) rfl rfl rfl ?_
   refine rw_ev (ev_extract (vs := #[u74, .int .i64 ((runC ((shiftC (setC raw) (((pickI side (3 : Int)) - 1) * 1099511627768) (((pickI ((side).tdiv 3) (3 : Int)) - 1) * 1099511627768)).1) (pickI n (21 : Int))).2)]) rfl rfl) rfl rfl rfl ?_
   refine rw_ev (ev_assign rfl) rfl rfl rfl ?_
   refine rw_ev (ev_assign rfl) rfl rfl rfl ?_
   refine rw_nil ?_
   refine nw_seq ?_
   refine cw_seq ?_
   refine cw_region ?_
   refine rw_ev (ev_move rfl) rfl rfl rfl ?_
   refine rw_ev (ev_move rfl) rfl rfl rfl ?_
   refine rw_op (op_fn (xs := [.tmp 85, .tmp 86]) ent_37 rfl (c_same w75 u56 ((nextC ((shiftC (setC raw) (((pickI side (3 : Int)) - 1) * 1099511627768) (((pickI ((side).tdiv 3) (3 : Int)) - 1) * 1099511627768)).1)).1) (Sl.below sl59) u60 ((nextC ((shiftC (setC raw) (((pickI side (3 : Int)) - 1) * 1099511627768) (((pickI ((side).tdiv 3) (3 : Int)) - 1) * 1099511627768)).1)).1) (Sl.below sl63))) rfl rfl rfl ?_
   rintro _ w78 ⟨rfl, k79⟩
   replace K0 := Ex.trans K0 k79
   replace f10 := f10.ex k79
   replace sl14 := sl14.ex k79
   replace sl24 := sl24.ex k79
   replace b29 := b29.ex k79
   replace sl59 := sl59.ex k79
   replace sl63 := sl63.ex k79
   replace sl70 := sl70.ex k79
   replace sl77 := sl77.ex k79
   have zw78 := k79.size
   refine rw_ev (ev_not (b := sameC ((nextC ((shiftC (setC raw) (((pickI side (3 : Int)) - 1) * 1099511627768) (((pickI ((side).tdiv 3) (3 : Int)) - 1) * 1099511627768)).1)).1) ((nextC ((shiftC (setC raw) (((pickI side (3 : Int)) - 1) * 1099511627768) (((pickI ((side).tdiv 3) (3 : Int)) - 1) * 1099511627768)).1)).1)) rfl rfl) rfl rfl rfl ?_
   refine rw_ev (ev_move rfl) rfl rfl rfl ?_
   refine rw_ev (ev_move rfl) (gd_ff rfl (not_f (by exact same_self _))) rfl rfl ?_
   refine rw_ev (ev_move rfl) (gd_ff rfl (not_f (by exact same_self _))) rfl rfl ?_
   refine rw_ev (ev_ne (p := (nextC ((shiftC (setC raw) (((pickI side (3 : Int)) - 1) * 1099511627768) (((pickI ((side).tdiv 3) (3 : Int)) - 1) * 1099511627768)).1)).2) (q := (nextC ((shiftC (setC raw) (((pickI side (3 : Int)) - 1) * 1099511627768) (((pickI ((side).tdiv 3) (3 : Int)) - 1) * 1099511627768)).1)).2) rfl rfl) (gd_ff rfl (not_f (by exact same_self _))) rfl rfl ?_
   refine rw_ev (ev_pk_f (b := !(sameC ((nextC ((shiftC (setC raw) (((pickI side (3 : Int)) - 1) * 1099511627768) (((pickI ((side).tdiv 3) (3 : Int)) - 1) * 1099511627768)).1)).1) ((nextC ((shiftC (setC raw) (((pickI side (3 : Int)) - 1) * 1099511627768) (((pickI ((side).tdiv 3) (3 : Int)) - 1) * 1099511627768)).1)).1))) rfl (not_f (by exact same_self _)) rfl) rfl rfl rfl ?_
   refine rw_ev (ev_move rfl) rfl rfl rfl ?_
   refine rw_ev (ev_move rfl) (gd_ff rfl (dec_f (fun h_ => h_ rfl))) rfl rfl ?_
   refine rw_ev (ev_move rfl) (gd_ff rfl (dec_f (fun h_ => h_ rfl))) rfl rfl ?_
   refine rw_op (op_fn (xs := [.tmp 95, .tmp 96]) ent_37 rfl (c_same w78 u67 ((runC ((shiftC (setC raw) (((pickI side (3 : Int)) - 1) * 1099511627768) (((pickI ((side).tdiv 3) (3 : Int)) - 1) * 1099511627768)).1) (pickI n (21 : Int))).1) (Sl.below sl70) u74 ((runC ((shiftC (setC raw) (((pickI side (3 : Int)) - 1) * 1099511627768) (((pickI ((side).tdiv 3) (3 : Int)) - 1) * 1099511627768)).1) (pickI n (21 : Int))).1) (Sl.below sl77))) (gd_ff rfl (dec_f (fun h_ => h_ rfl))) rfl rfl ?_
   rintro _ w80 ⟨rfl, k81⟩
   replace K0 := Ex.trans K0 k81
   replace f10 := f10.ex k81
   replace sl14 := sl14.ex k81
   replace sl24 := sl24.ex k81
   replace b29 := b29.ex k81
   replace sl59 := sl59.ex k81
   replace sl63 := sl63.ex k81
   replace sl70 := sl70.ex k81
   replace sl77 := sl77.ex k81
   have zw80 := k81.size
   refine rw_ev (ev_not (b := sameC ((runC ((shiftC (setC raw) (((pickI side (3 : Int)) - 1) * 1099511627768) (((pickI ((side).tdiv 3) (3 : Int)) - 1) * 1099511627768)).1) (pickI n (21 : Int))).1) ((runC ((shiftC (setC raw) (((pickI side (3 : Int)) - 1) * 1099511627768) (((pickI ((side).tdiv 3) (3 : Int)) - 1) * 1099511627768)).1) (pickI n (21 : Int))).1)) rfl rfl) (gd_ff rfl (dec_f (fun h_ => h_ rfl))) rfl rfl ?_
   refine rw_ev (ev_pk_f (b := decide (((nextC ((shiftC (setC raw) (((pickI side (3 : Int)) - 1) * 1099511627768) (((pickI ((side).tdiv 3) (3 : Int)) - 1) * 1099511627768)).1)).2) ≠ ((nextC ((shiftC (setC raw) (((pickI side (3 : Int)) - 1) * 1099511627768) (((pickI ((side).tdiv 3) (3 : Int)) - 1) * 1099511627768)).1)).2))) rfl (dec_f (fun h_ => h_ rfl)) rfl) rfl rfl rfl ?_
   refine rw_ev (ev_move rfl) rfl rfl rfl ?_
   refine rw_ev (ev_move rfl) (gd_ff rfl (not_f (by exact same_self _))) rfl rfl ?_
   refine rw_ev (ev_move rfl) (gd_ff rfl (not_f (by exact same_self _))) rfl rfl ?_
   refine rw_ev (ev_ne (p := (runC ((shiftC (setC raw) (((pickI side (3 : Int)) - 1) * 1099511627768) (((pickI ((side).tdiv 3) (3 : Int)) - 1) * 1099511627768)).1) (pickI n (21 : Int))).2) (q := (runC ((shiftC (setC raw) (((pickI side (3 : Int)) - 1) * 1099511627768) (((pickI ((side).tdiv 3) (3 : Int)) - 1) * 1099511627768)).1) (pickI n (21 : Int))).2) rfl rfl) (gd_ff rfl (not_f (by exact same_self _))) rfl rfl ?_
   refine rw_ev (ev_pk_f (b := !(sameC ((runC ((shiftC (setC raw) (((pickI side (3 : Int)) - 1) * 1099511627768) (((pickI ((side).tdiv 3) (3 : Int)) - 1) * 1099511627768)).1) (pickI n (21 : Int))).1) ((runC ((shiftC (setC raw) (((pickI side (3 : Int)) - 1) * 1099511627768) (((pickI ((side).tdiv 3) (3 : Int)) - 1) * 1099511627768)).1) (pickI n (21 : Int))).1))) rfl (not_f (by exact same_self _)) rfl) rfl rfl rfl ?_
   refine rw_nil ?_
   refine nw_seq ?_
   refine cw_f (b := decide (((runC ((shiftC (setC raw) (((pickI side (3 : Int)) - 1) * 1099511627768) (((pickI ((side).tdiv 3) (3 : Int)) - 1) * 1099511627768)).1) (pickI n (21 : Int))).2) ≠ ((runC ((shiftC (setC raw) (((pickI side (3 : Int)) - 1) * 1099511627768) (((pickI ((side).tdiv 3) (3 : Int)) - 1) * 1099511627768)).1) (pickI n (21 : Int))).2))) rfl (dec_f (fun h_ => h_ rfl)) ?_
   refine cw_skip ?_
   refine nw_block ?_
   refine nw_seq ?_
   refine cw_region ?_
   refine rw_ev (v := .int .i64 2) (ev_add (p := 1) (q := 1) rfl rfl (by decide)) rfl rfl rfl ?_
   refine rw_ev (v := .int .i64 2) (ev_move rfl) rfl rfl rfl ?_
   refine rw_nil ?_
   refine nw_again ?_
   refine cw_sub (e' := [(2, .int .i64 n), (8, .bool false), (9, .bool true), (55, .slice (some ⟨g25, 0, none⟩) 3 3), (56, .int .i64 3), (57, .int .i64 2)]) (Sub.cons rfl (Sub.cons rfl (Sub.cons rfl (Sub.cons rfl (Sub.cons rfl (Sub.cons rfl Sub.nil)))))) ?_
   refine cw_seq ?_
   refine cw_region ?_
   refine rw_ev (v := .bool true) (ev_lss (p := 2) (q := 3) rfl rfl) rfl rfl rfl ?_
   refine rw_nil ?_
   refine nw_seq ?_
   refine cw_seq ?_
   refine cw_t (b := true) rfl rfl ?_
   refine cw_skip ?_
   refine nw_seq ?_
   refine cw_seq ?_
   refine cw_block ?_
   refine cw_seq ?_
   refine cw_region ?_
   refine rw_ev (v := .pointer (some ⟨g25, 2, none⟩)) (ev_litAt (i := 2) rfl rfl el_62 (by decide) 2 rfl) rfl rfl rfl ?_
   refine rw_ev (v := xv) (ev_lb1 (off := 2) (fun _ h => h ▸ b29) rfl one_46 rfl) rfl rfl rfl ?_
   refine rw_ev (ev_assign rfl) rfl rfl rfl ?_
   refine rw_nil ?_
   refine nw_seq ?_
   refine cw_seq ?_
   refine cw_region ?_
   refine rw_ev (ev_move rfl) rfl rfl rfl ?_
   refine rw_op (op_fn (xs := [.tmp 62]) ent_47 rfl (c_next w80 xv xl (Sl.below f10))) rfl rfl rfl ?_
   rintro _ w83 ⟨u82, rfl, k84, sl85⟩
   replace K0 := Ex.trans K0 k84
   replace f10 := f10.ex k84
   replace sl14 := sl14.ex k84
   replace sl24 := sl24.ex k84
   replace b29 := b29.ex k84
   have zw83 := k84.size
   refine rw_ev (ev_move rfl) rfl rfl rfl ?_
   refine rw_ev (ev_extract rfl rfl) rfl rfl rfl ?_
   refine rw_ev (ev_extract rfl rfl) rfl rfl rfl ?_
   refine rw_ev (ev_assign rfl) rfl rfl rfl ?_
   refine rw_ev (ev_assign rfl) rfl rfl rfl ?_
   refine rw_nil ?_
   refine nw_seq ?_
   refine cw_seq ?_
   refine cw_region ?_
   refine rw_ev (ev_move rfl) rfl rfl rfl ?_
   refine rw_op (op_fn (xs := [.tmp 67]) ent_48 rfl (c_next2 w83 xv xl (Sl.below f10))) rfl rfl rfl ?_
   rintro _ w87 ⟨u86, rfl, k88, sl89⟩
   replace K0 := Ex.trans K0 k88
   replace f10 := f10.ex k88
   replace sl14 := sl14.ex k88
   replace sl24 := sl24.ex k88
   replace b29 := b29.ex k88
   replace sl85 := sl85.ex k88
   have zw87 := k88.size
   refine rw_ev (ev_move rfl) rfl rfl rfl ?_
   refine rw_ev (ev_extract rfl rfl) rfl rfl rfl ?_
   refine rw_ev (ev_extract rfl rfl) rfl rfl rfl ?_
   refine rw_ev (ev_assign rfl) rfl rfl rfl ?_
   refine rw_ev (ev_assign rfl) rfl rfl rfl ?_
   refine rw_nil ?_
   refine nw_seq ?_
   refine cw_seq ?_
   refine cw_region ?_
   refine rw_ev (ev_move rfl) rfl rfl rfl ?_
   refine rw_ev (ev_move rfl) rfl rfl rfl ?_
   refine rw_op (op_fn (xs := [.tmp 73, .const (.int .i64 21)]) ent_46 rfl (c_pick46 w87 n (21 : Int) (by omega) (by omega))) rfl rfl rfl ?_
   rintro _ w90 ⟨rfl, k91, pr92⟩
   replace K0 := Ex.trans K0 k91
   replace f10 := f10.ex k91
   replace sl14 := sl14.ex k91
   replace sl24 := sl24.ex k91
   replace b29 := b29.ex k91
   replace sl85 := sl85.ex k91
   replace sl89 := sl89.ex k91
   have zw90 := k91.size
   refine rw_op (op_fn (xs := [.tmp 72, .tmp 74]) ent_49 rfl (c_run w90 xv xl (Sl.below f10) (pickI n (21 : Int)))) rfl rfl rfl ?_
   rintro _ w94 ⟨u93, rfl, k95, sl96⟩
   replace K0 := Ex.trans K0 k95
   replace f10 := f10.ex k95
   replace sl14 := sl14.ex k95
   replace sl24 := sl24.ex k95
   replace b29 := b29.ex k95
   replace sl85 := sl85.ex k95
   replace sl89 := sl89.ex k95
   have zw94 := k95.size
   refine rw_ev (ev_move rfl) rfl rfl rfl ?_
   refine rw_ev (ev_extract rfl rfl) rfl rfl rfl ?_
   refine rw_ev (ev_extract rfl rfl) rfl rfl rfl ?_
   refine rw_ev (ev_assign rfl) rfl rfl rfl ?_
   refine rw_ev (ev_assign rfl) rfl rfl rfl ?_
   refine rw_nil ?_
   refine nw_seq ?_
   refine cw_seq ?_
   refine cw_region ?_
   refine rw_ev (ev_move rfl) rfl rfl rfl ?_
   refine rw_ev (ev_move rfl) rfl rfl rfl ?_
   refine rw_op (op_fn (xs := [.tmp 80, .const (.int .i64 21)]) ent_46 rfl (c_pick46 w94 n (21 : Int) (by omega) (by omega))) rfl rfl rfl ?_
   rintro _ w97 ⟨rfl, k98, pr99⟩
   replace K0 := Ex.trans K0 k98
   replace f10 := f10.ex k98
   replace sl14 := sl14.ex k98
   replace sl24 := sl24.ex k98
   replace b29 := b29.ex k98
   replace sl85 := sl85.ex k98
   replace sl89 := sl89.ex k98
   replace sl96 := sl96.ex k98
   have zw97 := k98.size
   refine rw_op (op_fn (xs := [.tmp 79, .tmp 81]) ent_38 rfl (c_run2 w97 xv xl (Sl.below f10) (pickI n (21 : Int)))) rfl rfl rfl ?_
   rintro _ w101 ⟨u100, rfl, k102, sl103⟩
   replace K0 := Ex.trans K0 k102
   replace f10 := f10.ex k102
   replace sl14 := sl14.ex k102
   replace sl24 := sl24.ex k102
   replace b29 := b29.ex k102
   replace sl85 := sl85.ex k102
   replace sl89 := sl89.ex k102
   replace sl96 := sl96.ex k102
   have zw101 := k102.size
   refine rw_ev (ev_move rfl) rfl rfl rfl ?_
   refine rw_ev (ev_extract rfl rfl) rfl rfl rfl ?_
   refine rw_ev (ev_extract rfl rfl) rfl rfl rfl ?_
   refine rw_ev (ev_assign rfl) rfl rfl rfl ?_
   refine rw_ev (ev_assign rfl) rfl rfl rfl ?_
   refine rw_nil ?_
   refine nw_seq ?_
   refine cw_seq ?_
   refine cw_region ?_
   refine rw_ev (ev_move rfl) rfl rfl rfl ?_
   refine rw_ev (ev_move rfl) rfl rfl rfl ?_
   refine rw_op (op_fn (xs := [.tmp 85, .tmp 86]) ent_37 rfl (c_same w101 u82 ((nextC xl).1) (Sl.below sl85) u86 ((nextC xl).1) (Sl.below sl89))) rfl rfl rfl ?_
   rintro _ w104 ⟨rfl, k105⟩
   replace K0 := Ex.trans K0 k105
   replace f10 := f10.ex k105
   replace sl14 := sl14.ex k105
   replace sl24 := sl24.ex k105
   replace b29 := b29.ex k105
   replace sl85 := sl85.ex k105
   replace sl89 := sl89.ex k105
   replace sl96 := sl96.ex k105
   replace sl103 := sl103.ex k105
   have zw104 := k105.size
   refine rw_ev (ev_not rfl rfl) rfl rfl rfl ?_
   refine rw_ev (ev_move rfl) rfl rfl rfl ?_
   refine rw_ev (ev_move rfl) (gd_ff rfl (not_f (by exact same_self _))) rfl rfl ?_
   refine rw_ev (ev_move rfl) (gd_ff rfl (not_f (by exact same_self _))) rfl rfl ?_
   refine rw_ev (ev_ne rfl rfl) (gd_ff rfl (not_f (by exact same_self _))) rfl rfl ?_
   refine rw_ev (ev_pk_f rfl (not_f (by exact same_self _)) rfl) rfl rfl rfl ?_
   refine rw_ev (ev_move rfl) rfl rfl rfl ?_
   refine rw_ev (ev_move rfl) (gd_ff rfl (dec_f (fun h_ => h_ rfl))) rfl rfl ?_
   refine rw_ev (ev_move rfl) (gd_ff rfl (dec_f (fun h_ => h_ rfl))) rfl rfl ?_
   refine rw_op (op_fn (xs := [.tmp 95, .tmp 96]) ent_37 rfl (c_same w104 u93 ((runC xl (pickI n (21 : Int))).1) (Sl.below sl96) u100 ((runC xl (pickI n (21 : Int))).1) (Sl.below sl103))) (gd_ff rfl (dec_f (fun h_ => h_ rfl))) rfl rfl ?_
   rintro _ w106 ⟨rfl, k107⟩
   replace K0 := Ex.trans K0 k107
   replace f10 := f10.ex k107
   replace sl14 := sl14.ex k107
   replace sl24 := sl24.ex k107
   replace b29 := b29.ex k107
   replace sl85 := sl85.ex k107
   replace sl89 := sl89.ex k107
   replace sl96 := sl96.ex k107
   replace sl103 := sl103.ex k107
   have zw106 := k107.size
   refine rw_ev (ev_not rfl rfl) (gd_ff rfl (dec_f (fun h_ => h_ rfl))) rfl rfl ?_
   refine rw_ev (ev_pk_f rfl (dec_f (fun h_ => h_ rfl)) rfl) rfl rfl rfl ?_
   refine rw_ev (ev_move rfl) rfl rfl rfl ?_
   refine rw_ev (ev_move rfl) (gd_ff rfl (not_f (by exact same_self _))) rfl rfl ?_
   refine rw_ev (ev_move rfl) (gd_ff rfl (not_f (by exact same_self _))) rfl rfl ?_
   refine rw_ev (ev_ne rfl rfl) (gd_ff rfl (not_f (by exact same_self _))) rfl rfl ?_
   refine rw_ev (ev_pk_f (b := !(sameC ((runC xl (pickI n (21 : Int))).1) ((runC xl (pickI n (21 : Int))).1))) rfl (not_f (by exact same_self _)) rfl) rfl rfl rfl ?_
   refine rw_nil ?_
   refine nw_seq ?_
   refine cw_f (b := decide (((runC xl (pickI n (21 : Int))).2) ≠ ((runC xl (pickI n (21 : Int))).2))) rfl (dec_f (fun h_ => h_ rfl)) ?_
   refine cw_skip ?_
   refine nw_block ?_
   refine nw_seq ?_
   refine cw_region ?_
   refine rw_ev (v := .int .i64 3) (ev_add (p := 2) (q := 1) rfl rfl (by decide)) rfl rfl rfl ?_
   refine rw_ev (v := .int .i64 3) (ev_move rfl) rfl rfl rfl ?_
   refine rw_nil ?_
   refine nw_again ?_
   refine cw_sub (e' := [(2, .int .i64 n), (8, .bool false), (9, .bool true), (55, .slice (some ⟨g25, 0, none⟩) 3 3), (56, .int .i64 3), (57, .int .i64 3)]) (Sub.cons rfl (Sub.cons rfl (Sub.cons rfl (Sub.cons rfl (Sub.cons rfl (Sub.cons rfl Sub.nil)))))) ?_
   refine cw_seq ?_
   refine cw_region ?_
   refine rw_ev (v := .bool false) (ev_lss (p := 3) (q := 3) rfl rfl) rfl rfl rfl ?_
   refine rw_nil ?_
   refine nw_seq ?_
   refine cw_seq ?_
   refine cw_f (b := false) rfl rfl ?_
   refine cw_exit ?_
   refine xw_seq ?_
   refine xw_again ?_
   refine xw_hit ?_
   refine nw_seq ?_
   refine cw_seq ?_
   refine cw_region ?_
   refine rw_ev (ev_move rfl) rfl rfl rfl ?_
   refine rw_op (op_fn (xs := [.const (.slice none 0 0), .tmp 107]) ent_49 rfl (c_run w106 (.slice none 0 0) ([]) (Sl.below (Sl.nil w106 (fun _ => False) 2 : Sl _ _ _ _ (([] : List Cell).map encC))) n)) rfl rfl rfl ?_
   rintro _ w109 ⟨u108, rfl, k110, sl111⟩
   replace K0 := Ex.trans K0 k110
   have zw109 := k110.size
   refine rw_ev (ev_move rfl) rfl rfl rfl ?_
   refine rw_ev (ev_extract rfl rfl) rfl rfl rfl ?_
   refine rw_ev (ev_extract rfl rfl) rfl rfl rfl ?_
   refine rw_ev (ev_assign rfl) rfl rfl rfl ?_
   refine rw_ev (ev_assign rfl) rfl rfl rfl ?_
   refine rw_nil ?_
   refine nw_seq ?_
   refine cw_seq ?_
   refine cw_region ?_
   refine rw_ev (ev_move rfl) rfl rfl rfl ?_
   refine rw_op (op_fn (xs := [.const (.slice none 0 0), .tmp 112]) ent_38 rfl (c_run2 w109 (.slice none 0 0) ([]) (Sl.below (Sl.nil w109 (fun _ => False) 2 : Sl _ _ _ _ (([] : List Cell).map encC))) n)) rfl rfl rfl ?_
   rintro _ w113 ⟨u112, rfl, k114, sl115⟩
   replace K0 := Ex.trans K0 k114
   have zw113 := k114.size
   refine rw_ev (ev_move rfl) rfl rfl rfl ?_
   refine rw_ev (ev_extract rfl rfl) rfl rfl rfl ?_
   refine rw_ev (ev_extract rfl rfl) rfl rfl rfl ?_
   refine rw_ev (ev_assign rfl) rfl rfl rfl ?_
   refine rw_ev (ev_assign rfl) rfl rfl rfl ?_
   refine rw_nil ?_
   refine nw_seq ?_
   refine cw_seq ?_
   refine cw_seq ?_
   refine cw_region ?_
   refine rw_ev (ev_assign rfl) rfl rfl rfl ?_
   refine rw_nil ?_
   refine nw_seq ?_
   refine cw_block ?_
   refine cw_rounds 10 ?_
   refine cw_seq ?_
   refine cw_seq ?_
   refine cw_region ?_
   refine rw_ev (ev_move rfl) rfl rfl rfl ?_
   refine rw_ev (v := .bool true) (ev_lss (p := 0) (q := 10) rfl rfl) rfl rfl rfl ?_
   refine rw_nil ?_
   refine nw_seq ?_
   refine cw_t (b := true) rfl rfl ?_
   refine cw_skip ?_
   refine nw_seq ?_
   refine cw_seq ?_
   refine cw_block ?_
   refine cw_seq ?_
   refine cw_region ?_
   refine rw_ev (ev_move rfl) rfl rfl rfl ?_
   refine rw_op (op_fn (xs := [.const (.bool true), .tmp 120]) ent_50 rfl (c_lives w113 true (0 : Int))) rfl rfl rfl ?_
   rintro _ w116 ⟨rfl, k117⟩
   replace K0 := Ex.trans K0 k117
   have zw116 := k117.size
   refine rw_ev (ev_move rfl) rfl rfl rfl ?_
   refine rw_op (op_fn (xs := [.const (.bool true), .tmp 122]) ent_51 rfl (c_lives2 w116 true (0 : Int))) rfl rfl rfl ?_
   rintro _ w118 ⟨rfl, k119⟩
   replace K0 := Ex.trans K0 k119
   have zw118 := k119.size
   refine rw_ev (ev_neb bool_4 rfl rfl) rfl rfl rfl ?_
   refine rw_ev (ev_move rfl) rfl rfl rfl ?_
   refine rw_ev (ev_move rfl) (gd_ff rfl (dec_f (fun h_ => h_ rfl))) rfl rfl ?_
   refine rw_op (op_fn (xs := [.const (.bool false), .tmp 126]) ent_50 rfl (c_lives w118 false (0 : Int))) (gd_ff rfl (dec_f (fun h_ => h_ rfl))) rfl rfl ?_
   rintro _ w120 ⟨rfl, k121⟩
   replace K0 := Ex.trans K0 k121
   have zw120 := k121.size
   refine rw_ev (ev_move rfl) (gd_ff rfl (dec_f (fun h_ => h_ rfl))) rfl rfl ?_
   refine rw_op (op_fn (xs := [.const (.bool false), .tmp 128]) ent_51 rfl (c_lives2 w120 false (0 : Int))) (gd_ff rfl (dec_f (fun h_ => h_ rfl))) rfl rfl ?_
   rintro _ w122 ⟨rfl, k123⟩
   replace K0 := Ex.trans K0 k123
   have zw122 := k123.size
   refine rw_ev (ev_neb bool_4 rfl rfl) (gd_ff rfl (dec_f (fun h_ => h_ rfl))) rfl rfl ?_
   refine rw_ev (ev_pk_f rfl (dec_f (fun h_ => h_ rfl)) rfl) rfl rfl rfl ?_
   refine rw_nil ?_
   refine nw_seq ?_
   refine cw_f (b := decide ((livesB false (0 : Int)) ≠ (livesB false (0 : Int)))) rfl (dec_f (fun h_ => h_ rfl)) ?_
   refine cw_skip ?_
   refine nw_block ?_
   refine nw_seq ?_
   refine cw_region ?_
   refine rw_ev (ev_move rfl) rfl rfl rfl ?_
   refine rw_ev (v := .int .i64 1) (ev_add (p := 0) (q := 1) rfl rfl (by decide)) rfl rfl rfl ?_
   refine rw_ev (v := .int .i64 1) (ev_assign rfl) rfl rfl rfl ?_
   refine rw_nil ?_
   refine nw_again ?_
   refine cw_sub (e' := [(2, .int .i64 n), (8, .bool false), (9, .bool true), (25, .int .i64 ((runC ([]) n).2)), (27, .int .i64 ((runC ([]) n).2)), (28, .int .i64 1)]) (Sub.cons rfl (Sub.cons rfl (Sub.cons rfl (Sub.cons rfl (Sub.cons rfl (Sub.cons rfl Sub.nil)))))) ?_
   refine cw_seq ?_
   refine cw_seq ?_
   refine cw_region ?_
   refine rw_ev (v := .int .i64 1) (ev_move rfl) rfl rfl rfl ?_
   refine rw_ev (v := .bool true) (ev_lss (p := 1) (q := 10) rfl rfl) rfl rfl rfl ?_
   refine rw_nil ?_
   refine nw_seq ?_
   refine cw_t (b := true) rfl rfl ?_
   refine cw_skip ?_
   refine nw_seq ?_
   refine cw_seq ?_
   refine cw_block ?_
   refine cw_seq ?_
   refine cw_region ?_
   refine rw_ev (v := .int .i64 1) (ev_move rfl) rfl rfl rfl ?_
   refine rw_op (op_fn (xs := [.const (.bool true), .tmp 120]) ent_50 rfl (c_lives w122 true (1 : Int))) rfl rfl rfl ?_
   rintro _ w124 ⟨rfl, k125⟩
   replace K0 := Ex.trans K0 k125
   have zw124 := k125.size
   refine rw_ev (v := .int .i64 1) (ev_move rfl) rfl rfl rfl ?_
   refine rw_op (op_fn (xs := [.const (.bool true), .tmp 122]) ent_51 rfl (c_lives2 w124 true (1 : Int))) rfl rfl rfl ?_
   rintro _ w126 ⟨rfl, k127⟩
   replace K0 := Ex.trans K0 k127
   have zw126 := k127.size
   refine rw_ev (ev_neb bool_4 rfl rfl) rfl rfl rfl ?_
   refine rw_ev (ev_move rfl) rfl rfl rfl ?_
   refine rw_ev (v := .int .i64 1) (ev_move rfl) (gd_ff rfl (dec_f (fun h_ => h_ rfl))) rfl rfl ?_
   refine rw_op (op_fn (xs := [.const (.bool false), .tmp 126]) ent_50 rfl (c_lives w126 false (1 : Int))) (gd_ff rfl (dec_f (fun h_ => h_ rfl))) rfl rfl ?_
   rintro _ w128 ⟨rfl, k129⟩
   replace K0 := Ex.trans K0 k129
   have zw128 := k129.size
   refine rw_ev (v := .int .i64 1) (ev_move rfl) (gd_ff rfl (dec_f (fun h_ => h_ rfl))) rfl rfl ?_
   refine rw_op (op_fn (xs := [.const (.bool false), .tmp 128]) ent_51 rfl (c_lives2 w128 false (1 : Int))) (gd_ff rfl (dec_f (fun h_ => h_ rfl))) rfl rfl ?_
   rintro _ w130 ⟨rfl, k131⟩
   replace K0 := Ex.trans K0 k131
   have zw130 := k131.size
   refine rw_ev (ev_neb bool_4 rfl rfl) (gd_ff rfl (dec_f (fun h_ => h_ rfl))) rfl rfl ?_
   refine rw_ev (ev_pk_f rfl (dec_f (fun h_ => h_ rfl)) rfl) rfl rfl rfl ?_
   refine rw_nil ?_
   refine nw_seq ?_
   refine cw_f (b := decide ((livesB false (1 : Int)) ≠ (livesB false (1 : Int)))) rfl (dec_f (fun h_ => h_ rfl)) ?_
   refine cw_skip ?_
   refine nw_block ?_
   refine nw_seq ?_
   refine cw_region ?_
   refine rw_ev (v := .int .i64 1) (ev_move rfl) rfl rfl rfl ?_
   refine rw_ev (v := .int .i64 2) (ev_add (p := 1) (q := 1) rfl rfl (by decide)) rfl rfl rfl ?_
   refine rw_ev (v := .int .i64 2) (ev_assign rfl) rfl rfl rfl ?_
   refine rw_nil ?_
   refine nw_again ?_
   refine cw_sub (e' := [(2, .int .i64 n), (8, .bool false), (9, .bool true), (25, .int .i64 ((runC ([]) n).2)), (27, .int .i64 ((runC ([]) n).2)), (28, .int .i64 2)]) (Sub.cons rfl (Sub.cons rfl (Sub.cons rfl (Sub.cons rfl (Sub.cons rfl (Sub.cons rfl Sub.nil)))))) ?_
   refine cw_seq ?_
   refine cw_seq ?_
   refine cw_region ?_
   refine rw_ev (v := .int .i64 2) (ev_move rfl) rfl rfl rfl ?_
   refine rw_ev (v := .bool true) (ev_lss (p := 2) (q := 10) rfl rfl) rfl rfl rfl ?_
   refine rw_nil ?_
   refine nw_seq ?_
   refine cw_t (b := true) rfl rfl ?_
   refine cw_skip ?_
   refine nw_seq ?_
   refine cw_seq ?_
   refine cw_block ?_
   refine cw_seq ?_
   refine cw_region ?_
   refine rw_ev (v := .int .i64 2) (ev_move rfl) rfl rfl rfl ?_
   refine rw_op (op_fn (xs := [.const (.bool true), .tmp 120]) ent_50 rfl (c_lives w130 true (2 : Int))) rfl rfl rfl ?_
   rintro _ w132 ⟨rfl, k133⟩
   replace K0 := Ex.trans K0 k133
   have zw132 := k133.size
   refine rw_ev (v := .int .i64 2) (ev_move rfl) rfl rfl rfl ?_
   refine rw_op (op_fn (xs := [.const (.bool true), .tmp 122]) ent_51 rfl (c_lives2 w132 true (2 : Int))) rfl rfl rfl ?_
   rintro _ w134 ⟨rfl, k135⟩
   replace K0 := Ex.trans K0 k135
   have zw134 := k135.size
   refine rw_ev (ev_neb bool_4 rfl rfl) rfl rfl rfl ?_
   refine rw_ev (ev_move rfl) rfl rfl rfl ?_
   refine rw_ev (v := .int .i64 2) (ev_move rfl) (gd_ff rfl (dec_f (fun h_ => h_ rfl))) rfl rfl ?_
   refine rw_op (op_fn (xs := [.const (.bool false), .tmp 126]) ent_50 rfl (c_lives w134 false (2 : Int))) (gd_ff rfl (dec_f (fun h_ => h_ rfl))) rfl rfl ?_
   rintro _ w136 ⟨rfl, k137⟩
   replace K0 := Ex.trans K0 k137
   have zw136 := k137.size
   refine rw_ev (v := .int .i64 2) (ev_move rfl) (gd_ff rfl (dec_f (fun h_ => h_ rfl))) rfl rfl ?_
   refine rw_op (op_fn (xs := [.const (.bool false), .tmp 128]) ent_51 rfl (c_lives2 w136 false (2 : Int))) (gd_ff rfl (dec_f (fun h_ => h_ rfl))) rfl rfl ?_
   rintro _ w138 ⟨rfl, k139⟩
   replace K0 := Ex.trans K0 k139
   have zw138 := k139.size
   refine rw_ev (ev_neb bool_4 rfl rfl) (gd_ff rfl (dec_f (fun h_ => h_ rfl))) rfl rfl ?_
   refine rw_ev (ev_pk_f rfl (dec_f (fun h_ => h_ rfl)) rfl) rfl rfl rfl ?_
   refine rw_nil ?_
   refine nw_seq ?_
   refine cw_f (b := decide ((livesB false (2 : Int)) ≠ (livesB false (2 : Int)))) rfl (dec_f (fun h_ => h_ rfl)) ?_
   refine cw_skip ?_
   refine nw_block ?_
   refine nw_seq ?_
   refine cw_region ?_
   refine rw_ev (v := .int .i64 2) (ev_move rfl) rfl rfl rfl ?_
   refine rw_ev (v := .int .i64 3) (ev_add (p := 2) (q := 1) rfl rfl (by decide)) rfl rfl rfl ?_
   refine rw_ev (v := .int .i64 3) (ev_assign rfl) rfl rfl rfl ?_
   refine rw_nil ?_
   refine nw_again ?_
   refine cw_sub (e' := [(2, .int .i64 n), (8, .bool false), (9, .bool true), (25, .int .i64 ((runC ([]) n).2)), (27, .int .i64 ((runC ([]) n).2)), (28, .int .i64 3)]) (Sub.cons rfl (Sub.cons rfl (Sub.cons rfl (Sub.cons rfl (Sub.cons rfl (Sub.cons rfl Sub.nil)))))) ?_
   refine cw_seq ?_
   refine cw_seq ?_
   refine cw_region ?_
   refine rw_ev (v := .int .i64 3) (ev_move rfl) rfl rfl rfl ?_
   refine rw_ev (v := .bool true) (ev_lss (p := 3) (q := 10) rfl rfl) rfl rfl rfl ?_
   refine rw_nil ?_
   refine nw_seq ?_
   refine cw_t (b := true) rfl rfl ?_
   refine cw_skip ?_
   refine nw_seq ?_
   refine cw_seq ?_
   refine cw_block ?_
   refine cw_seq ?_
   refine cw_region ?_
   refine rw_ev (v := .int .i64 3) (ev_move rfl) rfl rfl rfl ?_
   refine rw_op (op_fn (xs := [.const (.bool true), .tmp 120]) ent_50 rfl (c_lives w138 true (3 : Int))) rfl rfl rfl ?_
   rintro _ w140 ⟨rfl, k141⟩
   replace K0 := Ex.trans K0 k141
   have zw140 := k141.size
   refine rw_ev (v := .int .i64 3) (ev_move rfl) rfl rfl rfl ?_
   refine rw_op (op_fn (xs := [.const (.bool true), .tmp 122]) ent_51 rfl (c_lives2 w140 true (3 : Int))) rfl rfl rfl ?_
   rintro _ w142 ⟨rfl, k143⟩
   replace K0 := Ex.trans K0 k143
   have zw142 := k143.size
   refine rw_ev (ev_neb bool_4 rfl rfl) rfl rfl rfl ?_
   refine rw_ev (ev_move rfl) rfl rfl rfl ?_
   refine rw_ev (v := .int .i64 3) (ev_move rfl) (gd_ff rfl (dec_f (fun h_ => h_ rfl))) rfl rfl ?_
   refine rw_op (op_fn (xs := [.const (.bool false), .tmp 126]) ent_50 rfl (c_lives w142 false (3 : Int))) (gd_ff rfl (dec_f (fun h_ => h_ rfl))) rfl rfl ?_
   rintro _ w144 ⟨rfl, k145⟩
   replace K0 := Ex.trans K0 k145
   have zw144 := k145.size
   refine rw_ev (v := .int .i64 3) (ev_move rfl) (gd_ff rfl (dec_f (fun h_ => h_ rfl))) rfl rfl ?_
   refine rw_op (op_fn (xs := [.const (.bool false), .tmp 128]) ent_51 rfl (c_lives2 w144 false (3 : Int))) (gd_ff rfl (dec_f (fun h_ => h_ rfl))) rfl rfl ?_
   rintro _ w146 ⟨rfl, k147⟩
   replace K0 := Ex.trans K0 k147
   have zw146 := k147.size
   refine rw_ev (ev_neb bool_4 rfl rfl) (gd_ff rfl (dec_f (fun h_ => h_ rfl))) rfl rfl ?_
   refine rw_ev (ev_pk_f rfl (dec_f (fun h_ => h_ rfl)) rfl) rfl rfl rfl ?_
   refine rw_nil ?_
   refine nw_seq ?_
   refine cw_f (b := decide ((livesB false (3 : Int)) ≠ (livesB false (3 : Int)))) rfl (dec_f (fun h_ => h_ rfl)) ?_
   refine cw_skip ?_
   refine nw_block ?_
   refine nw_seq ?_
   refine cw_region ?_
   refine rw_ev (v := .int .i64 3) (ev_move rfl) rfl rfl rfl ?_
   refine rw_ev (v := .int .i64 4) (ev_add (p := 3) (q := 1) rfl rfl (by decide)) rfl rfl rfl ?_
   refine rw_ev (v := .int .i64 4) (ev_assign rfl) rfl rfl rfl ?_
   refine rw_nil ?_
   refine nw_again ?_
   refine cw_sub (e' := [(2, .int .i64 n), (8, .bool false), (9, .bool true), (25, .int .i64 ((runC ([]) n).2)), (27, .int .i64 ((runC ([]) n).2)), (28, .int .i64 4)]) (Sub.cons rfl (Sub.cons rfl (Sub.cons rfl (Sub.cons rfl (Sub.cons rfl (Sub.cons rfl Sub.nil)))))) ?_
   refine cw_seq ?_
   refine cw_seq ?_
   refine cw_region ?_
   refine rw_ev (v := .int .i64 4) (ev_move rfl) rfl rfl rfl ?_
   refine rw_ev (v := .bool true) (ev_lss (p := 4) (q := 10) rfl rfl) rfl rfl rfl ?_
   refine rw_nil ?_
   refine nw_seq ?_
   refine cw_t (b := true) rfl rfl ?_
   refine cw_skip ?_
   refine nw_seq ?_
   refine cw_seq ?_
   refine cw_block ?_
   refine cw_seq ?_
   refine cw_region ?_
   refine rw_ev (v := .int .i64 4) (ev_move rfl) rfl rfl rfl ?_
   refine rw_op (op_fn (xs := [.const (.bool true), .tmp 120]) ent_50 rfl (c_lives w146 true (4 : Int))) rfl rfl rfl ?_
   rintro _ w148 ⟨rfl, k149⟩
   replace K0 := Ex.trans K0 k149
   have zw148 := k149.size
   refine rw_ev (v := .int .i64 4) (ev_move rfl) rfl rfl rfl ?_
   refine rw_op (op_fn (xs := [.const (.bool true), .tmp 122]) ent_51 rfl (c_lives2 w148 true (4 : Int))) rfl rfl rfl ?_
   rintro _ w150 ⟨rfl, k151⟩
   replace K0 := Ex.trans K0 k151
   have zw150 := k151.size
   refine rw_ev (ev_neb bool_4 rfl rfl) rfl rfl rfl ?_
   refine rw_ev (ev_move rfl) rfl rfl rfl ?_
   refine rw_ev (v := .int .i64 4) (ev_move rfl) (gd_ff rfl (dec_f (fun h_ => h_ rfl))) rfl rfl ?_
   refine rw_op (op_fn (xs := [.const (.bool false), .tmp 126]) ent_50 rfl (c_lives w150 false (4 : Int))) (gd_ff rfl (dec_f (fun h_ => h_ rfl))) rfl rfl ?_
   rintro _ w152 ⟨rfl, k153⟩
   replace K0 := Ex.trans K0 k153
   have zw152 := k153.size
   refine rw_ev (v := .int .i64 4) (ev_move rfl) (gd_ff rfl (dec_f (fun h_ => h_ rfl))) rfl rfl ?_
   refine rw_op (op_fn (xs := [.const (.bool false), .tmp 128]) ent_51 rfl (c_lives2 w152 false (4 : Int))) (gd_ff rfl (dec_f (fun h_ => h_ rfl))) rfl rfl ?_
   rintro _ w154 ⟨rfl, k155⟩
   replace K0 := Ex.trans K0 k155
   have zw154 := k155.size
   refine rw_ev (ev_neb bool_4 rfl rfl) (gd_ff rfl (dec_f (fun h_ => h_ rfl))) rfl rfl ?_
   refine rw_ev (ev_pk_f rfl (dec_f (fun h_ => h_ rfl)) rfl) rfl rfl rfl ?_
   refine rw_nil ?_
   refine nw_seq ?_
   refine cw_f (b := decide ((livesB false (4 : Int)) ≠ (livesB false (4 : Int)))) rfl (dec_f (fun h_ => h_ rfl)) ?_
   refine cw_skip ?_
   refine nw_block ?_
   refine nw_seq ?_
   refine cw_region ?_
   refine rw_ev (v := .int .i64 4) (ev_move rfl) rfl rfl rfl ?_
   refine rw_ev (v := .int .i64 5) (ev_add (p := 4) (q := 1) rfl rfl (by decide)) rfl rfl rfl ?_
   refine rw_ev (v := .int .i64 5) (ev_assign rfl) rfl rfl rfl ?_
   refine rw_nil ?_
   refine nw_again ?_
   refine cw_sub (e' := [(2, .int .i64 n), (8, .bool false), (9, .bool true), (25, .int .i64 ((runC ([]) n).2)), (27, .int .i64 ((runC ([]) n).2)), (28, .int .i64 5)]) (Sub.cons rfl (Sub.cons rfl (Sub.cons rfl (Sub.cons rfl (Sub.cons rfl (Sub.cons rfl Sub.nil)))))) ?_
   refine cw_seq ?_
   refine cw_seq ?_
   refine cw_region ?_
   refine rw_ev (v := .int .i64 5) (ev_move rfl) rfl rfl rfl ?_
   refine rw_ev (v := .bool true) (ev_lss (p := 5) (q := 10) rfl rfl) rfl rfl rfl ?_
   refine rw_nil ?_
   refine nw_seq ?_
   refine cw_t (b := true) rfl rfl ?_
   refine cw_skip ?_
   refine nw_seq ?_
   refine cw_seq ?_
   refine cw_block ?_
   refine cw_seq ?_
   refine cw_region ?_
   refine rw_ev (v := .int .i64 5) (ev_move rfl) rfl rfl rfl ?_
   refine rw_op (op_fn (xs := [.const (.bool true), .tmp 120]) ent_50 rfl (c_lives w154 true (5 : Int))) rfl rfl rfl ?_
   rintro _ w156 ⟨rfl, k157⟩
   replace K0 := Ex.trans K0 k157
   have zw156 := k157.size
   refine rw_ev (v := .int .i64 5) (ev_move rfl) rfl rfl rfl ?_
   refine rw_op (op_fn (xs := [.const (.bool true), .tmp 122]) ent_51 rfl (c_lives2 w156 true (5 : Int))) rfl rfl rfl ?_
   rintro _ w158 ⟨rfl, k159⟩
   replace K0 := Ex.trans K0 k159
   have zw158 := k159.size
   refine rw_ev (ev_neb bool_4 rfl rfl) rfl rfl rfl ?_
   refine rw_ev (ev_move rfl) rfl rfl rfl ?_
   refine rw_ev (v := .int .i64 5) (ev_move rfl) (gd_ff rfl (dec_f (fun h_ => h_ rfl))) rfl rfl ?_
   refine rw_op (op_fn (xs := [.const (.bool false), .tmp 126]) ent_50 rfl (c_lives w158 false (5 : Int))) (gd_ff rfl (dec_f (fun h_ => h_ rfl))) rfl rfl ?_
   rintro _ w160 ⟨rfl, k161⟩
   replace K0 := Ex.trans K0 k161
   have zw160 := k161.size
   refine rw_ev (v := .int .i64 5) (ev_move rfl) (gd_ff rfl (dec_f (fun h_ => h_ rfl))) rfl rfl ?_
   refine rw_op (op_fn (xs := [.const (.bool false), .tmp 128]) ent_51 rfl (c_lives2 w160 false (5 : Int))) (gd_ff rfl (dec_f (fun h_ => h_ rfl))) rfl rfl ?_
   rintro _ w162 ⟨rfl, k163⟩
   replace K0 := Ex.trans K0 k163
   have zw162 := k163.size
   refine rw_ev (ev_neb bool_4 rfl rfl) (gd_ff rfl (dec_f (fun h_ => h_ rfl))) rfl rfl ?_
   refine rw_ev (ev_pk_f rfl (dec_f (fun h_ => h_ rfl)) rfl) rfl rfl rfl ?_
   refine rw_nil ?_
   refine nw_seq ?_
   refine cw_f (b := decide ((livesB false (5 : Int)) ≠ (livesB false (5 : Int)))) rfl (dec_f (fun h_ => h_ rfl)) ?_
   refine cw_skip ?_
   refine nw_block ?_
   refine nw_seq ?_
   refine cw_region ?_
   refine rw_ev (v := .int .i64 5) (ev_move rfl) rfl rfl rfl ?_
   refine rw_ev (v := .int .i64 6) (ev_add (p := 5) (q := 1) rfl rfl (by decide)) rfl rfl rfl ?_
   refine rw_ev (v := .int .i64 6) (ev_assign rfl) rfl rfl rfl ?_
   refine rw_nil ?_
   refine nw_again ?_
   refine cw_sub (e' := [(2, .int .i64 n), (8, .bool false), (9, .bool true), (25, .int .i64 ((runC ([]) n).2)), (27, .int .i64 ((runC ([]) n).2)), (28, .int .i64 6)]) (Sub.cons rfl (Sub.cons rfl (Sub.cons rfl (Sub.cons rfl (Sub.cons rfl (Sub.cons rfl Sub.nil)))))) ?_
   refine cw_seq ?_
   refine cw_seq ?_
   refine cw_region ?_
   refine rw_ev (v := .int .i64 6) (ev_move rfl) rfl rfl rfl ?_
   refine rw_ev (v := .bool true) (ev_lss (p := 6) (q := 10) rfl rfl) rfl rfl rfl ?_
   refine rw_nil ?_
   refine nw_seq ?_
   refine cw_t (b := true) rfl rfl ?_
   refine cw_skip ?_
   refine nw_seq ?_
   refine cw_seq ?_
   refine cw_block ?_
   refine cw_seq ?_
   refine cw_region ?_
   refine rw_ev (v := .int .i64 6) (ev_move rfl) rfl rfl rfl ?_
   refine rw_op (op_fn (xs := [.const (.bool true), .tmp 120]) ent_50 rfl (c_lives w162 true (6 : Int))) rfl rfl rfl ?_
   rintro _ w164 ⟨rfl, k165⟩
   replace K0 := Ex.trans K0 k165
   have zw164 := k165.size
   refine rw_ev (v := .int .i64 6) (ev_move rfl) rfl rfl rfl ?_
   refine rw_op (op_fn (xs := [.const (.bool true), .tmp 122]) ent_51 rfl (c_lives2 w164 true (6 : Int))) rfl rfl rfl ?_
   rintro _ w166 ⟨rfl, k167⟩
   replace K0 := Ex.trans K0 k167
   have zw166 := k167.size
   refine rw_ev (ev_neb bool_4 rfl rfl) rfl rfl rfl ?_
   refine rw_ev (ev_move rfl) rfl rfl rfl ?_
   refine rw_ev (v := .int .i64 6) (ev_move rfl) (gd_ff rfl (dec_f (fun h_ => h_ rfl))) rfl rfl ?_
   refine rw_op (op_fn (xs := [.const (.bool false), .tmp 126]) ent_50 rfl (c_lives w166 false (6 : Int))) (gd_ff rfl (dec_f (fun h_ => h_ rfl))) rfl rfl ?_
   rintro _ w168 ⟨rfl, k169⟩
   replace K0 := Ex.trans K0 k169
   have zw168 := k169.size
   refine rw_ev (v := .int .i64 6) (ev_move rfl) (gd_ff rfl (dec_f (fun h_ => h_ rfl))) rfl rfl ?_
   refine rw_op (op_fn (xs := [.const (.bool false), .tmp 128]) ent_51 rfl (c_lives2 w168 false (6 : Int))) (gd_ff rfl (dec_f (fun h_ => h_ rfl))) rfl rfl ?_
   rintro _ w170 ⟨rfl, k171⟩
   replace K0 := Ex.trans K0 k171
   have zw170 := k171.size
   refine rw_ev (ev_neb bool_4 rfl rfl) (gd_ff rfl (dec_f (fun h_ => h_ rfl))) rfl rfl ?_
   refine rw_ev (ev_pk_f rfl (dec_f (fun h_ => h_ rfl)) rfl) rfl rfl rfl ?_
   refine rw_nil ?_
   refine nw_seq ?_
   refine cw_f (b := decide ((livesB false (6 : Int)) ≠ (livesB false (6 : Int)))) rfl (dec_f (fun h_ => h_ rfl)) ?_
   refine cw_skip ?_
   refine nw_block ?_
   refine nw_seq ?_
   refine cw_region ?_
   refine rw_ev (v := .int .i64 6) (ev_move rfl) rfl rfl rfl ?_
   refine rw_ev (v := .int .i64 7) (ev_add (p := 6) (q := 1) rfl rfl (by decide)) rfl rfl rfl ?_
   refine rw_ev (v := .int .i64 7) (ev_assign rfl) rfl rfl rfl ?_
   refine rw_nil ?_
   refine nw_again ?_
   refine cw_sub (e' := [(2, .int .i64 n), (8, .bool false), (9, .bool true), (25, .int .i64 ((runC ([]) n).2)), (27, .int .i64 ((runC ([]) n).2)), (28, .int .i64 7)]) (Sub.cons rfl (Sub.cons rfl (Sub.cons rfl (Sub.cons rfl (Sub.cons rfl (Sub.cons rfl Sub.nil)))))) ?_
   refine cw_seq ?_
   refine cw_seq ?_
   refine cw_region ?_
   refine rw_ev (v := .int .i64 7) (ev_move rfl) rfl rfl rfl ?_
   refine rw_ev (v := .bool true) (ev_lss (p := 7) (q := 10) rfl rfl) rfl rfl rfl ?_
   refine rw_nil ?_
   refine nw_seq ?_
   refine cw_t (b := true) rfl rfl ?_
   refine cw_skip ?_
   refine nw_seq ?_
   refine cw_seq ?_
   refine cw_block ?_
   refine cw_seq ?_
   refine cw_region ?_
   refine rw_ev (v := .int .i64 7) (ev_move rfl) rfl rfl rfl ?_
   refine rw_op (op_fn (xs := [.const (.bool true), .tmp 120]) ent_50 rfl (c_lives w170 true (7 : Int))) rfl rfl rfl ?_
   rintro _ w172 ⟨rfl, k173⟩
   replace K0 := Ex.trans K0 k173
   have zw172 := k173.size
   refine rw_ev (v := .int .i64 7) (ev_move rfl) rfl rfl rfl ?_
   refine rw_op (op_fn (xs := [.const (.bool true), .tmp 122]) ent_51 rfl (c_lives2 w172 true (7 : Int))) rfl rfl rfl ?_
   rintro _ w174 ⟨rfl, k175⟩
   replace K0 := Ex.trans K0 k175
   have zw174 := k175.size
   refine rw_ev (ev_neb bool_4 rfl rfl) rfl rfl rfl ?_
   refine rw_ev (ev_move rfl) rfl rfl rfl ?_
   refine rw_ev (v := .int .i64 7) (ev_move rfl) (gd_ff rfl (dec_f (fun h_ => h_ rfl))) rfl rfl ?_
   refine rw_op (op_fn (xs := [.const (.bool false), .tmp 126]) ent_50 rfl (c_lives w174 false (7 : Int))) (gd_ff rfl (dec_f (fun h_ => h_ rfl))) rfl rfl ?_
   rintro _ w176 ⟨rfl, k177⟩
   replace K0 := Ex.trans K0 k177
   have zw176 := k177.size
   refine rw_ev (v := .int .i64 7) (ev_move rfl) (gd_ff rfl (dec_f (fun h_ => h_ rfl))) rfl rfl ?_
   refine rw_op (op_fn (xs := [.const (.bool false), .tmp 128]) ent_51 rfl (c_lives2 w176 false (7 : Int))) (gd_ff rfl (dec_f (fun h_ => h_ rfl))) rfl rfl ?_
   rintro _ w178 ⟨rfl, k179⟩
   replace K0 := Ex.trans K0 k179
   have zw178 := k179.size
   refine rw_ev (ev_neb bool_4 rfl rfl) (gd_ff rfl (dec_f (fun h_ => h_ rfl))) rfl rfl ?_
   refine rw_ev (ev_pk_f rfl (dec_f (fun h_ => h_ rfl)) rfl) rfl rfl rfl ?_
   refine rw_nil ?_
   refine nw_seq ?_
   refine cw_f (b := decide ((livesB false (7 : Int)) ≠ (livesB false (7 : Int)))) rfl (dec_f (fun h_ => h_ rfl)) ?_
   refine cw_skip ?_
   refine nw_block ?_
   refine nw_seq ?_
   refine cw_region ?_
   refine rw_ev (v := .int .i64 7) (ev_move rfl) rfl rfl rfl ?_
   refine rw_ev (v := .int .i64 8) (ev_add (p := 7) (q := 1) rfl rfl (by decide)) rfl rfl rfl ?_
   refine rw_ev (v := .int .i64 8) (ev_assign rfl) rfl rfl rfl ?_
   refine rw_nil ?_
   refine nw_again ?_
   refine cw_sub (e' := [(2, .int .i64 n), (8, .bool false), (9, .bool true), (25, .int .i64 ((runC ([]) n).2)), (27, .int .i64 ((runC ([]) n).2)), (28, .int .i64 8)]) (Sub.cons rfl (Sub.cons rfl (Sub.cons rfl (Sub.cons rfl (Sub.cons rfl (Sub.cons rfl Sub.nil)))))) ?_
   refine cw_seq ?_
   refine cw_seq ?_
   refine cw_region ?_
   refine rw_ev (v := .int .i64 8) (ev_move rfl) rfl rfl rfl ?_
   refine rw_ev (v := .bool true) (ev_lss (p := 8) (q := 10) rfl rfl) rfl rfl rfl ?_
   refine rw_nil ?_
   refine nw_seq ?_
   refine cw_t (b := true) rfl rfl ?_
   refine cw_skip ?_
   refine nw_seq ?_
   refine cw_seq ?_
   refine cw_block ?_
   refine cw_seq ?_
   refine cw_region ?_
   refine rw_ev (v := .int .i64 8) (ev_move rfl) rfl rfl rfl ?_
   refine rw_op (op_fn (xs := [.const (.bool true), .tmp 120]) ent_50 rfl (c_lives w178 true (8 : Int))) rfl rfl rfl ?_
   rintro _ w180 ⟨rfl, k181⟩
   replace K0 := Ex.trans K0 k181
   have zw180 := k181.size
   refine rw_ev (v := .int .i64 8) (ev_move rfl) rfl rfl rfl ?_
   refine rw_op (op_fn (xs := [.const (.bool true), .tmp 122]) ent_51 rfl (c_lives2 w180 true (8 : Int))) rfl rfl rfl ?_
   rintro _ w182 ⟨rfl, k183⟩
   replace K0 := Ex.trans K0 k183
   have zw182 := k183.size
   refine rw_ev (ev_neb bool_4 rfl rfl) rfl rfl rfl ?_
   refine rw_ev (ev_move rfl) rfl rfl rfl ?_
   refine rw_ev (v := .int .i64 8) (ev_move rfl) (gd_ff rfl (dec_f (fun h_ => h_ rfl))) rfl rfl ?_
   refine rw_op (op_fn (xs := [.const (.bool false), .tmp 126]) ent_50 rfl (c_lives w182 false (8 : Int))) (gd_ff rfl (dec_f (fun h_ => h_ rfl))) rfl rfl ?_
   rintro _ w184 ⟨rfl, k185⟩
   replace K0 := Ex.trans K0 k185
   have zw184 := k185.size
   refine rw_ev (v := .int .i64 8) (ev_move rfl) (gd_ff rfl (dec_f (fun h_ => h_ rfl))) rfl rfl ?_
   refine rw_op (op_fn (xs := [.const (.bool false), .tmp 128]) ent_51 rfl (c_lives2 w184 false (8 : Int))) (gd_ff rfl (dec_f (fun h_ => h_ rfl))) rfl rfl ?_
   rintro _ w186 ⟨rfl, k187⟩
   replace K0 := Ex.trans K0 k187
   have zw186 := k187.size
   refine rw_ev (ev_neb bool_4 rfl rfl) (gd_ff rfl (dec_f (fun h_ => h_ rfl))) rfl rfl ?_
   refine rw_ev (ev_pk_f rfl (dec_f (fun h_ => h_ rfl)) rfl) rfl rfl rfl ?_
   refine rw_nil ?_
   refine nw_seq ?_
   refine cw_f (b := decide ((livesB false (8 : Int)) ≠ (livesB false (8 : Int)))) rfl (dec_f (fun h_ => h_ rfl)) ?_
   refine cw_skip ?_
   refine nw_block ?_
   refine nw_seq ?_
   refine cw_region ?_
   refine rw_ev (v := .int .i64 8) (ev_move rfl) rfl rfl rfl ?_
   refine rw_ev (v := .int .i64 9) (ev_add (p := 8) (q := 1) rfl rfl (by decide)) rfl rfl rfl ?_
   refine rw_ev (v := .int .i64 9) (ev_assign rfl) rfl rfl rfl ?_
   refine rw_nil ?_
   refine nw_again ?_
   refine cw_sub (e' := [(2, .int .i64 n), (8, .bool false), (9, .bool true), (25, .int .i64 ((runC ([]) n).2)), (27, .int .i64 ((runC ([]) n).2)), (28, .int .i64 9)]) (Sub.cons rfl (Sub.cons rfl (Sub.cons rfl (Sub.cons rfl (Sub.cons rfl (Sub.cons rfl Sub.nil)))))) ?_
   refine cw_seq ?_
   refine cw_seq ?_
   refine cw_region ?_
   refine rw_ev (v := .int .i64 9) (ev_move rfl) rfl rfl rfl ?_
   refine rw_ev (v := .bool true) (ev_lss (p := 9) (q := 10) rfl rfl) rfl rfl rfl ?_
   refine rw_nil ?_
   refine nw_seq ?_
   refine cw_t (b := true) rfl rfl ?_
   refine cw_skip ?_
   refine nw_seq ?_
   refine cw_seq ?_
   refine cw_block ?_
   refine cw_seq ?_
   refine cw_region ?_
   refine rw_ev (v := .int .i64 9) (ev_move rfl) rfl rfl rfl ?_
   refine rw_op (op_fn (xs := [.const (.bool true), .tmp 120]) ent_50 rfl (c_lives w186 true (9 : Int))) rfl rfl rfl ?_
   rintro _ w188 ⟨rfl, k189⟩
   replace K0 := Ex.trans K0 k189
   have zw188 := k189.size
   refine rw_ev (v := .int .i64 9) (ev_move rfl) rfl rfl rfl ?_
   refine rw_op (op_fn (xs := [.const (.bool true), .tmp 122]) ent_51 rfl (c_lives2 w188 true (9 : Int))) rfl rfl rfl ?_
   rintro _ w190 ⟨rfl, k191⟩
   replace K0 := Ex.trans K0 k191
   have zw190 := k191.size
   refine rw_ev (ev_neb bool_4 rfl rfl) rfl rfl rfl ?_
   refine rw_ev (ev_move rfl) rfl rfl rfl ?_
   refine rw_ev (v := .int .i64 9) (ev_move rfl) (gd_ff rfl (dec_f (fun h_ => h_ rfl))) rfl rfl ?_
   refine rw_op (op_fn (xs := [.const (.bool false), .tmp 126]) ent_50 rfl (c_lives w190 false (9 : Int))) (gd_ff rfl (dec_f (fun h_ => h_ rfl))) rfl rfl ?_
   rintro _ w192 ⟨rfl, k193⟩
   replace K0 := Ex.trans K0 k193
   have zw192 := k193.size
   refine rw_ev (v := .int .i64 9) (ev_move rfl) (gd_ff rfl (dec_f (fun h_ => h_ rfl))) rfl rfl ?_
   refine rw_op (op_fn (xs := [.const (.bool false), .tmp 128]) ent_51 rfl (c_lives2 w192 false (9 : Int))) (gd_ff rfl (dec_f (fun h_ => h_ rfl))) rfl rfl ?_
   rintro _ w194 ⟨rfl, k195⟩
   replace K0 := Ex.trans K0 k195
   have zw194 := k195.size
   refine rw_ev (ev_neb bool_4 rfl rfl) (gd_ff rfl (dec_f (fun h_ => h_ rfl))) rfl rfl ?_
   refine rw_ev (ev_pk_f rfl (dec_f (fun h_ => h_ rfl)) rfl) rfl rfl rfl ?_
   refine rw_nil ?_
   refine nw_seq ?_
   refine cw_f (b := decide ((livesB false (9 : Int)) ≠ (livesB false (9 : Int)))) rfl (dec_f (fun h_ => h_ rfl)) ?_
   refine cw_skip ?_
   refine nw_block ?_
   refine nw_seq ?_
   refine cw_region ?_
   refine rw_ev (v := .int .i64 9) (ev_move rfl) rfl rfl rfl ?_
   refine rw_ev (v := .int .i64 10) (ev_add (p := 9) (q := 1) rfl rfl (by decide)) rfl rfl rfl ?_
   refine rw_ev (v := .int .i64 10) (ev_assign rfl) rfl rfl rfl ?_
   refine rw_nil ?_
   refine nw_again ?_
   refine cw_sub (e' := [(2, .int .i64 n), (8, .bool false), (9, .bool true), (25, .int .i64 ((runC ([]) n).2)), (27, .int .i64 ((runC ([]) n).2)), (28, .int .i64 10)]) (Sub.cons rfl (Sub.cons rfl (Sub.cons rfl (Sub.cons rfl (Sub.cons rfl (Sub.cons rfl Sub.nil)))))) ?_
   refine cw_seq ?_
   refine cw_seq ?_
   refine cw_region ?_
   refine rw_ev (v := .int .i64 10) (ev_move rfl) rfl rfl rfl ?_
   refine rw_ev (v := .bool false) (ev_lss (p := 10) (q := 10) rfl rfl) rfl rfl rfl ?_
   refine rw_nil ?_
   refine nw_seq ?_
   refine cw_f (b := false) rfl rfl ?_
   refine cw_exit ?_
   refine xw_seq ?_
   refine xw_again ?_
   refine xw_hit ?_
   refine nw_seq ?_
   refine cw_seq ?_
   refine cw_region ?_
   refine rw_ev (ev_move rfl) rfl rfl rfl ?_
   refine rw_ev (ev_move rfl) rfl rfl rfl ?_
   refine rw_ev (ev_move rfl) rfl rfl rfl ?_
   refine rw_ev (ev_move rfl) rfl rfl rfl ?_
   refine rw_ev (ev_eq rfl rfl) rfl rfl rfl ?_
   refine rw_ev (ev_pk_t rfl rfl rfl) rfl rfl rfl ?_
   refine rw_ev (ev_move rfl) rfl rfl rfl ?_
   refine rw_ev (ev_move rfl) (gd_tt rfl (dec_t rfl)) rfl rfl ?_
   refine rw_ev (v := .int .i64 ((n).tmod 2)) (ev_remt (p := n) (q := 2) rfl rfl (by omega)) (gd_tt rfl (dec_t rfl)) rfl rfl ?_
   refine rw_ev (ev_eq rfl rfl) (gd_tt rfl (dec_t rfl)) rfl rfl ?_
   refine rw_ev (ev_move rfl) (gd_tt rfl (dec_t rfl)) rfl rfl ?_
   refine rw_op (op_fn (xs := [.tmp 141, .tmp 142]) ent_50 rfl (c_lives w194 (decide (((n).tmod 2) = 0)) n)) (gd_tt rfl (dec_t rfl)) rfl rfl ?_
   rintro _ w196 ⟨rfl, k197⟩
   replace K0 := Ex.trans K0 k197
   have zw196 := k197.size
   refine rw_ev (ev_move rfl) (gd_tt rfl (dec_t rfl)) rfl rfl ?_
   refine rw_ev (v := .int .i64 ((n).tmod 2)) (ev_remt (p := n) (q := 2) rfl rfl (by omega)) (gd_tt rfl (dec_t rfl)) rfl rfl ?_
   refine rw_ev (ev_eq rfl rfl) (gd_tt rfl (dec_t rfl)) rfl rfl ?_
   refine rw_ev (ev_move rfl) (gd_tt rfl (dec_t rfl)) rfl rfl ?_
   refine rw_op (op_fn (xs := [.tmp 146, .tmp 147]) ent_51 rfl (c_lives2 w196 (decide (((n).tmod 2) = 0)) n)) (gd_tt rfl (dec_t rfl)) rfl rfl ?_
   rintro _ w198 ⟨rfl, k199⟩
   replace K0 := Ex.trans K0 k199
   have zw198 := k199.size
   refine rw_ev (ev_eqb bool_4 rfl rfl) (gd_tt rfl (dec_t rfl)) rfl rfl ?_
   refine rw_ev (ev_pk_t rfl (dec_t rfl) rfl) rfl rfl rfl ?_
   refine rw_ev (ev_assign rfl) rfl rfl rfl ?_
   refine rw_nil ?_
   refine nw_seq ?_
   refine cw_ret ?_
   refine ret_post (rs := [.tmp 8]) (vs := [.bool (decide ((livesB (decide (((n).tmod 2) = 0)) n) = (livesB (decide (((n).tmod 2) = 0)) n)))]) rfl (.tmp rfl .nil) ?_
   refine ⟨?_, K0⟩
   · show (.bool (decide ((livesB (decide (((n).tmod 2) = 0)) n) = (livesB (decide (((n).tmod 2) = 0)) n))) : Value) = _
     first | rfl | simp

end Go.Proofs.Ythpaadmpgdglnaa
