/- The law LifeAll: it returns true. Its condition: raw numbers of 64 bits. -/
import Derived.Test.YthpaadmpgdglnaaFk
import Derived.Test.YthpaadmpgdglnaaDg
namespace Go.Proofs.Ythpaadmpgdglnaa
open Go Go.RowKit
set_option linter.unusedVariables false
set_option linter.unusedSimpArgs false
set_option maxRecDepth 100000
set_option maxHeartbeats 4000000

theorem law_LifeAll (w : World) (rv : Value) (raw : List Cell) (hrv : Sl w (fun b => b < w.heap.size) rv 2 (raw.map encC)) (hrvr : RawOk raw) : Fn Try.prog 14 [rv] w (fun v w' =>  v = .bool true ∧ Ex w w') := by
  have K0 : Ex w w := Kp.refl _ _
  refine fn_enter (n := 80) Try.func14 rfl rfl (Nat.le_of_ble_eq_true rfl) ?_
  show CW _ _ _ _ _ _ [(0, rv)] _
  have hlen_ := set_len raw
  obtain ⟨hN1_, _, _, _⟩ := set_next raw
  refine cw_seq ?_
  refine cw_region ?_
  refine rw_ev (ev_assign rfl) rfl rfl rfl ?_
  refine rw_nil ?_
  refine nw_seq ?_
  refine cw_seq ?_
  refine cw_region ?_
  refine rw_op (op_fn (xs := []) ent_43 rfl (c_awake2 w )) rfl rfl rfl ?_
  rintro _ w1 ⟨rfl, k2⟩
  replace K0 := Ex.trans K0 k2
  replace hrv := hrv.ex k2
  have zw1 := k2.size
  refine rw_ev (ev_assign rfl) rfl rfl rfl ?_
  refine rw_nil ?_
  refine nw_seq ?_
  refine cw_seq ?_
  refine cw_region ?_
  refine rw_ev (ev_move rfl) rfl rfl rfl ?_
  refine rw_op (op_fn (xs := [.tmp 15]) ent_44 rfl (c_set w1 rv raw (Sl.below hrv) (by exact hrvr))) rfl rfl rfl ?_
  rintro u3 w4 ⟨_, rfl, k5, sl6⟩
  replace K0 := Ex.trans K0 k5
  replace hrv := hrv.ex k5
  have zw4 := k5.size
  refine rw_ev (ev_assign rfl) rfl rfl rfl ?_
  refine rw_nil ?_
  refine nw_seq ?_
  refine cw_seq ?_
  refine cw_region ?_
  refine rw_ev (ev_move rfl) rfl rfl rfl ?_
  refine rw_op (op_fn (xs := [.tmp 18]) ent_47 rfl (c_next w4 u3 (setC raw) (Sl.below sl6))) rfl rfl rfl ?_
  rintro _ w8 ⟨u7, rfl, k9, sl10⟩
  replace K0 := Ex.trans K0 k9
  replace sl6 := sl6.ex k9
  have zw8 := k9.size
  refine rw_ev (ev_move rfl) rfl rfl rfl ?_
  refine rw_ev (ev_extract rfl rfl) rfl rfl rfl ?_
  refine rw_ev (ev_extract rfl rfl) rfl rfl rfl ?_
  refine rw_ev (ev_assign rfl) rfl rfl rfl ?_
  refine rw_ev (ev_assign rfl) rfl rfl rfl ?_
  refine rw_nil ?_
  refine nw_seq ?_
  refine cw_seq ?_
  refine cw_region ?_
  refine rw_ev (ev_assign rfl) rfl rfl rfl ?_
  refine rw_nil ?_
  refine nw_seq ?_
  refine cw_seq ?_
  refine cw_seq ?_
  refine cw_region ?_
  refine rw_ev (ev_assign rfl) rfl rfl rfl ?_
  refine rw_nil ?_
  refine nw_seq ?_
  refine cw_block ?_
  refine cw_loop (σ := Nat) (fun iy => [(2, .bool false), (3, .bool true), (4, u3), (5, u7), (6, .int .i64 ((nextC (setC raw)).2)), (7, .int .i64 (liveCnt (setC raw) iy 0)), (8, .int .i64 ((iy : Int) - 10))]) (fun iy wr => Ex w wr ∧ w8.heap.size ≤ wr.heap.size ∧ Sl wr (fun b => w1.heap.size ≤ b ∧ b < w4.heap.size) u3 2 ((setC raw).map encC) ∧ Sl wr (fun b => w4.heap.size ≤ b ∧ b < w8.heap.size) u7 2 (((nextC (setC raw)).1).map encC) ∧ iy ≤ 20) (fun iy => 20 - iy) 0 (Sub.cons rfl (Sub.cons rfl (Sub.cons rfl (Sub.cons rfl (Sub.cons rfl (Sub.int (b := (liveCnt (setC raw) 0 0)) rfl (by first | rfl | (rw [liveCnt_next]; have e_ : ix = 20 := (by omega); rw [e_])) (Sub.int (b := ((0 : Int) - 10)) rfl (by omega) Sub.nil))))))) ⟨K0, (Nat.le_refl _), sl6, sl10, (by omega)⟩ ?_
  rintro iy w11 ⟨K0, z12, f13, f14, pr15⟩
  show CW _ _ _ _ _ _ [(2, .bool false), (3, .bool true), (4, u3), (5, u7), (6, .int .i64 ((nextC (setC raw)).2)), (7, .int .i64 (liveCnt (setC raw) iy 0)), (8, .int .i64 ((iy : Int) - 10))] _
  refine cw_seq ?_
  refine cw_seq ?_
  refine cw_region ?_
  refine rw_ev (ev_move rfl) rfl rfl rfl ?_
  refine rw_ev (ev_lss rfl rfl) rfl rfl rfl ?_
  refine rw_nil ?_
  refine nw_seq ?_
  by_cases h16 : ((iy : Int) - 10) < 10
  ·
   refine cw_t (b := decide (((iy : Int) - 10) < 10)) rfl (dec_t h16) ?_
   refine cw_skip ?_
   refine nw_seq ?_
   refine cw_seq ?_
   refine cw_block ?_
   refine cw_seq ?_
   refine cw_region ?_
   refine rw_ev (ev_assign rfl) rfl rfl rfl ?_
   refine rw_nil ?_
   refine nw_seq ?_
   refine cw_block ?_
   refine cw_loop (σ := Nat) (fun ix => [(2, .bool false), (3, .bool true), (4, u3), (5, u7), (6, .int .i64 ((nextC (setC raw)).2)), (7, .int .i64 (liveCnt (setC raw) iy ix)), (8, .int .i64 ((iy : Int) - 10)), (9, .int .i64 ((ix : Int) - 10))]) (fun ix wr => Ex w wr ∧ w11.heap.size ≤ wr.heap.size ∧ Sl wr (fun b => w1.heap.size ≤ b ∧ b < w4.heap.size) u3 2 ((setC raw).map encC) ∧ Sl wr (fun b => w4.heap.size ≤ b ∧ b < w8.heap.size) u7 2 (((nextC (setC raw)).1).map encC) ∧ ix ≤ 20) (fun ix => 20 - ix) 0 (Sub.cons rfl (Sub.cons rfl (Sub.cons rfl (Sub.cons rfl (Sub.cons rfl (Sub.cons rfl (Sub.cons rfl (Sub.int (b := ((0 : Int) - 10)) rfl (by omega) Sub.nil)))))))) ⟨K0, (Nat.le_refl _), f13, f14, (by omega)⟩ ?_
   rintro ix w17 ⟨K0, z18, f19, f20, pr21⟩
   show CW _ _ _ _ _ _ [(2, .bool false), (3, .bool true), (4, u3), (5, u7), (6, .int .i64 ((nextC (setC raw)).2)), (7, .int .i64 (liveCnt (setC raw) iy ix)), (8, .int .i64 ((iy : Int) - 10)), (9, .int .i64 ((ix : Int) - 10))] _
   have hl_ := liveCnt_bd (setC raw) iy ix
   refine cw_seq ?_
   refine cw_seq ?_
   refine cw_region ?_
   refine rw_ev (ev_move rfl) rfl rfl rfl ?_
   refine rw_ev (ev_lss rfl rfl) rfl rfl rfl ?_
   refine rw_nil ?_
   refine nw_seq ?_
   by_cases h22 : ((ix : Int) - 10) < 10
   ·
    refine cw_t (b := decide (((ix : Int) - 10) < 10)) rfl (dec_t h22) ?_
    refine cw_skip ?_
    refine nw_seq ?_
    refine cw_seq ?_
    refine cw_block ?_
    refine cw_seq ?_
    refine cw_region ?_
    refine rw_ev (ev_assign rfl) rfl rfl rfl ?_
    refine rw_nil ?_
    refine nw_seq ?_
    refine cw_seq ?_
    refine cw_seq ?_
    refine cw_region ?_
    refine rw_ev (ev_assign rfl) rfl rfl rfl ?_
    refine rw_nil ?_
    refine nw_seq ?_
    refine cw_block ?_
    refine cw_loop (σ := Nat) (fun k => [(2, .bool false), (3, .bool true), (4, u3), (5, u7), (6, .int .i64 ((nextC (setC raw)).2)), (7, .int .i64 (liveCnt (setC raw) iy ix)), (8, .int .i64 ((iy : Int) - 10)), (9, .int .i64 ((ix : Int) - 10)), (10, .int .i64 (nearCnt (setC raw) (((ix : Int) - 10), ((iy : Int) - 10)) k)), (11, .int .i64 (k : Int))]) (fun k wr => Ex w wr ∧ w17.heap.size ≤ wr.heap.size ∧ Sl wr (fun b => w1.heap.size ≤ b ∧ b < w4.heap.size) u3 2 ((setC raw).map encC) ∧ Sl wr (fun b => w4.heap.size ≤ b ∧ b < w8.heap.size) u7 2 (((nextC (setC raw)).1).map encC) ∧ k ≤ 9) (fun k => 9 - k) 0 (Sub.cons rfl (Sub.cons rfl (Sub.cons rfl (Sub.cons rfl (Sub.cons rfl (Sub.cons rfl (Sub.cons rfl (Sub.cons rfl (Sub.int (b := (nearCnt (setC raw) (((ix : Int) - 10), ((iy : Int) - 10)) 0)) rfl (by first | rfl | exact (nearCnt_yes (by omega) (by assumption)).symm | exact (nearCnt_no (.inl (by omega))).symm | exact (nearCnt_no (.inr (by assumption))).symm) (Sub.int (b := (0 : Int)) rfl (by omega) Sub.nil)))))))))) ⟨K0, (Nat.le_refl _), f19, f20, (by omega)⟩ ?_
    rintro k w23 ⟨K0, z24, f25, f26, pr27⟩
    show CW _ _ _ _ _ _ [(2, .bool false), (3, .bool true), (4, u3), (5, u7), (6, .int .i64 ((nextC (setC raw)).2)), (7, .int .i64 (liveCnt (setC raw) iy ix)), (8, .int .i64 ((iy : Int) - 10)), (9, .int .i64 ((ix : Int) - 10)), (10, .int .i64 (nearCnt (setC raw) (((ix : Int) - 10), ((iy : Int) - 10)) k)), (11, .int .i64 (k : Int))] _
    have hk_ := nearCnt_bd (setC raw) (((ix : Int) - 10), ((iy : Int) - 10)) k
    refine cw_seq ?_
    refine cw_seq ?_
    refine cw_region ?_
    refine rw_ev (ev_move rfl) rfl rfl rfl ?_
    refine rw_ev (ev_lss rfl rfl) rfl rfl rfl ?_
    refine rw_nil ?_
    refine nw_seq ?_
    by_cases h28 : (k : Int) < 9
    ·
     refine cw_t (b := decide ((k : Int) < 9)) rfl (dec_t h28) ?_
     refine cw_skip ?_
     refine nw_seq ?_
     refine cw_seq ?_
     refine cw_block ?_
     refine cw_seq ?_
     refine cw_region ?_
     refine rw_ev (ev_move rfl) rfl rfl rfl ?_
     refine rw_ev (ev_ne rfl rfl) rfl rfl rfl ?_
     refine rw_ev (ev_move rfl) rfl rfl rfl ?_
     by_cases h29 : (k : Int) ≠ 4
     ·
      refine rw_ev (ev_move rfl) (gd_tt rfl (dec_t h29)) rfl rfl ?_
      refine rw_ev (ev_move rfl) (gd_tt rfl (dec_t h29)) rfl rfl ?_
      refine rw_ev (ev_move rfl) (gd_tt rfl (dec_t h29)) rfl rfl ?_
      refine rw_ev (ev_rem rfl rfl (by omega)) (gd_tt rfl (dec_t h29)) rfl rfl ?_
      refine rw_ev (ev_add rfl rfl (by omega)) (gd_tt rfl (dec_t h29)) rfl rfl ?_
      refine rw_ev (ev_sub rfl rfl (by omega)) (gd_tt rfl (dec_t h29)) rfl rfl ?_
      refine rw_ev (ev_move rfl) (gd_tt rfl (dec_t h29)) rfl rfl ?_
      refine rw_ev (ev_move rfl) (gd_tt rfl (dec_t h29)) rfl rfl ?_
      refine rw_ev (ev_quo rfl rfl (by omega)) (gd_tt rfl (dec_t h29)) rfl rfl ?_
      refine rw_ev (ev_add rfl rfl (by omega)) (gd_tt rfl (dec_t h29)) rfl rfl ?_
      refine rw_ev (ev_sub rfl rfl (by omega)) (gd_tt rfl (dec_t h29)) rfl rfl ?_
      refine rw_ev (v := .agg #[.int .i64 ((((ix : Int) - 10) + ((k : Int) % 3)) - 1), .int .i64 ((((iy : Int) - 10) + ((k : Int) / 3)) - 1)]) (ev_pure rfl rfl (fun _ => by kernel_rfl)) (gd_tt rfl (dec_t h29)) rfl rfl ?_
      refine rw_op (op_fn (xs := [.tmp 37, .tmp 48]) ent_55 rfl (c_has w23 u3 (setC raw) (Sl.below f25) ((((ix : Int) - 10) + ((k : Int) % 3)) - 1, (((iy : Int) - 10) + ((k : Int) / 3)) - 1))) (gd_tt rfl (dec_t h29)) rfl rfl ?_
      rintro _ w30 ⟨rfl, k31⟩
      replace K0 := Ex.trans K0 k31
      replace f25 := f25.ex k31
      replace f26 := f26.ex k31
      have zw30 := k31.size
      refine rw_ev (ev_pk_t rfl (dec_t h29) rfl) rfl rfl rfl ?_
      refine rw_nil ?_
      refine nw_seq ?_
      rcases Bool.eq_false_or_eq_true (hasC (setC raw) ((((ix : Int) - 10) + ((k : Int) % 3)) - 1, (((iy : Int) - 10) + ((k : Int) / 3)) - 1)) with h32 | h32
      ·
       refine cw_t (b := hasC (setC raw) ((((ix : Int) - 10) + ((k : Int) % 3)) - 1, (((iy : Int) - 10) + ((k : Int) / 3)) - 1)) rfl h32 ?_
       refine cw_region ?_
       refine rw_ev (ev_move rfl) rfl rfl rfl ?_
       refine rw_ev (ev_add rfl rfl (by omega)) rfl rfl rfl ?_
       refine rw_ev (ev_assign rfl) rfl rfl rfl ?_
       refine rw_nil ?_
       refine nw_block ?_
       refine nw_seq ?_
       refine cw_region ?_
       refine rw_ev (ev_move rfl) rfl rfl rfl ?_
       refine rw_ev (ev_add rfl rfl (by omega)) rfl rfl rfl ?_
       refine rw_ev (ev_assign rfl) rfl rfl rfl ?_
       refine rw_nil ?_
       exact nw_round (k + 1) (Sub.cons rfl (Sub.cons rfl (Sub.cons rfl (Sub.cons rfl (Sub.cons rfl (Sub.cons rfl (Sub.cons rfl (Sub.cons rfl (Sub.int (b := (nearCnt (setC raw) (((ix : Int) - 10), ((iy : Int) - 10)) (k + 1))) rfl (by first | rfl | exact (nearCnt_yes (by omega) (by assumption)).symm | exact (nearCnt_no (.inl (by omega))).symm | exact (nearCnt_no (.inr (by assumption))).symm) (Sub.int (b := ((k + 1) : Int)) rfl (by omega) Sub.nil)))))))))) ⟨K0, (Nat.le_trans z24 zw30), f25, f26, (by omega)⟩ (by first | omega | (dsimp only; omega))
      ·
       refine cw_f (b := hasC (setC raw) ((((ix : Int) - 10) + ((k : Int) % 3)) - 1, (((iy : Int) - 10) + ((k : Int) / 3)) - 1)) rfl h32 ?_
       refine cw_skip ?_
       refine nw_block ?_
       refine nw_seq ?_
       refine cw_region ?_
       refine rw_ev (ev_move rfl) rfl rfl rfl ?_
       refine rw_ev (ev_add rfl rfl (by omega)) rfl rfl rfl ?_
       refine rw_ev (ev_assign rfl) rfl rfl rfl ?_
       refine rw_nil ?_
       exact nw_round (k + 1) (Sub.cons rfl (Sub.cons rfl (Sub.cons rfl (Sub.cons rfl (Sub.cons rfl (Sub.cons rfl (Sub.cons rfl (Sub.cons rfl (Sub.int (b := (nearCnt (setC raw) (((ix : Int) - 10), ((iy : Int) - 10)) (k + 1))) rfl (by first | rfl | exact (nearCnt_yes (by omega) (by assumption)).symm | exact (nearCnt_no (.inl (by omega))).symm | exact (nearCnt_no (.inr (by assumption))).symm) (Sub.int (b := ((k + 1) : Int)) rfl (by omega) Sub.nil)))))))))) ⟨K0, (Nat.le_trans z24 zw30), f25, f26, (by omega)⟩ (by first | omega | (dsimp only; omega))
     ·
      refine rw_skip (gd_tf rfl (dec_f h29)) rfl rfl ?_
      refine rw_skip (gd_tf rfl (dec_f h29)) rfl rfl ?_
      refine rw_skip (gd_tf rfl (dec_f h29)) rfl rfl ?_
      refine rw_skip (gd_tf rfl (dec_f h29)) rfl rfl ?_
      refine rw_skip (gd_tf rfl (dec_f h29)) rfl rfl ?_
      refine rw_skip (gd_tf rfl (dec_f h29)) rfl rfl ?_
      refine rw_skip (gd_tf rfl (dec_f h29)) rfl rfl ?_
      refine rw_skip (gd_tf rfl (dec_f h29)) rfl rfl ?_
      refine rw_skip (gd_tf rfl (dec_f h29)) rfl rfl ?_
      refine rw_skip (gd_tf rfl (dec_f h29)) rfl rfl ?_
      refine rw_skip (gd_tf rfl (dec_f h29)) rfl rfl ?_
      refine rw_skip (gd_tf rfl (dec_f h29)) rfl rfl ?_
      refine rw_skip (gd_tf rfl (dec_f h29)) rfl rfl ?_
      refine rw_ev (ev_pk_f rfl (dec_f h29) rfl) rfl rfl rfl ?_
      refine rw_nil ?_
      refine nw_seq ?_
      refine cw_f (b := false) rfl rfl ?_
      refine cw_skip ?_
      refine nw_block ?_
      refine nw_seq ?_
      refine cw_region ?_
      refine rw_ev (ev_move rfl) rfl rfl rfl ?_
      refine rw_ev (ev_add rfl rfl (by omega)) rfl rfl rfl ?_
      refine rw_ev (ev_assign rfl) rfl rfl rfl ?_
      refine rw_nil ?_
      exact nw_round (k + 1) (Sub.cons rfl (Sub.cons rfl (Sub.cons rfl (Sub.cons rfl (Sub.cons rfl (Sub.cons rfl (Sub.cons rfl (Sub.cons rfl (Sub.int (b := (nearCnt (setC raw) (((ix : Int) - 10), ((iy : Int) - 10)) (k + 1))) rfl (by first | rfl | exact (nearCnt_yes (by omega) (by assumption)).symm | exact (nearCnt_no (.inl (by omega))).symm | exact (nearCnt_no (.inr (by assumption))).symm) (Sub.int (b := ((k + 1) : Int)) rfl (by omega) Sub.nil)))))))))) ⟨K0, z24, f25, f26, (by omega)⟩ (by first | omega | (dsimp only; omega))
    ·
     refine cw_f (b := decide ((k : Int) < 9)) rfl (dec_f h28) ?_
     refine cw_exit ?_
     refine xw_seq ?_
     refine xw_goal ?_
     refine xw_hit ?_
     refine nw_seq ?_
     refine cw_seq ?_
     refine cw_region ?_
     refine rw_ev (ev_move rfl) rfl rfl rfl ?_
     refine rw_ev (ev_move rfl) rfl rfl rfl ?_
     refine rw_ev (v := .agg #[.int .i64 ((ix : Int) - 10), .int .i64 ((iy : Int) - 10)]) (ev_pure rfl rfl (fun _ => by kernel_rfl)) rfl rfl rfl ?_
     refine rw_op (op_alloc zero_55) rfl rfl rfl ?_
     rintro _ w34 ⟨g33, rfl, hg35, k36, b37⟩
     replace K0 := Ex.trans K0 k36
     replace f25 := f25.ex k36
     replace f26 := f26.ex k36
     have zw34 := k36.size
     have lg33 := b37.lt
     refine rw_none (op_store (off := 0) (v := .agg #[.int .i64 ((ix : Int) - 10), .int .i64 ((iy : Int) - 10)]) (cs' := #[.int .i64 ((ix : Int) - 10), .int .i64 ((iy : Int) - 10)]) b37 rfl rfl size_55 rfl (Nat.le_of_ble_eq_true rfl) (one_cons rfl (one_cons rfl one_nil)) rfl) rfl rfl ?_
     rintro _ w38 ⟨k39, b40⟩
     replace K0 := Ex.kp_new K0 k39 (fun _ h => h ▸ Nat.le_trans (Nat.le_trans zw1 (Nat.le_trans zw4 (Nat.le_trans zw8 (Nat.le_trans z12 (Nat.le_trans z18 z24))))) hg35)
     replace f25 := f25.kp k39 (fun b h e => Nat.lt_irrefl _ (Nat.lt_of_lt_of_le (show g33 < _ from e ▸ (show b < _ from h.2)) (Nat.le_trans (Nat.le_trans zw8 (Nat.le_trans z12 (Nat.le_trans z18 z24))) hg35)))
     replace f26 := f26.kp k39 (fun b h e => Nat.lt_irrefl _ (Nat.lt_of_lt_of_le (show g33 < _ from e ▸ (show b < _ from h.2)) (Nat.le_trans (Nat.le_trans z12 (Nat.le_trans z18 z24)) hg35)))
     have zw38 := k39.size
     refine rw_nil ?_
     refine nw_seq ?_
     refine cw_seq ?_
     refine cw_region ?_
     refine rw_ev (ev_move rfl) rfl rfl rfl ?_
     refine rw_ev (v := .agg #[.int .i64 ((ix : Int) - 10), .int .i64 ((iy : Int) - 10)]) (ev_lbk (off := 0) (vs := [.int .i64 ((ix : Int) - 10), .int .i64 ((iy : Int) - 10)]) (fun _ h => h ▸ b40) rfl agg_55 rfl rfl) rfl rfl rfl ?_
     refine rw_op (op_fn (xs := [.tmp 56, .tmp 57]) ent_55 rfl (c_has w38 u3 (setC raw) (Sl.below f25) (((ix : Int) - 10), ((iy : Int) - 10)))) rfl rfl rfl ?_
     rintro _ w41 ⟨rfl, k42⟩
     replace K0 := Ex.trans K0 k42
     replace f25 := f25.ex k42
     replace f26 := f26.ex k42
     replace b40 := b40.ex k42
     have zw41 := k42.size
     refine rw_ev (ev_move rfl) rfl rfl rfl ?_
     refine rw_op (op_fn (xs := [.tmp 58, .tmp 59]) ent_50 rfl (c_lives w41 (hasC (setC raw) (((ix : Int) - 10), ((iy : Int) - 10))) (nearCnt (setC raw) (((ix : Int) - 10), ((iy : Int) - 10)) k))) rfl rfl rfl ?_
     rintro _ w43 ⟨rfl, k44⟩
     replace K0 := Ex.trans K0 k44
     replace f25 := f25.ex k44
     replace f26 := f26.ex k44
     replace b40 := b40.ex k44
     have zw43 := k44.size
     refine rw_ev (ev_assign rfl) rfl rfl rfl ?_
     refine rw_nil ?_
     refine nw_seq ?_
     refine cw_seq ?_
     refine cw_seq ?_
     refine cw_region ?_
     refine rw_ev (ev_move rfl) rfl rfl rfl ?_
     refine rw_ev (ev_move rfl) rfl rfl rfl ?_
     refine rw_ev (v := .agg #[.int .i64 ((ix : Int) - 10), .int .i64 ((iy : Int) - 10)]) (ev_lbk (off := 0) (vs := [.int .i64 ((ix : Int) - 10), .int .i64 ((iy : Int) - 10)]) (fun _ h => h ▸ b40) rfl agg_55 rfl rfl) rfl rfl rfl ?_
     refine rw_op (op_fn (xs := [.tmp 62, .tmp 63]) ent_55 rfl (c_has w43 u7 ((nextC (setC raw)).1) (Sl.below f26) (((ix : Int) - 10), ((iy : Int) - 10)))) rfl rfl rfl ?_
     rintro _ w45 ⟨rfl, k46⟩
     replace K0 := Ex.trans K0 k46
     replace f25 := f25.ex k46
     replace f26 := f26.ex k46
     replace b40 := b40.ex k46
     have zw45 := k46.size
     refine rw_ev (ev_neb bool_4 rfl rfl) rfl rfl rfl ?_
     refine rw_nil ?_
     refine nw_seq ?_
     refine cw_f (b := decide ((livesB (hasC (setC raw) (((ix : Int) - 10), ((iy : Int) - 10))) (nearCnt (setC raw) (((ix : Int) - 10), ((iy : Int) - 10)) k)) ≠ (hasC ((nextC (setC raw)).1) (((ix : Int) - 10), ((iy : Int) - 10))))) rfl (dec_f (by have e_ : k = 9 := (by omega); subst e_; exact fun h_ => h_ (all_has raw (((ix : Int) - 10), ((iy : Int) - 10))))) ?_
     refine cw_skip ?_
     refine nw_seq ?_
     refine cw_seq ?_
     refine cw_region ?_
     refine rw_ev (ev_move rfl) rfl rfl rfl ?_
     refine rw_nil ?_
     refine nw_seq ?_
     rcases Bool.eq_false_or_eq_true (livesB (hasC (setC raw) (((ix : Int) - 10), ((iy : Int) - 10))) (nearCnt (setC raw) (((ix : Int) - 10), ((iy : Int) - 10)) k)) with h47 | h47
     ·
      refine cw_t (b := livesB (hasC (setC raw) (((ix : Int) - 10), ((iy : Int) - 10))) (nearCnt (setC raw) (((ix : Int) - 10), ((iy : Int) - 10)) k)) rfl h47 ?_
      refine cw_region ?_
      refine rw_ev (ev_move rfl) rfl rfl rfl ?_
      refine rw_ev (ev_add rfl rfl (by omega)) rfl rfl rfl ?_
      refine rw_ev (ev_assign rfl) rfl rfl rfl ?_
      refine rw_nil ?_
      refine nw_block ?_
      refine nw_seq ?_
      refine cw_region ?_
      refine rw_ev (ev_move rfl) rfl rfl rfl ?_
      refine rw_ev (ev_add rfl rfl (by omega)) rfl rfl rfl ?_
      refine rw_ev (ev_assign rfl) rfl rfl rfl ?_
      refine rw_nil ?_
      exact nw_round (ix + 1) (Sub.cons rfl (Sub.cons rfl (Sub.cons rfl (Sub.cons rfl (Sub.cons rfl (Sub.int (b := (liveCnt (setC raw) iy (ix + 1))) rfl (by have e_ : k = 9 := (by omega); subst e_; first | exact (liveCnt_yes (by rw [← all_alive]; assumption)).symm | exact (liveCnt_no (by rw [← all_alive]; assumption)).symm) (Sub.cons rfl (Sub.int (b := (((ix + 1) : Int) - 10)) rfl (by omega) Sub.nil)))))))) ⟨K0, (Nat.le_trans z18 (Nat.le_trans z24 (Nat.le_trans zw34 (Nat.le_trans zw38 (Nat.le_trans zw41 (Nat.le_trans zw43 zw45)))))), f25, f26, (by omega)⟩ (by first | omega | (dsimp only; omega))
     ·
      refine cw_f (b := livesB (hasC (setC raw) (((ix : Int) - 10), ((iy : Int) - 10))) (nearCnt (setC raw) (((ix : Int) - 10), ((iy : Int) - 10)) k)) rfl h47 ?_
      refine cw_skip ?_
      refine nw_block ?_
      refine nw_seq ?_
      refine cw_region ?_
      refine rw_ev (ev_move rfl) rfl rfl rfl ?_
      refine rw_ev (ev_add rfl rfl (by omega)) rfl rfl rfl ?_
      refine rw_ev (ev_assign rfl) rfl rfl rfl ?_
      refine rw_nil ?_
      exact nw_round (ix + 1) (Sub.cons rfl (Sub.cons rfl (Sub.cons rfl (Sub.cons rfl (Sub.cons rfl (Sub.int (b := (liveCnt (setC raw) iy (ix + 1))) rfl (by have e_ : k = 9 := (by omega); subst e_; first | exact (liveCnt_yes (by rw [← all_alive]; assumption)).symm | exact (liveCnt_no (by rw [← all_alive]; assumption)).symm) (Sub.cons rfl (Sub.int (b := (((ix + 1) : Int) - 10)) rfl (by omega) Sub.nil)))))))) ⟨K0, (Nat.le_trans z18 (Nat.le_trans z24 (Nat.le_trans zw34 (Nat.le_trans zw38 (Nat.le_trans zw41 (Nat.le_trans zw43 zw45)))))), f25, f26, (by omega)⟩ (by first | omega | (dsimp only; omega))
   ·
    refine cw_f (b := decide (((ix : Int) - 10) < 10)) rfl (dec_f h22) ?_
    refine cw_exit ?_
    refine xw_seq ?_
    refine xw_goal ?_
    refine xw_hit ?_
    refine nw_block ?_
    refine nw_seq ?_
    refine cw_region ?_
    refine rw_ev (ev_move rfl) rfl rfl rfl ?_
    refine rw_ev (ev_add rfl rfl (by omega)) rfl rfl rfl ?_
    refine rw_ev (ev_assign rfl) rfl rfl rfl ?_
    refine rw_nil ?_
    exact nw_round (iy + 1) (Sub.cons rfl (Sub.cons rfl (Sub.cons rfl (Sub.cons rfl (Sub.cons rfl (Sub.int (b := (liveCnt (setC raw) (iy + 1) 0)) rfl (by first | rfl | (rw [liveCnt_next]; have e_ : ix = 20 := (by omega); rw [e_])) (Sub.int (b := (((iy + 1) : Int) - 10)) rfl (by omega) Sub.nil))))))) ⟨K0, (Nat.le_trans z12 z18), f19, f20, (by omega)⟩ (by first | omega | (dsimp only; omega))
  ·
   refine cw_f (b := decide (((iy : Int) - 10) < 10)) rfl (dec_f h16) ?_
   refine cw_exit ?_
   refine xw_seq ?_
   refine xw_goal ?_
   refine xw_hit ?_
   refine nw_seq ?_
   refine cw_seq ?_
   refine cw_region ?_
   refine rw_ev (ev_move rfl) rfl rfl rfl ?_
   refine rw_ev (ev_move rfl) rfl rfl rfl ?_
   refine rw_ev (ev_move rfl) rfl rfl rfl ?_
   refine rw_ev (ev_eq rfl rfl) rfl rfl rfl ?_
   refine rw_ev (ev_pk_t rfl rfl rfl) rfl rfl rfl ?_
   refine rw_ev (ev_move rfl) rfl rfl rfl ?_
   refine rw_ev (ev_move rfl) (gd_tt rfl (dec_t (by rw [hN1_]))) rfl rfl ?_
   refine rw_ev (ev_move rfl) (gd_tt rfl (dec_t (by rw [hN1_]))) rfl rfl ?_
   refine rw_ev (v := .int .i64 (((nextC (setC raw)).1).length : Int)) (ev_lenm (l := (nextC (setC raw)).1) ⟨_, f14⟩ rfl el_46 rfl) (gd_tt rfl (dec_t (by rw [hN1_]))) rfl rfl ?_
   refine rw_ev (ev_eq rfl rfl) (gd_tt rfl (dec_t (by rw [hN1_]))) rfl rfl ?_
   refine rw_ev (ev_pk_t rfl (dec_t (by rw [hN1_])) rfl) rfl rfl rfl ?_
   refine rw_ev (ev_assign rfl) rfl rfl rfl ?_
   refine rw_nil ?_
   refine nw_seq ?_
   refine cw_ret ?_
   refine ret_post (rs := [.tmp 2]) (vs := [.bool (decide ((liveCnt (setC raw) iy 0) = (((nextC (setC raw)).1).length : Int)))]) rfl (.tmp rfl .nil) ?_
   refine ⟨?_, K0⟩
   · show (.bool (decide ((liveCnt (setC raw) iy 0) = (((nextC (setC raw)).1).length : Int))) : Value) = _
     refine congrArg Value.bool ?_
     have e_ : iy = 20 := by omega
     subst e_
     exact decide_eq_true (all_law raw)

end Go.Proofs.Ythpaadmpgdglnaa
