/- What life.counts tells. Each theorem names its conditions. -/
import Derived.Test.YthpaadmpgdglnaaF3
import Derived.Test.YthpaadmpgdglnaaKf
namespace Go.Proofs.Ythpaadmpgdglnaa
open Go Go.RowKit
set_option linter.unusedVariables false
set_option linter.unusedSimpArgs false
set_option maxRecDepth 100000
set_option maxHeartbeats 4000000

theorem c_counts (w : World) (v : Value) (l : List Cell) (hv : Sl w (fun b => b < w.heap.size) v 2 (l.map encC)) (hr : rightC l = true) : Fn Try.prog 94 [v] w (fun v w' => ∃ m : Nat, v = .map (some m) ∧ Ex w w' ∧ w.heap.size ≤ m ∧ m < w'.heap.size ∧ MapAt w' m keyC valI (countsM l)) := by
  have K0 : Ex w w := Kp.refl _ _
  refine fn_enter (n := 45) Try.func94 rfl rfl (Nat.le_of_ble_eq_true rfl) ?_
  show CW _ _ _ _ _ _ [(0, v)] _
  have hlv_ := hv.lenm
  refine cw_seq ?_
  refine cw_region ?_
  refine rw_ev (ev_assign rfl) rfl rfl rfl ?_
  refine rw_nil ?_
  refine nw_seq ?_
  refine cw_seq ?_
  refine cw_region ?_
  refine rw_op (op_makeMap (fk := keyC) (fv := valI)) rfl rfl rfl ?_
  rintro _ w2 ⟨m1, rfl, hm3, k4, mp5⟩
  replace K0 := Ex.trans K0 k4
  replace hv := hv.ex k4
  have zw2 := k4.size
  have lm1 := mp5.lt
  refine rw_ev (ev_assign rfl) rfl rfl rfl ?_
  refine rw_nil ?_
  refine nw_seq ?_
  refine cw_seq ?_
  refine cw_seq ?_
  refine cw_region ?_
  refine rw_ev (ev_move rfl) rfl rfl rfl ?_
  refine rw_ev (v := .int .i64 (l.length : Int)) (ev_lenm (l := l) ⟨_, hv⟩ rfl el_46 rfl) rfl rfl rfl ?_
  refine rw_ev (ev_move rfl) rfl rfl rfl ?_
  refine rw_nil ?_
  refine nw_seq ?_
  refine cw_block ?_
  refine cw_loop (σ := Nat) (fun i => [(2, .map none), (3, .map (some m1)), (9, v), (10, .int .i64 (l.length : Int)), (11, .int .i64 (i : Int))]) (fun i wr => Ex w wr ∧ w2.heap.size ≤ wr.heap.size ∧ Sl wr (fun b => b < w.heap.size) v 2 (l.map encC) ∧ MapAt wr m1 keyC valI (countsM (l.take i)) ∧ i ≤ l.length) (fun i => l.length - i) 0 (Sub.cons rfl (Sub.cons rfl (Sub.cons rfl (Sub.cons rfl (Sub.int (b := (0 : Int)) rfl (by omega) Sub.nil))))) ⟨K0, (Nat.le_refl _), hv, (by have hq := mp5; first | exact hq | (rw [counts_succ (by assumption : l[i]? = some _)]; exact hq)), (by omega)⟩ ?_
  rintro i w6 ⟨K0, z7, f8, f9, pr10⟩
  show CW _ _ _ _ _ _ [(2, .map none), (3, .map (some m1)), (9, v), (10, .int .i64 (l.length : Int)), (11, .int .i64 (i : Int))] _
  have hb0_ := counts_bd0 l i (right_len hr)
  refine cw_seq ?_
  refine cw_region ?_
  refine rw_ev (ev_lss rfl rfl) rfl rfl rfl ?_
  refine rw_nil ?_
  refine nw_seq ?_
  refine cw_seq ?_
  by_cases h11 : (i : Int) < (l.length : Int)
  ·
   refine cw_t (b := decide ((i : Int) < (l.length : Int))) rfl (dec_t h11) ?_
   refine cw_skip ?_
   refine nw_seq ?_
   refine cw_seq ?_
   refine cw_block ?_
   refine cw_seq ?_
   refine cw_region ?_
   obtain ⟨c12, hc13⟩ := get_of (l := l) (i := i) (by omega)
   obtain ⟨_, _, _, _⟩ := right_in hr hc13
   refine rw_ev (v := elemPtr v i 2 0) (ev_slAt (i := (i : Int)) ⟨_, f8⟩ rfl rfl el_46 (idx_ok (i := (i : Int)) hc13 (by omega))) rfl rfl rfl ?_
   refine rw_ev (v := .agg #[.int .i64 c12.1, .int .i64 c12.2]) (ev_elLoadk (us := [.int .i64 c12.1, .int .i64 c12.2]) (fun _ h => h ▸ f8) ⟨_, rfl⟩ rfl (get_enc (f := encC) hc13) agg_55 (by decide) rfl rfl) rfl rfl rfl ?_
   refine rw_op (op_alloc zero_55) rfl rfl rfl ?_
   rintro _ w15 ⟨g14, rfl, hg16, k17, b18⟩
   replace K0 := Ex.trans K0 k17
   replace f8 := f8.ex k17
   replace f9 := f9.ex k17
   have zw15 := k17.size
   have lg14 := b18.lt
   refine rw_none (op_store (off := 0) (v := .agg #[.int .i64 c12.1, .int .i64 c12.2]) (cs' := #[.int .i64 c12.1, .int .i64 c12.2]) b18 rfl rfl size_55 rfl (Nat.le_of_ble_eq_true rfl) (one_cons rfl (one_cons rfl one_nil)) rfl) rfl rfl ?_
   rintro _ w19 ⟨k20, b21⟩
   replace K0 := Ex.kp_new K0 k20 (fun _ h => h ▸ Nat.le_trans (Nat.le_trans zw2 z7) hg16)
   replace f8 := f8.kp k20 (fun b h e => Nat.lt_irrefl _ (Nat.lt_of_lt_of_le (show g14 < _ from e ▸ (show b < _ from h)) (Nat.le_trans (Nat.le_trans zw2 z7) hg16)))
   replace f9 := f9.kp k20 (Nat.ne_of_lt (Nat.lt_of_lt_of_le lm1 (Nat.le_trans z7 hg16)))
   have zw19 := k20.size
   refine rw_nil ?_
   refine nw_seq ?_
   refine cw_seq ?_
   refine cw_seq ?_
   refine cw_region ?_
   refine rw_ev (ev_assign rfl) rfl rfl rfl ?_
   refine rw_nil ?_
   refine nw_seq ?_
   refine cw_block ?_
   refine cw_rounds 3 ?_
   refine cw_seq ?_
   refine cw_seq ?_
   refine cw_region ?_
   refine rw_ev (ev_move rfl) rfl rfl rfl ?_
   refine rw_ev (v := .bool true) (ev_leq (p := (-1)) (q := 1) rfl rfl) rfl rfl rfl ?_
   refine rw_nil ?_
   refine nw_seq ?_
   refine cw_t (b := true) rfl rfl ?_
   refine cw_skip ?_
   refine nw_seq ?_
   refine cw_seq ?_
   refine cw_block ?_
   refine cw_seq ?_
   refine cw_region ?_
   refine rw_ev (ev_assign rfl) rfl rfl rfl ?_
   refine rw_nil ?_
   refine nw_seq ?_
   refine cw_block ?_
   refine cw_rounds 3 ?_
   refine cw_seq ?_
   refine cw_seq ?_
   refine cw_region ?_
   refine rw_ev (ev_move rfl) rfl rfl rfl ?_
   refine rw_ev (v := .bool true) (ev_leq (p := (-1)) (q := 1) rfl rfl) rfl rfl rfl ?_
   refine rw_nil ?_
   refine nw_seq ?_
   refine cw_t (b := true) rfl rfl ?_
   refine cw_skip ?_
   refine nw_seq ?_
   refine cw_seq ?_
   refine cw_block ?_
   refine cw_drawn (fun w22 w_ => Kp (fun k_ => k_ = m1) w22 w_ ∧ ∃ l_, MapAt w_ m1 keyC valI l_ ∧ ∀ x_, (getM l_ x_).getD 0 = (getM (countsM (l.take i)) x_).getD 0) [14] (.take 0 (.take 1 (.take 2 (.take 3 (.take 4 (.take 5 (.take 6 (.take 7 (.take 8 (.take 9 (.take 10 (.take 11 (.one 12 (.take 13 (.one 14 .done))))))))))))))) mixed (by kernel_rfl) (by kernel_rfl) (Nat.le_of_ble_eq_true (by kernel_rfl)) ?_; intro w22 k23 hs_
   replace K0 := Ex.trans K0 k23
   replace f8 := f8.ex k23
   replace f9 := f9.ex k23
   replace b21 := b21.ex k23
   have zw22 := k23.size
   have hS : (fun w_ => Kp (fun k_ => k_ = m1) w22 w_ ∧ ∃ l_, MapAt w_ m1 keyC valI l_ ∧ ∀ x_, (getM l_ x_).getD 0 = (getM (countsM (l.take i)) x_).getD 0) w22 := ⟨Kp.refl _ _, _, f9, fun _ => rfl⟩
   refine rp_take hs_ hS rfl (by kernel_rfl) (ev_move rfl) rfl rfl rfl ?_
   refine rp_take (v := .pointer (some ⟨g14, 0, none⟩)) hs_ hS rfl (by kernel_rfl) (ev_field (o := 0) rfl foff_55_0) rfl rfl rfl ?_
   refine rp_take (v := .int .i64 c12.1) hs_ hS rfl (by kernel_rfl) (ev_lb1 (off := 0) (fun _ h => b21.kp h.1 (Nat.ne_of_gt (Nat.lt_of_lt_of_le lm1 (Nat.le_trans z7 hg16)))) rfl one_3 rfl) rfl rfl rfl ?_
   refine rp_take hs_ hS rfl (by kernel_rfl) (ev_move rfl) rfl rfl rfl ?_
   refine rp_take hs_ hS rfl (by kernel_rfl) (ev_add rfl rfl (by omega)) rfl rfl rfl ?_
   refine rp_take (v := .pointer (some ⟨g14, 1, none⟩)) hs_ hS rfl (by kernel_rfl) (ev_field (o := 1) rfl foff_55_1) rfl rfl rfl ?_
   refine rp_take (v := .int .i64 c12.2) hs_ hS rfl (by kernel_rfl) (ev_lb1 (off := 1) (fun _ h => b21.kp h.1 (Nat.ne_of_gt (Nat.lt_of_lt_of_le lm1 (Nat.le_trans z7 hg16)))) rfl one_3 rfl) rfl rfl rfl ?_
   refine rp_take hs_ hS rfl (by kernel_rfl) (ev_move rfl) rfl rfl rfl ?_
   refine rp_take hs_ hS rfl (by kernel_rfl) (ev_add rfl rfl (by omega)) rfl rfl rfl ?_
   refine rp_take (v := .agg #[.int .i64 (c12.1 + (-1)), .int .i64 (c12.2 + (-1))]) hs_ hS rfl (by kernel_rfl) (ev_pure rfl rfl (fun _ => by kernel_rfl)) rfl rfl rfl ?_
   have bd24 := hb0_ (c12.1 + (-1), c12.2 + (-1))
   refine rp_take (v := .int .i64 ((getM (countsM (l.take i)) (c12.1 + (-1), c12.2 + (-1))).getD 0)) hs_ hS rfl (by kernel_rfl) (ev_lookupS (l := countsM (l.take i)) (k := (c12.1 + (-1), c12.2 + (-1))) key_55 map_131 (fun _ h => h.2) zval_3 rfl rfl) rfl rfl rfl ?_
   refine rp_take hs_ hS rfl (by kernel_rfl) (ev_add rfl rfl (by omega)) rfl rfl rfl ?_
   refine rp_up (up_op rfl (op_mapEntry (fk := keyC) (fv := valI) (l := countsM (l.take i)) (k := (c12.1 + (-1), c12.2 + (-1))) (z0 := 0) key_55 map_131 f9 zval_3 rfl rfl) rfl rfl rfl ?_)
   rintro _ w25 ⟨rfl, k26, mp27⟩
   replace K0 := Ex.kp_new K0 k26 (fun _ h => h ▸ Nat.le_trans (Nat.le_refl _) hm3)
   replace hS : (fun w_ => Kp (fun k_ => k_ = m1) w22 w_ ∧ ∃ l_, MapAt w_ m1 keyC valI l_ ∧ ∀ x_, (getM l_ x_).getD 0 = (getM (countsM (l.take i)) x_).getD 0) w25 := ⟨Kp.trans hS.1 k26 (fun _ x => x) (fun _ _ x => x), _, mp27, fun x_ => touch_getD (countsM (l.take i)) (c12.1 + (-1), c12.2 + (-1)) x_⟩
   replace f8 := f8.kp hS.1 (fun b h e => Nat.lt_irrefl _ (Nat.lt_of_lt_of_le (show m1 < _ from e ▸ (show b < _ from h)) (Nat.le_trans (Nat.le_refl _) hm3)))
   replace b21 := b21.kp hS.1 (Nat.ne_of_gt (Nat.lt_of_lt_of_le lm1 (Nat.le_trans z7 hg16)))
   have zw25 := k26.size
   refine ⟨(fun _ => hS), ?_⟩
   refine rp_take hs_ hS rfl (by kernel_rfl) (ev_extract rfl rfl) rfl rfl rfl ?_
   refine rp_up (up_none rfl (op_entryStore (fk := keyC) (fv := valI) (l := countsM (l.take i)) (k := (c12.1 + (-1), c12.2 + (-1))) (z0 := 0) (v := ((getM (countsM (l.take i)) (c12.1 + (-1), c12.2 + (-1))).getD 0) + 1) mp27 rfl rfl rfl) rfl rfl ?_)
   rintro _ w28 ⟨k29, mp30⟩
   replace mp30 : MapAt w28 m1 keyC valI (incM (countsM (l.take i)) (c12.1 + (-1), c12.2 + (-1)) 1) := mp30
   have hb31 := inc_bd (k := (c12.1 + (-1), c12.2 + (-1))) (d := 1) hb0_ (by decide)
   replace K0 := Ex.kp_new K0 k29 (fun _ h => h ▸ Nat.le_trans (Nat.le_refl _) hm3)
   replace f8 := f8.kp k29 (fun b h e => Nat.lt_irrefl _ (Nat.lt_of_lt_of_le (show m1 < _ from e ▸ (show b < _ from h)) (Nat.le_trans (Nat.le_refl _) hm3)))
   replace b21 := b21.kp k29 (Nat.ne_of_gt (Nat.lt_of_lt_of_le lm1 (Nat.le_trans z7 hg16)))
   have zw28 := k29.size
   refine ⟨(in_X rfl), ?_⟩
   refine rp_done ?_
   clear hs_
   refine nw_block ?_
   refine nw_seq ?_
   refine cw_region ?_
   refine rw_ev (ev_move rfl) rfl rfl rfl ?_
   refine rw_ev (v := .int .i64 0) (ev_add (p := (-1)) (q := 1) rfl rfl (by decide)) rfl rfl rfl ?_
   refine rw_ev (v := .int .i64 0) (ev_assign rfl) rfl rfl rfl ?_
   refine rw_nil ?_
   refine nw_again ?_
   refine cw_sub (e' := [(2, .map none), (3, .map (some m1)), (9, v), (10, .int .i64 (l.length : Int)), (11, .int .i64 (i : Int)), (5, .pointer (some ⟨g14, 0, none⟩)), (6, .int .i64 (-1)), (7, .int .i64 0)]) (Sub.cons rfl (Sub.cons rfl (Sub.cons rfl (Sub.cons rfl (Sub.cons rfl (Sub.cons rfl (Sub.cons rfl (Sub.cons rfl Sub.nil)))))))) ?_
   refine cw_seq ?_
   refine cw_seq ?_
   refine cw_region ?_
   refine rw_ev (v := .int .i64 0) (ev_move rfl) rfl rfl rfl ?_
   refine rw_ev (v := .bool true) (ev_leq (p := 0) (q := 1) rfl rfl) rfl rfl rfl ?_
   refine rw_nil ?_
   refine nw_seq ?_
   refine cw_t (b := true) rfl rfl ?_
   refine cw_skip ?_
   refine nw_seq ?_
   refine cw_seq ?_
   refine cw_block ?_
   refine cw_drawn (fun w32 w_ => Kp (fun k_ => k_ = m1) w32 w_ ∧ ∃ l_, MapAt w_ m1 keyC valI l_ ∧ ∀ x_, (getM l_ x_).getD 0 = (getM (incM (countsM (l.take i)) (c12.1 + (-1), c12.2 + (-1)) 1) x_).getD 0) [14] (.take 0 (.take 1 (.take 2 (.take 3 (.take 4 (.take 5 (.take 6 (.take 7 (.take 8 (.take 9 (.take 10 (.take 11 (.one 12 (.take 13 (.one 14 .done))))))))))))))) mixed (by kernel_rfl) (by kernel_rfl) (Nat.le_of_ble_eq_true (by kernel_rfl)) ?_; intro w32 k33 hs_
   replace K0 := Ex.trans K0 k33
   replace f8 := f8.ex k33
   replace b21 := b21.ex k33
   replace mp30 := mp30.ex k33
   have zw32 := k33.size
   have hS : (fun w_ => Kp (fun k_ => k_ = m1) w32 w_ ∧ ∃ l_, MapAt w_ m1 keyC valI l_ ∧ ∀ x_, (getM l_ x_).getD 0 = (getM (incM (countsM (l.take i)) (c12.1 + (-1), c12.2 + (-1)) 1) x_).getD 0) w32 := ⟨Kp.refl _ _, _, mp30, fun _ => rfl⟩
   refine rp_take hs_ hS rfl (by kernel_rfl) (ev_move rfl) rfl rfl rfl ?_
   refine rp_take (v := .pointer (some ⟨g14, 0, none⟩)) hs_ hS rfl (by kernel_rfl) (ev_field (o := 0) rfl foff_55_0) rfl rfl rfl ?_
   refine rp_take (v := .int .i64 c12.1) hs_ hS rfl (by kernel_rfl) (ev_lb1 (off := 0) (fun _ h => b21.kp h.1 (Nat.ne_of_gt (Nat.lt_of_lt_of_le lm1 (Nat.le_trans z7 hg16)))) rfl one_3 rfl) rfl rfl rfl ?_
   refine rp_take (v := .int .i64 0) hs_ hS rfl (by kernel_rfl) (ev_move rfl) rfl rfl rfl ?_
   refine rp_take hs_ hS rfl (by kernel_rfl) (ev_add rfl rfl (by omega)) rfl rfl rfl ?_
   refine rp_take (v := .pointer (some ⟨g14, 1, none⟩)) hs_ hS rfl (by kernel_rfl) (ev_field (o := 1) rfl foff_55_1) rfl rfl rfl ?_
   refine rp_take (v := .int .i64 c12.2) hs_ hS rfl (by kernel_rfl) (ev_lb1 (off := 1) (fun _ h => b21.kp h.1 (Nat.ne_of_gt (Nat.lt_of_lt_of_le lm1 (Nat.le_trans z7 hg16)))) rfl one_3 rfl) rfl rfl rfl ?_
   refine rp_take hs_ hS rfl (by kernel_rfl) (ev_move rfl) rfl rfl rfl ?_
   refine rp_take hs_ hS rfl (by kernel_rfl) (ev_add rfl rfl (by omega)) rfl rfl rfl ?_
   refine rp_take (v := .agg #[.int .i64 (c12.1 + 0), .int .i64 (c12.2 + (-1))]) hs_ hS rfl (by kernel_rfl) (ev_pure rfl rfl (fun _ => by kernel_rfl)) rfl rfl rfl ?_
   have bd34 := hb31 (c12.1 + 0, c12.2 + (-1))
   refine rp_take (v := .int .i64 ((getM (incM (countsM (l.take i)) (c12.1 + (-1), c12.2 + (-1)) 1) (c12.1 + 0, c12.2 + (-1))).getD 0)) hs_ hS rfl (by kernel_rfl) (ev_lookupS (l := incM (countsM (l.take i)) (c12.1 + (-1), c12.2 + (-1)) 1) (k := (c12.1 + 0, c12.2 + (-1))) key_55 map_131 (fun _ h => h.2) zval_3 rfl rfl) rfl rfl rfl ?_
   refine rp_take hs_ hS rfl (by kernel_rfl) (ev_add rfl rfl (by omega)) rfl rfl rfl ?_
   refine rp_up (up_op rfl (op_mapEntry (fk := keyC) (fv := valI) (l := incM (countsM (l.take i)) (c12.1 + (-1), c12.2 + (-1)) 1) (k := (c12.1 + 0, c12.2 + (-1))) (z0 := 0) key_55 map_131 mp30 zval_3 rfl rfl) rfl rfl rfl ?_)
   rintro _ w35 ⟨rfl, k36, mp37⟩
   replace K0 := Ex.kp_new K0 k36 (fun _ h => h ▸ Nat.le_trans (Nat.le_refl _) hm3)
   replace hS : (fun w_ => Kp (fun k_ => k_ = m1) w32 w_ ∧ ∃ l_, MapAt w_ m1 keyC valI l_ ∧ ∀ x_, (getM l_ x_).getD 0 = (getM (incM (countsM (l.take i)) (c12.1 + (-1), c12.2 + (-1)) 1) x_).getD 0) w35 := ⟨Kp.trans hS.1 k36 (fun _ x => x) (fun _ _ x => x), _, mp37, fun x_ => touch_getD (incM (countsM (l.take i)) (c12.1 + (-1), c12.2 + (-1)) 1) (c12.1 + 0, c12.2 + (-1)) x_⟩
   replace f8 := f8.kp hS.1 (fun b h e => Nat.lt_irrefl _ (Nat.lt_of_lt_of_le (show m1 < _ from e ▸ (show b < _ from h)) (Nat.le_trans (Nat.le_refl _) hm3)))
   replace b21 := b21.kp hS.1 (Nat.ne_of_gt (Nat.lt_of_lt_of_le lm1 (Nat.le_trans z7 hg16)))
   have zw35 := k36.size
   refine ⟨(fun _ => hS), ?_⟩
   refine rp_take hs_ hS rfl (by kernel_rfl) (ev_extract (vs := #[.int .i64 ((getM (incM (countsM (l.take i)) (c12.1 + (-1), c12.2 + (-1)) 1) (c12.1 + 0, c12.2 + (-1))).getD 0), .int .i64 ((idxM (incM (countsM (l.take i)) (c12.1 + (-1), c12.2 + (-1)) 1) (c12.1 + 0, c12.2 + (-1)) : Nat) : Int)]) rfl rfl) rfl rfl rfl ?_
   refine rp_up (up_none rfl (op_entryStore (fk := keyC) (fv := valI) (l := incM (countsM (l.take i)) (c12.1 + (-1), c12.2 + (-1)) 1) (k := (c12.1 + 0, c12.2 + (-1))) (z0 := 0) (v := ((getM (incM (countsM (l.take i)) (c12.1 + (-1), c12.2 + (-1)) 1) (c12.1 + 0, c12.2 + (-1))).getD 0) + 1) mp37 rfl rfl rfl) rfl rfl ?_)
   rintro _ w38 ⟨k39, mp40⟩
   replace mp40 : MapAt w38 m1 keyC valI (incM (incM (countsM (l.take i)) (c12.1 + (-1), c12.2 + (-1)) 1) (c12.1 + 0, c12.2 + (-1)) 1) := mp40
   have hb41 := inc_bd (k := (c12.1 + 0, c12.2 + (-1))) (d := 1) hb31 (by decide)
   replace K0 := Ex.kp_new K0 k39 (fun _ h => h ▸ Nat.le_trans (Nat.le_refl _) hm3)
   replace f8 := f8.kp k39 (fun b h e => Nat.lt_irrefl _ (Nat.lt_of_lt_of_le (show m1 < _ from e ▸ (show b < _ from h)) (Nat.le_trans (Nat.le_refl _) hm3)))
   replace b21 := b21.kp k39 (Nat.ne_of_gt (Nat.lt_of_lt_of_le lm1 (Nat.le_trans z7 hg16)))
   have zw38 := k39.size
   refine ⟨(in_X rfl), ?_⟩
   refine rp_done ?_
   clear hs_
   refine nw_block ?_
   refine nw_seq ?_
   refine cw_region ?_
   refine rw_ev (v := .int .i64 0) (ev_move rfl) rfl rfl rfl ?_
   refine rw_ev (v := .int .i64 1) (ev_add (p := 0) (q := 1) rfl rfl (by decide)) rfl rfl rfl ?_
   refine rw_ev (v := .int .i64 1) (ev_assign rfl) rfl rfl rfl ?_
   refine rw_nil ?_
   refine nw_again ?_
   refine cw_sub (e' := [(2, .map none), (3, .map (some m1)), (9, v), (10, .int .i64 (l.length : Int)), (11, .int .i64 (i : Int)), (5, .pointer (some ⟨g14, 0, none⟩)), (6, .int .i64 (-1)), (7, .int .i64 1)]) (Sub.cons rfl (Sub.cons rfl (Sub.cons rfl (Sub.cons rfl (Sub.cons rfl (Sub.cons rfl (Sub.cons rfl (Sub.cons rfl Sub.nil)))))))) ?_
   refine cw_seq ?_
   refine cw_seq ?_
   refine cw_region ?_
   refine rw_ev (v := .int .i64 1) (ev_move rfl) rfl rfl rfl ?_
   refine rw_ev (v := .bool true) (ev_leq (p := 1) (q := 1) rfl rfl) rfl rfl rfl ?_
   refine rw_nil ?_
   refine nw_seq ?_
   refine cw_t (b := true) rfl rfl ?_
   refine cw_skip ?_
   refine nw_seq ?_
   refine cw_seq ?_
   refine cw_block ?_
   refine cw_drawn (fun w42 w_ => Kp (fun k_ => k_ = m1) w42 w_ ∧ ∃ l_, MapAt w_ m1 keyC valI l_ ∧ ∀ x_, (getM l_ x_).getD 0 = (getM (incM (incM (countsM (l.take i)) (c12.1 + (-1), c12.2 + (-1)) 1) (c12.1 + 0, c12.2 + (-1)) 1) x_).getD 0) [14] (.take 0 (.take 1 (.take 2 (.take 3 (.take 4 (.take 5 (.take 6 (.take 7 (.take 8 (.take 9 (.take 10 (.take 11 (.one 12 (.take 13 (.one 14 .done))))))))))))))) mixed (by kernel_rfl) (by kernel_rfl) (Nat.le_of_ble_eq_true (by kernel_rfl)) ?_; intro w42 k43 hs_
   replace K0 := Ex.trans K0 k43
   replace f8 := f8.ex k43
   replace b21 := b21.ex k43
   replace mp40 := mp40.ex k43
   have zw42 := k43.size
   have hS : (fun w_ => Kp (fun k_ => k_ = m1) w42 w_ ∧ ∃ l_, MapAt w_ m1 keyC valI l_ ∧ ∀ x_, (getM l_ x_).getD 0 = (getM (incM (incM (countsM (l.take i)) (c12.1 + (-1), c12.2 + (-1)) 1) (c12.1 + 0, c12.2 + (-1)) 1) x_).getD 0) w42 := ⟨Kp.refl _ _, _, mp40, fun _ => rfl⟩
   refine rp_take hs_ hS rfl (by kernel_rfl) (ev_move rfl) rfl rfl rfl ?_
   refine rp_take (v := .pointer (some ⟨g14, 0, none⟩)) hs_ hS rfl (by kernel_rfl) (ev_field (o := 0) rfl foff_55_0) rfl rfl rfl ?_
   refine rp_take (v := .int .i64 c12.1) hs_ hS rfl (by kernel_rfl) (ev_lb1 (off := 0) (fun _ h => b21.kp h.1 (Nat.ne_of_gt (Nat.lt_of_lt_of_le lm1 (Nat.le_trans z7 hg16)))) rfl one_3 rfl) rfl rfl rfl ?_
   refine rp_take (v := .int .i64 1) hs_ hS rfl (by kernel_rfl) (ev_move rfl) rfl rfl rfl ?_
   refine rp_take hs_ hS rfl (by kernel_rfl) (ev_add rfl rfl (by omega)) rfl rfl rfl ?_
   refine rp_take (v := .pointer (some ⟨g14, 1, none⟩)) hs_ hS rfl (by kernel_rfl) (ev_field (o := 1) rfl foff_55_1) rfl rfl rfl ?_
   refine rp_take (v := .int .i64 c12.2) hs_ hS rfl (by kernel_rfl) (ev_lb1 (off := 1) (fun _ h => b21.kp h.1 (Nat.ne_of_gt (Nat.lt_of_lt_of_le lm1 (Nat.le_trans z7 hg16)))) rfl one_3 rfl) rfl rfl rfl ?_
   refine rp_take hs_ hS rfl (by kernel_rfl) (ev_move rfl) rfl rfl rfl ?_
   refine rp_take hs_ hS rfl (by kernel_rfl) (ev_add rfl rfl (by omega)) rfl rfl rfl ?_
   refine rp_take (v := .agg #[.int .i64 (c12.1 + 1), .int .i64 (c12.2 + (-1))]) hs_ hS rfl (by kernel_rfl) (ev_pure rfl rfl (fun _ => by kernel_rfl)) rfl rfl rfl ?_
   have bd44 := hb41 (c12.1 + 1, c12.2 + (-1))
   refine rp_take (v := .int .i64 ((getM (incM (incM (countsM (l.take i)) (c12.1 + (-1), c12.2 + (-1)) 1) (c12.1 + 0, c12.2 + (-1)) 1) (c12.1 + 1, c12.2 + (-1))).getD 0)) hs_ hS rfl (by kernel_rfl) (ev_lookupS (l := incM (incM (countsM (l.take i)) (c12.1 + (-1), c12.2 + (-1)) 1) (c12.1 + 0, c12.2 + (-1)) 1) (k := (c12.1 + 1, c12.2 + (-1))) key_55 map_131 (fun _ h => h.2) zval_3 rfl rfl) rfl rfl rfl ?_
   refine rp_take hs_ hS rfl (by kernel_rfl) (ev_add (p := (getM (incM (incM (countsM (l.take i)) (c12.1 + (-1), c12.2 + (-1)) 1) (c12.1 + 0, c12.2 + (-1)) 1) (c12.1 + 1, c12.2 + (-1))).getD 0) (q := 1) rfl rfl (by omega)) rfl rfl rfl ?_
   refine rp_up (up_op rfl (op_mapEntry (fk := keyC) (fv := valI) (l := incM (incM (countsM (l.take i)) (c12.1 + (-1), c12.2 + (-1)) 1) (c12.1 + 0, c12.2 + (-1)) 1) (k := (c12.1 + 1, c12.2 + (-1))) (z0 := 0) key_55 map_131 mp40 zval_3 rfl rfl) rfl rfl rfl ?_)
   rintro _ w45 ⟨rfl, k46, mp47⟩
   replace K0 := Ex.kp_new K0 k46 (fun _ h => h ▸ Nat.le_trans (Nat.le_refl _) hm3)
   replace hS : (fun w_ => Kp (fun k_ => k_ = m1) w42 w_ ∧ ∃ l_, MapAt w_ m1 keyC valI l_ ∧ ∀ x_, (getM l_ x_).getD 0 = (getM (incM (incM (countsM (l.take i)) (c12.1 + (-1), c12.2 + (-1)) 1) (c12.1 + 0, c12.2 + (-1)) 1) x_).getD 0) w45 := ⟨Kp.trans hS.1 k46 (fun _ x => x) (fun _ _ x => x), _, mp47, fun x_ => touch_getD (incM (incM (countsM (l.take i)) (c12.1 + (-1), c12.2 + (-1)) 1) (c12.1 + 0, c12.2 + (-1)) 1) (c12.1 + 1, c12.2 + (-1)) x_⟩
   replace f8 := f8.kp hS.1 (fun b h e => Nat.lt_irrefl _ (Nat.lt_of_lt_of_le (show m1 < _ from e ▸ (show b < _ from h)) (Nat.le_trans (Nat.le_refl _) hm3)))
   replace b21 := b21.kp hS.1 (Nat.ne_of_gt (Nat.lt_of_lt_of_le lm1 (Nat.le_trans z7 hg16)))
   have zw45 := k46.size
   refine ⟨(fun _ => hS), ?_⟩
   refine rp_take hs_ hS rfl (by kernel_rfl) (ev_extract (vs := #[.int .i64 ((getM (incM (incM (countsM (l.take i)) (c12.1 + (-1), c12.2 + (-1)) 1) (c12.1 + 0, c12.2 + (-1)) 1) (c12.1 + 1, c12.2 + (-1))).getD 0), .int .i64 ((idxM (incM (incM (countsM (l.take i)) (c12.1 + (-1), c12.2 + (-1)) 1) (c12.1 + 0, c12.2 + (-1)) 1) (c12.1 + 1, c12.2 + (-1)) : Nat) : Int)]) rfl rfl) rfl rfl rfl ?_
   refine rp_up (up_none rfl (op_entryStore (fk := keyC) (fv := valI) (l := incM (incM (countsM (l.take i)) (c12.1 + (-1), c12.2 + (-1)) 1) (c12.1 + 0, c12.2 + (-1)) 1) (k := (c12.1 + 1, c12.2 + (-1))) (z0 := 0) (v := ((getM (incM (incM (countsM (l.take i)) (c12.1 + (-1), c12.2 + (-1)) 1) (c12.1 + 0, c12.2 + (-1)) 1) (c12.1 + 1, c12.2 + (-1))).getD 0) + 1) mp47 rfl rfl rfl) rfl rfl ?_)
   rintro _ w48 ⟨k49, mp50⟩
   replace mp50 : MapAt w48 m1 keyC valI (incM (incM (incM (countsM (l.take i)) (c12.1 + (-1), c12.2 + (-1)) 1) (c12.1 + 0, c12.2 + (-1)) 1) (c12.1 + 1, c12.2 + (-1)) 1) := mp50
   have hb51 := inc_bd (k := (c12.1 + 1, c12.2 + (-1))) (d := 1) hb41 (by decide)
   replace K0 := Ex.kp_new K0 k49 (fun _ h => h ▸ Nat.le_trans (Nat.le_refl _) hm3)
   replace f8 := f8.kp k49 (fun b h e => Nat.lt_irrefl _ (Nat.lt_of_lt_of_le (show m1 < _ from e ▸ (show b < _ from h)) (Nat.le_trans (Nat.le_refl _) hm3)))
   replace b21 := b21.kp k49 (Nat.ne_of_gt (Nat.lt_of_lt_of_le lm1 (Nat.le_trans z7 hg16)))
   have zw48 := k49.size
   refine ⟨(in_X rfl), ?_⟩
   refine rp_done ?_
   clear hs_
   refine nw_block ?_
   refine nw_seq ?_
   refine cw_region ?_
   refine rw_ev (v := .int .i64 1) (ev_move rfl) rfl rfl rfl ?_
   refine rw_ev (v := .int .i64 2) (ev_add (p := 1) (q := 1) rfl rfl (by decide)) rfl rfl rfl ?_
   refine rw_ev (v := .int .i64 2) (ev_assign rfl) rfl rfl rfl ?_
   refine rw_nil ?_
   refine nw_again ?_
   refine cw_sub (e' := [(2, .map none), (3, .map (some m1)), (9, v), (10, .int .i64 (l.length : Int)), (11, .int .i64 (i : Int)), (5, .pointer (some ⟨g14, 0, none⟩)), (6, .int .i64 (-1)), (7, .int .i64 2)]) (Sub.cons rfl (Sub.cons rfl (Sub.cons rfl (Sub.cons rfl (Sub.cons rfl (Sub.cons rfl (Sub.cons rfl (Sub.cons rfl Sub.nil)))))))) ?_
   refine cw_seq ?_
   refine cw_seq ?_
   refine cw_region ?_
   refine rw_ev (v := .int .i64 2) (ev_move rfl) rfl rfl rfl ?_
   refine rw_ev (v := .bool false) (ev_leq (p := 2) (q := 1) rfl rfl) rfl rfl rfl ?_
   refine rw_nil ?_
   refine nw_seq ?_
   refine cw_f (b := false) rfl rfl ?_
   refine cw_exit ?_
   refine xw_seq ?_
   refine xw_again ?_
   refine xw_hit ?_
   refine nw_block ?_
   refine nw_seq ?_
   refine cw_region ?_
   refine rw_ev (ev_move rfl) rfl rfl rfl ?_
   refine rw_ev (v := .int .i64 0) (ev_add (p := (-1)) (q := 1) rfl rfl (by decide)) rfl rfl rfl ?_
   refine rw_ev (v := .int .i64 0) (ev_assign rfl) rfl rfl rfl ?_
   refine rw_nil ?_
   refine nw_again ?_
   refine cw_sub (e' := [(2, .map none), (3, .map (some m1)), (9, v), (10, .int .i64 (l.length : Int)), (11, .int .i64 (i : Int)), (5, .pointer (some ⟨g14, 0, none⟩)), (6, .int .i64 0)]) (Sub.cons rfl (Sub.cons rfl (Sub.cons rfl (Sub.cons rfl (Sub.cons rfl (Sub.cons rfl (Sub.cons rfl Sub.nil))))))) ?_
   refine cw_seq ?_
   refine cw_seq ?_
   refine cw_region ?_
   refine rw_ev (v := .int .i64 0) (ev_move rfl) rfl rfl rfl ?_
   refine rw_ev (v := .bool true) (ev_leq (p := 0) (q := 1) rfl rfl) rfl rfl rfl ?_
   refine rw_nil ?_
   refine nw_seq ?_
   refine cw_t (b := true) rfl rfl ?_
   refine cw_skip ?_
   refine nw_seq ?_
   refine cw_seq ?_
   refine cw_block ?_
   refine cw_seq ?_
   refine cw_region ?_
   refine rw_ev (ev_assign rfl) rfl rfl rfl ?_
   refine rw_nil ?_
   refine nw_seq ?_
   refine cw_block ?_
   refine cw_rounds 3 ?_
   refine cw_seq ?_
   refine cw_seq ?_
   refine cw_region ?_
   refine rw_ev (ev_move rfl) rfl rfl rfl ?_
   refine rw_ev (v := .bool true) (ev_leq (p := (-1)) (q := 1) rfl rfl) rfl rfl rfl ?_
   refine rw_nil ?_
   refine nw_seq ?_
   refine cw_t (b := true) rfl rfl ?_
   refine cw_skip ?_
   refine nw_seq ?_
   refine cw_seq ?_
   refine cw_block ?_
   refine cw_drawn (fun w52 w_ => Kp (fun k_ => k_ = m1) w52 w_ ∧ ∃ l_, MapAt w_ m1 keyC valI l_ ∧ ∀ x_, (getM l_ x_).getD 0 = (getM (incM (incM (incM (countsM (l.take i)) (c12.1 + (-1), c12.2 + (-1)) 1) (c12.1 + 0, c12.2 + (-1)) 1) (c12.1 + 1, c12.2 + (-1)) 1) x_).getD 0) [14] (.take 0 (.take 1 (.take 2 (.take 3 (.take 4 (.take 5 (.take 6 (.take 7 (.take 8 (.take 9 (.take 10 (.take 11 (.one 12 (.take 13 (.one 14 .done))))))))))))))) mixed (by kernel_rfl) (by kernel_rfl) (Nat.le_of_ble_eq_true (by kernel_rfl)) ?_; intro w52 k53 hs_
   replace K0 := Ex.trans K0 k53
   replace f8 := f8.ex k53
   replace b21 := b21.ex k53
   replace mp50 := mp50.ex k53
   have zw52 := k53.size
   have hS : (fun w_ => Kp (fun k_ => k_ = m1) w52 w_ ∧ ∃ l_, MapAt w_ m1 keyC valI l_ ∧ ∀ x_, (getM l_ x_).getD 0 = (getM (incM (incM (incM (countsM (l.take i)) (c12.1 + (-1), c12.2 + (-1)) 1) (c12.1 + 0, c12.2 + (-1)) 1) (c12.1 + 1, c12.2 + (-1)) 1) x_).getD 0) w52 := ⟨Kp.refl _ _, _, mp50, fun _ => rfl⟩
   refine rp_take hs_ hS rfl (by kernel_rfl) (ev_move rfl) rfl rfl rfl ?_
   refine rp_take (v := .pointer (some ⟨g14, 0, none⟩)) hs_ hS rfl (by kernel_rfl) (ev_field (o := 0) rfl foff_55_0) rfl rfl rfl ?_
   refine rp_take (v := .int .i64 c12.1) hs_ hS rfl (by kernel_rfl) (ev_lb1 (off := 0) (fun _ h => b21.kp h.1 (Nat.ne_of_gt (Nat.lt_of_lt_of_le lm1 (Nat.le_trans z7 hg16)))) rfl one_3 rfl) rfl rfl rfl ?_
   refine rp_take hs_ hS rfl (by kernel_rfl) (ev_move rfl) rfl rfl rfl ?_
   refine rp_take hs_ hS rfl (by kernel_rfl) (ev_add rfl rfl (by omega)) rfl rfl rfl ?_
   refine rp_take (v := .pointer (some ⟨g14, 1, none⟩)) hs_ hS rfl (by kernel_rfl) (ev_field (o := 1) rfl foff_55_1) rfl rfl rfl ?_
   refine rp_take (v := .int .i64 c12.2) hs_ hS rfl (by kernel_rfl) (ev_lb1 (off := 1) (fun _ h => b21.kp h.1 (Nat.ne_of_gt (Nat.lt_of_lt_of_le lm1 (Nat.le_trans z7 hg16)))) rfl one_3 rfl) rfl rfl rfl ?_
   refine rp_take (v := .int .i64 0) hs_ hS rfl (by kernel_rfl) (ev_move rfl) rfl rfl rfl ?_
   refine rp_take hs_ hS rfl (by kernel_rfl) (ev_add rfl rfl (by omega)) rfl rfl rfl ?_
   refine rp_take (v := .agg #[.int .i64 (c12.1 + (-1)), .int .i64 (c12.2 + 0)]) hs_ hS rfl (by kernel_rfl) (ev_pure rfl rfl (fun _ => by kernel_rfl)) rfl rfl rfl ?_
   have bd54 := hb51 (c12.1 + (-1), c12.2 + 0)
   refine rp_take (v := .int .i64 ((getM (incM (incM (incM (countsM (l.take i)) (c12.1 + (-1), c12.2 + (-1)) 1) (c12.1 + 0, c12.2 + (-1)) 1) (c12.1 + 1, c12.2 + (-1)) 1) (c12.1 + (-1), c12.2 + 0)).getD 0)) hs_ hS rfl (by kernel_rfl) (ev_lookupS (l := incM (incM (incM (countsM (l.take i)) (c12.1 + (-1), c12.2 + (-1)) 1) (c12.1 + 0, c12.2 + (-1)) 1) (c12.1 + 1, c12.2 + (-1)) 1) (k := (c12.1 + (-1), c12.2 + 0)) key_55 map_131 (fun _ h => h.2) zval_3 rfl rfl) rfl rfl rfl ?_
   refine rp_take hs_ hS rfl (by kernel_rfl) (ev_add (p := (getM (incM (incM (incM (countsM (l.take i)) (c12.1 + (-1), c12.2 + (-1)) 1) (c12.1 + 0, c12.2 + (-1)) 1) (c12.1 + 1, c12.2 + (-1)) 1) (c12.1 + (-1), c12.2 + 0)).getD 0) (q := 1) rfl rfl (by omega)) rfl rfl rfl ?_
   refine rp_up (up_op rfl (op_mapEntry (fk := keyC) (fv := valI) (l := incM (incM (incM (countsM (l.take i)) (c12.1 + (-1), c12.2 + (-1)) 1) (c12.1 + 0, c12.2 + (-1)) 1) (c12.1 + 1, c12.2 + (-1)) 1) (k := (c12.1 + (-1), c12.2 + 0)) (z0 := 0) key_55 map_131 mp50 zval_3 rfl rfl) rfl rfl rfl ?_)
   rintro _ w55 ⟨rfl, k56, mp57⟩
   replace K0 := Ex.kp_new K0 k56 (fun _ h => h ▸ Nat.le_trans (Nat.le_refl _) hm3)
   replace hS : (fun w_ => Kp (fun k_ => k_ = m1) w52 w_ ∧ ∃ l_, MapAt w_ m1 keyC valI l_ ∧ ∀ x_, (getM l_ x_).getD 0 = (getM (incM (incM (incM (countsM (l.take i)) (c12.1 + (-1), c12.2 + (-1)) 1) (c12.1 + 0, c12.2 + (-1)) 1) (c12.1 + 1, c12.2 + (-1)) 1) x_).getD 0) w55 := ⟨Kp.trans hS.1 k56 (fun _ x => x) (fun _ _ x => x), _, mp57, fun x_ => touch_getD (incM (incM (incM (countsM (l.take i)) (c12.1 + (-1), c12.2 + (-1)) 1) (c12.1 + 0, c12.2 + (-1)) 1) (c12.1 + 1, c12.2 + (-1)) 1) (c12.1 + (-1), c12.2 + 0) x_⟩
   replace f8 := f8.kp hS.1 (fun b h e => Nat.lt_irrefl _ (Nat.lt_of_lt_of_le (show m1 < _ from e ▸ (show b < _ from h)) (Nat.le_trans (Nat.le_refl _) hm3)))
   replace b21 := b21.kp hS.1 (Nat.ne_of_gt (Nat.lt_of_lt_of_le lm1 (Nat.le_trans z7 hg16)))
   have zw55 := k56.size
   refine ⟨(fun _ => hS), ?_⟩
   refine rp_take hs_ hS rfl (by kernel_rfl) (ev_extract (vs := #[.int .i64 ((getM (incM (incM (incM (countsM (l.take i)) (c12.1 + (-1), c12.2 + (-1)) 1) (c12.1 + 0, c12.2 + (-1)) 1) (c12.1 + 1, c12.2 + (-1)) 1) (c12.1 + (-1), c12.2 + 0)).getD 0), .int .i64 ((idxM (incM (incM (incM (countsM (l.take i)) (c12.1 + (-1), c12.2 + (-1)) 1) (c12.1 + 0, c12.2 + (-1)) 1) (c12.1 + 1, c12.2 + (-1)) 1) (c12.1 + (-1), c12.2 + 0) : Nat) : Int)]) rfl rfl) rfl rfl rfl ?_
   refine rp_up (up_none rfl (op_entryStore (fk := keyC) (fv := valI) (l := incM (incM (incM (countsM (l.take i)) (c12.1 + (-1), c12.2 + (-1)) 1) (c12.1 + 0, c12.2 + (-1)) 1) (c12.1 + 1, c12.2 + (-1)) 1) (k := (c12.1 + (-1), c12.2 + 0)) (z0 := 0) (v := ((getM (incM (incM (incM (countsM (l.take i)) (c12.1 + (-1), c12.2 + (-1)) 1) (c12.1 + 0, c12.2 + (-1)) 1) (c12.1 + 1, c12.2 + (-1)) 1) (c12.1 + (-1), c12.2 + 0)).getD 0) + 1) mp57 rfl rfl rfl) rfl rfl ?_)
   rintro _ w58 ⟨k59, mp60⟩
   replace mp60 : MapAt w58 m1 keyC valI (incM (incM (incM (incM (countsM (l.take i)) (c12.1 + (-1), c12.2 + (-1)) 1) (c12.1 + 0, c12.2 + (-1)) 1) (c12.1 + 1, c12.2 + (-1)) 1) (c12.1 + (-1), c12.2 + 0) 1) := mp60
   have hb61 := inc_bd (k := (c12.1 + (-1), c12.2 + 0)) (d := 1) hb51 (by decide)
   replace K0 := Ex.kp_new K0 k59 (fun _ h => h ▸ Nat.le_trans (Nat.le_refl _) hm3)
   replace f8 := f8.kp k59 (fun b h e => Nat.lt_irrefl _ (Nat.lt_of_lt_of_le (show m1 < _ from e ▸ (show b < _ from h)) (Nat.le_trans (Nat.le_refl _) hm3)))
   replace b21 := b21.kp k59 (Nat.ne_of_gt (Nat.lt_of_lt_of_le lm1 (Nat.le_trans z7 hg16)))
   have zw58 := k59.size
   refine ⟨(in_X rfl), ?_⟩
   refine rp_done ?_
   clear hs_
   refine nw_block ?_
   refine nw_seq ?_
   refine cw_region ?_
   refine rw_ev (ev_move rfl) rfl rfl rfl ?_
   refine rw_ev (v := .int .i64 0) (ev_add (p := (-1)) (q := 1) rfl rfl (by decide)) rfl rfl rfl ?_
   refine rw_ev (v := .int .i64 0) (ev_assign rfl) rfl rfl rfl ?_
   refine rw_nil ?_
   refine nw_again ?_
   refine cw_sub (e' := [(2, .map none), (3, .map (some m1)), (9, v), (10, .int .i64 (l.length : Int)), (11, .int .i64 (i : Int)), (5, .pointer (some ⟨g14, 0, none⟩)), (6, .int .i64 0), (7, .int .i64 0)]) (Sub.cons rfl (Sub.cons rfl (Sub.cons rfl (Sub.cons rfl (Sub.cons rfl (Sub.cons rfl (Sub.cons rfl (Sub.cons rfl Sub.nil)))))))) ?_
   refine cw_seq ?_
   refine cw_seq ?_
   refine cw_region ?_
   refine rw_ev (v := .int .i64 0) (ev_move rfl) rfl rfl rfl ?_
   refine rw_ev (v := .bool true) (ev_leq (p := 0) (q := 1) rfl rfl) rfl rfl rfl ?_
   refine rw_nil ?_
   refine nw_seq ?_
   refine cw_t (b := true) rfl rfl ?_
   refine cw_skip ?_
   refine nw_seq ?_
   refine cw_seq ?_
   refine cw_block ?_
   refine cw_drawn (fun w62 w_ => Kp (fun k_ => k_ = m1) w62 w_ ∧ ∃ l_, MapAt w_ m1 keyC valI l_ ∧ ∀ x_, (getM l_ x_).getD 0 = (getM (incM (incM (incM (incM (countsM (l.take i)) (c12.1 + (-1), c12.2 + (-1)) 1) (c12.1 + 0, c12.2 + (-1)) 1) (c12.1 + 1, c12.2 + (-1)) 1) (c12.1 + (-1), c12.2 + 0) 1) x_).getD 0) [14] (.take 0 (.take 1 (.take 2 (.take 3 (.take 4 (.take 5 (.take 6 (.take 7 (.take 8 (.take 9 (.take 10 (.take 11 (.one 12 (.take 13 (.one 14 .done))))))))))))))) mixed (by kernel_rfl) (by kernel_rfl) (Nat.le_of_ble_eq_true (by kernel_rfl)) ?_; intro w62 k63 hs_
   replace K0 := Ex.trans K0 k63
   replace f8 := f8.ex k63
   replace b21 := b21.ex k63
   replace mp60 := mp60.ex k63
   have zw62 := k63.size
   have hS : (fun w_ => Kp (fun k_ => k_ = m1) w62 w_ ∧ ∃ l_, MapAt w_ m1 keyC valI l_ ∧ ∀ x_, (getM l_ x_).getD 0 = (getM (incM (incM (incM (incM (countsM (l.take i)) (c12.1 + (-1), c12.2 + (-1)) 1) (c12.1 + 0, c12.2 + (-1)) 1) (c12.1 + 1, c12.2 + (-1)) 1) (c12.1 + (-1), c12.2 + 0) 1) x_).getD 0) w62 := ⟨Kp.refl _ _, _, mp60, fun _ => rfl⟩
   refine rp_take hs_ hS rfl (by kernel_rfl) (ev_move rfl) rfl rfl rfl ?_
   refine rp_take (v := .pointer (some ⟨g14, 0, none⟩)) hs_ hS rfl (by kernel_rfl) (ev_field (o := 0) rfl foff_55_0) rfl rfl rfl ?_
   refine rp_take (v := .int .i64 c12.1) hs_ hS rfl (by kernel_rfl) (ev_lb1 (off := 0) (fun _ h => b21.kp h.1 (Nat.ne_of_gt (Nat.lt_of_lt_of_le lm1 (Nat.le_trans z7 hg16)))) rfl one_3 rfl) rfl rfl rfl ?_
   refine rp_take (v := .int .i64 0) hs_ hS rfl (by kernel_rfl) (ev_move rfl) rfl rfl rfl ?_
   refine rp_take hs_ hS rfl (by kernel_rfl) (ev_add rfl rfl (by omega)) rfl rfl rfl ?_
   refine rp_take (v := .pointer (some ⟨g14, 1, none⟩)) hs_ hS rfl (by kernel_rfl) (ev_field (o := 1) rfl foff_55_1) rfl rfl rfl ?_
   refine rp_take (v := .int .i64 c12.2) hs_ hS rfl (by kernel_rfl) (ev_lb1 (off := 1) (fun _ h => b21.kp h.1 (Nat.ne_of_gt (Nat.lt_of_lt_of_le lm1 (Nat.le_trans z7 hg16)))) rfl one_3 rfl) rfl rfl rfl ?_
   refine rp_take (v := .int .i64 0) hs_ hS rfl (by kernel_rfl) (ev_move rfl) rfl rfl rfl ?_
   refine rp_take hs_ hS rfl (by kernel_rfl) (ev_add rfl rfl (by omega)) rfl rfl rfl ?_
   refine rp_take (v := .agg #[.int .i64 (c12.1 + 0), .int .i64 (c12.2 + 0)]) hs_ hS rfl (by kernel_rfl) (ev_pure rfl rfl (fun _ => by kernel_rfl)) rfl rfl rfl ?_
   have bd64 := hb61 (c12.1 + 0, c12.2 + 0)
   refine rp_take (v := .int .i64 ((getM (incM (incM (incM (incM (countsM (l.take i)) (c12.1 + (-1), c12.2 + (-1)) 1) (c12.1 + 0, c12.2 + (-1)) 1) (c12.1 + 1, c12.2 + (-1)) 1) (c12.1 + (-1), c12.2 + 0) 1) (c12.1 + 0, c12.2 + 0)).getD 0)) hs_ hS rfl (by kernel_rfl) (ev_lookupS (l := incM (incM (incM (incM (countsM (l.take i)) (c12.1 + (-1), c12.2 + (-1)) 1) (c12.1 + 0, c12.2 + (-1)) 1) (c12.1 + 1, c12.2 + (-1)) 1) (c12.1 + (-1), c12.2 + 0) 1) (k := (c12.1 + 0, c12.2 + 0)) key_55 map_131 (fun _ h => h.2) zval_3 rfl rfl) rfl rfl rfl ?_
   refine rp_take hs_ hS rfl (by kernel_rfl) (ev_add (p := (getM (incM (incM (incM (incM (countsM (l.take i)) (c12.1 + (-1), c12.2 + (-1)) 1) (c12.1 + 0, c12.2 + (-1)) 1) (c12.1 + 1, c12.2 + (-1)) 1) (c12.1 + (-1), c12.2 + 0) 1) (c12.1 + 0, c12.2 + 0)).getD 0) (q := 1) rfl rfl (by omega)) rfl rfl rfl ?_
   refine rp_up (up_op rfl (op_mapEntry (fk := keyC) (fv := valI) (l := incM (incM (incM (incM (countsM (l.take i)) (c12.1 + (-1), c12.2 + (-1)) 1) (c12.1 + 0, c12.2 + (-1)) 1) (c12.1 + 1, c12.2 + (-1)) 1) (c12.1 + (-1), c12.2 + 0) 1) (k := (c12.1 + 0, c12.2 + 0)) (z0 := 0) key_55 map_131 mp60 zval_3 rfl rfl) rfl rfl rfl ?_)
   rintro _ w65 ⟨rfl, k66, mp67⟩
   replace K0 := Ex.kp_new K0 k66 (fun _ h => h ▸ Nat.le_trans (Nat.le_refl _) hm3)
   replace hS : (fun w_ => Kp (fun k_ => k_ = m1) w62 w_ ∧ ∃ l_, MapAt w_ m1 keyC valI l_ ∧ ∀ x_, (getM l_ x_).getD 0 = (getM (incM (incM (incM (incM (countsM (l.take i)) (c12.1 + (-1), c12.2 + (-1)) 1) (c12.1 + 0, c12.2 + (-1)) 1) (c12.1 + 1, c12.2 + (-1)) 1) (c12.1 + (-1), c12.2 + 0) 1) x_).getD 0) w65 := ⟨Kp.trans hS.1 k66 (fun _ x => x) (fun _ _ x => x), _, mp67, fun x_ => touch_getD (incM (incM (incM (incM (countsM (l.take i)) (c12.1 + (-1), c12.2 + (-1)) 1) (c12.1 + 0, c12.2 + (-1)) 1) (c12.1 + 1, c12.2 + (-1)) 1) (c12.1 + (-1), c12.2 + 0) 1) (c12.1 + 0, c12.2 + 0) x_⟩
   replace f8 := f8.kp hS.1 (fun b h e => Nat.lt_irrefl _ (Nat.lt_of_lt_of_le (show m1 < _ from e ▸ (show b < _ from h)) (Nat.le_trans (Nat.le_refl _) hm3)))
   replace b21 := b21.kp hS.1 (Nat.ne_of_gt (Nat.lt_of_lt_of_le lm1 (Nat.le_trans z7 hg16)))
   have zw65 := k66.size
   refine ⟨(fun _ => hS), ?_⟩
   refine rp_take hs_ hS rfl (by kernel_rfl) (ev_extract (vs := #[.int .i64 ((getM (incM (incM (incM (incM (countsM (l.take i)) (c12.1 + (-1), c12.2 + (-1)) 1) (c12.1 + 0, c12.2 + (-1)) 1) (c12.1 + 1, c12.2 + (-1)) 1) (c12.1 + (-1), c12.2 + 0) 1) (c12.1 + 0, c12.2 + 0)).getD 0), .int .i64 ((idxM (incM (incM (incM (incM (countsM (l.take i)) (c12.1 + (-1), c12.2 + (-1)) 1) (c12.1 + 0, c12.2 + (-1)) 1) (c12.1 + 1, c12.2 + (-1)) 1) (c12.1 + (-1), c12.2 + 0) 1) (c12.1 + 0, c12.2 + 0) : Nat) : Int)]) rfl rfl) rfl rfl rfl ?_
   refine rp_up (up_none rfl (op_entryStore (fk := keyC) (fv := valI) (l := incM (incM (incM (incM (countsM (l.take i)) (c12.1 + (-1), c12.2 + (-1)) 1) (c12.1 + 0, c12.2 + (-1)) 1) (c12.1 + 1, c12.2 + (-1)) 1) (c12.1 + (-1), c12.2 + 0) 1) (k := (c12.1 + 0, c12.2 + 0)) (z0 := 0) (v := ((getM (incM (incM (incM (incM (countsM (l.take i)) (c12.1 + (-1), c12.2 + (-1)) 1) (c12.1 + 0, c12.2 + (-1)) 1) (c12.1 + 1, c12.2 + (-1)) 1) (c12.1 + (-1), c12.2 + 0) 1) (c12.1 + 0, c12.2 + 0)).getD 0) + 1) mp67 rfl rfl rfl) rfl rfl ?_)
   rintro _ w68 ⟨k69, mp70⟩
   replace mp70 : MapAt w68 m1 keyC valI (incM (incM (incM (incM (incM (countsM (l.take i)) (c12.1 + (-1), c12.2 + (-1)) 1) (c12.1 + 0, c12.2 + (-1)) 1) (c12.1 + 1, c12.2 + (-1)) 1) (c12.1 + (-1), c12.2 + 0) 1) (c12.1 + 0, c12.2 + 0) 1) := mp70
   have hb71 := inc_bd (k := (c12.1 + 0, c12.2 + 0)) (d := 1) hb61 (by decide)
   replace K0 := Ex.kp_new K0 k69 (fun _ h => h ▸ Nat.le_trans (Nat.le_refl _) hm3)
   replace f8 := f8.kp k69 (fun b h e => Nat.lt_irrefl _ (Nat.lt_of_lt_of_le (show m1 < _ from e ▸ (show b < _ from h)) (Nat.le_trans (Nat.le_refl _) hm3)))
   replace b21 := b21.kp k69 (Nat.ne_of_gt (Nat.lt_of_lt_of_le lm1 (Nat.le_trans z7 hg16)))
   have zw68 := k69.size
   refine ⟨(in_X rfl), ?_⟩
   refine rp_done ?_
   clear hs_
   refine nw_block ?_
   refine nw_seq ?_
   refine cw_region ?_
   refine rw_ev (v := .int .i64 0) (ev_move rfl) rfl rfl rfl ?_
   refine rw_ev (v := .int .i64 1) (ev_add (p := 0) (q := 1) rfl rfl (by decide)) rfl rfl rfl ?_
   refine rw_ev (v := .int .i64 1) (ev_assign rfl) rfl rfl rfl ?_
   refine rw_nil ?_
   refine nw_again ?_
   refine cw_sub (e' := [(2, .map none), (3, .map (some m1)), (9, v), (10, .int .i64 (l.length : Int)), (11, .int .i64 (i : Int)), (5, .pointer (some ⟨g14, 0, none⟩)), (6, .int .i64 0), (7, .int .i64 1)]) (Sub.cons rfl (Sub.cons rfl (Sub.cons rfl (Sub.cons rfl (Sub.cons rfl (Sub.cons rfl (Sub.cons rfl (Sub.cons rfl Sub.nil)))))))) ?_
   refine cw_seq ?_
   refine cw_seq ?_
   refine cw_region ?_
   refine rw_ev (v := .int .i64 1) (ev_move rfl) rfl rfl rfl ?_
   refine rw_ev (v := .bool true) (ev_leq (p := 1) (q := 1) rfl rfl) rfl rfl rfl ?_
   refine rw_nil ?_
   refine nw_seq ?_
   refine cw_t (b := true) rfl rfl ?_
   refine cw_skip ?_
   refine nw_seq ?_
   refine cw_seq ?_
   refine cw_block ?_
   refine cw_drawn (fun w72 w_ => Kp (fun k_ => k_ = m1) w72 w_ ∧ ∃ l_, MapAt w_ m1 keyC valI l_ ∧ ∀ x_, (getM l_ x_).getD 0 = (getM (incM (incM (incM (incM (incM (countsM (l.take i)) (c12.1 + (-1), c12.2 + (-1)) 1) (c12.1 + 0, c12.2 + (-1)) 1) (c12.1 + 1, c12.2 + (-1)) 1) (c12.1 + (-1), c12.2 + 0) 1) (c12.1 + 0, c12.2 + 0) 1) x_).getD 0) [14] (.take 0 (.take 1 (.take 2 (.take 3 (.take 4 (.take 5 (.take 6 (.take 7 (.take 8 (.take 9 (.take 10 (.take 11 (.one 12 (.take 13 (.one 14 .done))))))))))))))) mixed (by kernel_rfl) (by kernel_rfl) (Nat.le_of_ble_eq_true (by kernel_rfl)) ?_; intro w72 k73 hs_
   replace K0 := Ex.trans K0 k73
   replace f8 := f8.ex k73
   replace b21 := b21.ex k73
   replace mp70 := mp70.ex k73
   have zw72 := k73.size
   have hS : (fun w_ => Kp (fun k_ => k_ = m1) w72 w_ ∧ ∃ l_, MapAt w_ m1 keyC valI l_ ∧ ∀ x_, (getM l_ x_).getD 0 = (getM (incM (incM (incM (incM (incM (countsM (l.take i)) (c12.1 + (-1), c12.2 + (-1)) 1) (c12.1 + 0, c12.2 + (-1)) 1) (c12.1 + 1, c12.2 + (-1)) 1) (c12.1 + (-1), c12.2 + 0) 1) (c12.1 + 0, c12.2 + 0) 1) x_).getD 0) w72 := ⟨Kp.refl _ _, _, mp70, fun _ => rfl⟩
   refine rp_take hs_ hS rfl (by kernel_rfl) (ev_move rfl) rfl rfl rfl ?_
   refine rp_take (v := .pointer (some ⟨g14, 0, none⟩)) hs_ hS rfl (by kernel_rfl) (ev_field (o := 0) rfl foff_55_0) rfl rfl rfl ?_
   refine rp_take (v := .int .i64 c12.1) hs_ hS rfl (by kernel_rfl) (ev_lb1 (off := 0) (fun _ h => b21.kp h.1 (Nat.ne_of_gt (Nat.lt_of_lt_of_le lm1 (Nat.le_trans z7 hg16)))) rfl one_3 rfl) rfl rfl rfl ?_
   refine rp_take (v := .int .i64 1) hs_ hS rfl (by kernel_rfl) (ev_move rfl) rfl rfl rfl ?_
   refine rp_take hs_ hS rfl (by kernel_rfl) (ev_add rfl rfl (by omega)) rfl rfl rfl ?_
   refine rp_take (v := .pointer (some ⟨g14, 1, none⟩)) hs_ hS rfl (by kernel_rfl) (ev_field (o := 1) rfl foff_55_1) rfl rfl rfl ?_
   refine rp_take (v := .int .i64 c12.2) hs_ hS rfl (by kernel_rfl) (ev_lb1 (off := 1) (fun _ h => b21.kp h.1 (Nat.ne_of_gt (Nat.lt_of_lt_of_le lm1 (Nat.le_trans z7 hg16)))) rfl one_3 rfl) rfl rfl rfl ?_
   refine rp_take (v := .int .i64 0) hs_ hS rfl (by kernel_rfl) (ev_move rfl) rfl rfl rfl ?_
   refine rp_take hs_ hS rfl (by kernel_rfl) (ev_add rfl rfl (by omega)) rfl rfl rfl ?_
   refine rp_take (v := .agg #[.int .i64 (c12.1 + 1), .int .i64 (c12.2 + 0)]) hs_ hS rfl (by kernel_rfl) (ev_pure rfl rfl (fun _ => by kernel_rfl)) rfl rfl rfl ?_
   have bd74 := hb71 (c12.1 + 1, c12.2 + 0)
   refine rp_take (v := .int .i64 ((getM (incM (incM (incM (incM (incM (countsM (l.take i)) (c12.1 + (-1), c12.2 + (-1)) 1) (c12.1 + 0, c12.2 + (-1)) 1) (c12.1 + 1, c12.2 + (-1)) 1) (c12.1 + (-1), c12.2 + 0) 1) (c12.1 + 0, c12.2 + 0) 1) (c12.1 + 1, c12.2 + 0)).getD 0)) hs_ hS rfl (by kernel_rfl) (ev_lookupS (l := incM (incM (incM (incM (incM (countsM (l.take i)) (c12.1 + (-1), c12.2 + (-1)) 1) (c12.1 + 0, c12.2 + (-1)) 1) (c12.1 + 1, c12.2 + (-1)) 1) (c12.1 + (-1), c12.2 + 0) 1) (c12.1 + 0, c12.2 + 0) 1) (k := (c12.1 + 1, c12.2 + 0)) key_55 map_131 (fun _ h => h.2) zval_3 rfl rfl) rfl rfl rfl ?_
   refine rp_take hs_ hS rfl (by kernel_rfl) (ev_add (p := (getM (incM (incM (incM (incM (incM (countsM (l.take i)) (c12.1 + (-1), c12.2 + (-1)) 1) (c12.1 + 0, c12.2 + (-1)) 1) (c12.1 + 1, c12.2 + (-1)) 1) (c12.1 + (-1), c12.2 + 0) 1) (c12.1 + 0, c12.2 + 0) 1) (c12.1 + 1, c12.2 + 0)).getD 0) (q := 1) rfl rfl (by omega)) rfl rfl rfl ?_
   refine rp_up (up_op rfl (op_mapEntry (fk := keyC) (fv := valI) (l := incM (incM (incM (incM (incM (countsM (l.take i)) (c12.1 + (-1), c12.2 + (-1)) 1) (c12.1 + 0, c12.2 + (-1)) 1) (c12.1 + 1, c12.2 + (-1)) 1) (c12.1 + (-1), c12.2 + 0) 1) (c12.1 + 0, c12.2 + 0) 1) (k := (c12.1 + 1, c12.2 + 0)) (z0 := 0) key_55 map_131 mp70 zval_3 rfl rfl) rfl rfl rfl ?_)
   rintro _ w75 ⟨rfl, k76, mp77⟩
   replace K0 := Ex.kp_new K0 k76 (fun _ h => h ▸ Nat.le_trans (Nat.le_refl _) hm3)
   replace hS : (fun w_ => Kp (fun k_ => k_ = m1) w72 w_ ∧ ∃ l_, MapAt w_ m1 keyC valI l_ ∧ ∀ x_, (getM l_ x_).getD 0 = (getM (incM (incM (incM (incM (incM (countsM (l.take i)) (c12.1 + (-1), c12.2 + (-1)) 1) (c12.1 + 0, c12.2 + (-1)) 1) (c12.1 + 1, c12.2 + (-1)) 1) (c12.1 + (-1), c12.2 + 0) 1) (c12.1 + 0, c12.2 + 0) 1) x_).getD 0) w75 := ⟨Kp.trans hS.1 k76 (fun _ x => x) (fun _ _ x => x), _, mp77, fun x_ => touch_getD (incM (incM (incM (incM (incM (countsM (l.take i)) (c12.1 + (-1), c12.2 + (-1)) 1) (c12.1 + 0, c12.2 + (-1)) 1) (c12.1 + 1, c12.2 + (-1)) 1) (c12.1 + (-1), c12.2 + 0) 1) (c12.1 + 0, c12.2 + 0) 1) (c12.1 + 1, c12.2 + 0) x_⟩
   replace f8 := f8.kp hS.1 (fun b h e => Nat.lt_irrefl _ (Nat.lt_of_lt_of_le (show m1 < _ from e ▸ (show b < _ from h)) (Nat.le_trans (Nat.le_refl _) hm3)))
   replace b21 := b21.kp hS.1 (Nat.ne_of_gt (Nat.lt_of_lt_of_le lm1 (Nat.le_trans z7 hg16)))
   have zw75 := k76.size
   refine ⟨(fun _ => hS), ?_⟩
   refine rp_take hs_ hS rfl (by kernel_rfl) (ev_extract (vs := #[.int .i64 ((getM (incM (incM (incM (incM (incM (countsM (l.take i)) (c12.1 + (-1), c12.2 + (-1)) 1) (c12.1 + 0, c12.2 + (-1)) 1) (c12.1 + 1, c12.2 + (-1)) 1) (c12.1 + (-1), c12.2 + 0) 1) (c12.1 + 0, c12.2 + 0) 1) (c12.1 + 1, c12.2 + 0)).getD 0), .int .i64 ((idxM (incM (incM (incM (incM (incM (countsM (l.take i)) (c12.1 + (-1), c12.2 + (-1)) 1) (c12.1 + 0, c12.2 + (-1)) 1) (c12.1 + 1, c12.2 + (-1)) 1) (c12.1 + (-1), c12.2 + 0) 1) (c12.1 + 0, c12.2 + 0) 1) (c12.1 + 1, c12.2 + 0) : Nat) : Int)]) rfl rfl) rfl rfl rfl ?_
   refine rp_up (up_none rfl (op_entryStore (fk := keyC) (fv := valI) (l := incM (incM (incM (incM (incM (countsM (l.take i)) (c12.1 + (-1), c12.2 + (-1)) 1) (c12.1 + 0, c12.2 + (-1)) 1) (c12.1 + 1, c12.2 + (-1)) 1) (c12.1 + (-1), c12.2 + 0) 1) (c12.1 + 0, c12.2 + 0) 1) (k := (c12.1 + 1, c12.2 + 0)) (z0 := 0) (v := ((getM (incM (incM (incM (incM (incM (countsM (l.take i)) (c12.1 + (-1), c12.2 + (-1)) 1) (c12.1 + 0, c12.2 + (-1)) 1) (c12.1 + 1, c12.2 + (-1)) 1) (c12.1 + (-1), c12.2 + 0) 1) (c12.1 + 0, c12.2 + 0) 1) (c12.1 + 1, c12.2 + 0)).getD 0) + 1) mp77 rfl rfl rfl) rfl rfl ?_)
   rintro _ w78 ⟨k79, mp80⟩
   replace mp80 : MapAt w78 m1 keyC valI (incM (incM (incM (incM (incM (incM (countsM (l.take i)) (c12.1 + (-1), c12.2 + (-1)) 1) (c12.1 + 0, c12.2 + (-1)) 1) (c12.1 + 1, c12.2 + (-1)) 1) (c12.1 + (-1), c12.2 + 0) 1) (c12.1 + 0, c12.2 + 0) 1) (c12.1 + 1, c12.2 + 0) 1) := mp80
   have hb81 := inc_bd (k := (c12.1 + 1, c12.2 + 0)) (d := 1) hb71 (by decide)
   replace K0 := Ex.kp_new K0 k79 (fun _ h => h ▸ Nat.le_trans (Nat.le_refl _) hm3)
   replace f8 := f8.kp k79 (fun b h e => Nat.lt_irrefl _ (Nat.lt_of_lt_of_le (show m1 < _ from e ▸ (show b < _ from h)) (Nat.le_trans (Nat.le_refl _) hm3)))
   replace b21 := b21.kp k79 (Nat.ne_of_gt (Nat.lt_of_lt_of_le lm1 (Nat.le_trans z7 hg16)))
   have zw78 := k79.size
   refine ⟨(in_X rfl), ?_⟩
   refine rp_done ?_
   clear hs_
   refine nw_block ?_
   refine nw_seq ?_
   refine cw_region ?_
   refine rw_ev (v := .int .i64 1) (ev_move rfl) rfl rfl rfl ?_
   refine rw_ev (v := .int .i64 2) (ev_add (p := 1) (q := 1) rfl rfl (by decide)) rfl rfl rfl ?_
   refine rw_ev (v := .int .i64 2) (ev_assign rfl) rfl rfl rfl ?_
   refine rw_nil ?_
   refine nw_again ?_
   refine cw_sub (e' := [(2, .map none), (3, .map (some m1)), (9, v), (10, .int .i64 (l.length : Int)), (11, .int .i64 (i : Int)), (5, .pointer (some ⟨g14, 0, none⟩)), (6, .int .i64 0), (7, .int .i64 2)]) (Sub.cons rfl (Sub.cons rfl (Sub.cons rfl (Sub.cons rfl (Sub.cons rfl (Sub.cons rfl (Sub.cons rfl (Sub.cons rfl Sub.nil)))))))) ?_
   refine cw_seq ?_
   refine cw_seq ?_
   refine cw_region ?_
   refine rw_ev (v := .int .i64 2) (ev_move rfl) rfl rfl rfl ?_
   refine rw_ev (v := .bool false) (ev_leq (p := 2) (q := 1) rfl rfl) rfl rfl rfl ?_
   refine rw_nil ?_
   refine nw_seq ?_
   refine cw_f (b := false) rfl rfl ?_
   refine cw_exit ?_
   refine xw_seq ?_
   refine xw_again ?_
   refine xw_hit ?_
   refine nw_block ?_
   refine nw_seq ?_
   refine cw_region ?_
   refine rw_ev (v := .int .i64 0) (ev_move rfl) rfl rfl rfl ?_
   refine rw_ev (v := .int .i64 1) (ev_add (p := 0) (q := 1) rfl rfl (by decide)) rfl rfl rfl ?_
   refine rw_ev (v := .int .i64 1) (ev_assign rfl) rfl rfl rfl ?_
   refine rw_nil ?_
   refine nw_again ?_
   refine cw_sub (e' := [(2, .map none), (3, .map (some m1)), (9, v), (10, .int .i64 (l.length : Int)), (11, .int .i64 (i : Int)), (5, .pointer (some ⟨g14, 0, none⟩)), (6, .int .i64 1)]) (Sub.cons rfl (Sub.cons rfl (Sub.cons rfl (Sub.cons rfl (Sub.cons rfl (Sub.cons rfl (Sub.cons rfl Sub.nil))))))) ?_
   refine cw_seq ?_
   refine cw_seq ?_
   refine cw_region ?_
   refine rw_ev (v := .int .i64 1) (ev_move rfl) rfl rfl rfl ?_
   refine rw_ev (v := .bool true) (ev_leq (p := 1) (q := 1) rfl rfl) rfl rfl rfl ?_
   refine rw_nil ?_
   refine nw_seq ?_
   refine cw_t (b := true) rfl rfl ?_
   refine cw_skip ?_
   refine nw_seq ?_
   refine cw_seq ?_
   refine cw_block ?_
   refine cw_seq ?_
   refine cw_region ?_
   refine rw_ev (ev_assign rfl) rfl rfl rfl ?_
   refine rw_nil ?_
   refine nw_seq ?_
   refine cw_block ?_
   refine cw_rounds 3 ?_
   refine cw_seq ?_
   refine cw_seq ?_
   refine cw_region ?_
   refine rw_ev (ev_move rfl) rfl rfl rfl ?_
   refine rw_ev (v := .bool true) (ev_leq (p := (-1)) (q := 1) rfl rfl) rfl rfl rfl ?_
   refine rw_nil ?_
   refine nw_seq ?_
   refine cw_t (b := true) rfl rfl ?_
   refine cw_skip ?_
   refine nw_seq ?_
   refine cw_seq ?_
   refine cw_block ?_
   refine cw_drawn (fun w82 w_ => Kp (fun k_ => k_ = m1) w82 w_ ∧ ∃ l_, MapAt w_ m1 keyC valI l_ ∧ ∀ x_, (getM l_ x_).getD 0 = (getM (incM (incM (incM (incM (incM (incM (countsM (l.take i)) (c12.1 + (-1), c12.2 + (-1)) 1) (c12.1 + 0, c12.2 + (-1)) 1) (c12.1 + 1, c12.2 + (-1)) 1) (c12.1 + (-1), c12.2 + 0) 1) (c12.1 + 0, c12.2 + 0) 1) (c12.1 + 1, c12.2 + 0) 1) x_).getD 0) [14] (.take 0 (.take 1 (.take 2 (.take 3 (.take 4 (.take 5 (.take 6 (.take 7 (.take 8 (.take 9 (.take 10 (.take 11 (.one 12 (.take 13 (.one 14 .done))))))))))))))) mixed (by kernel_rfl) (by kernel_rfl) (Nat.le_of_ble_eq_true (by kernel_rfl)) ?_; intro w82 k83 hs_
   replace K0 := Ex.trans K0 k83
   replace f8 := f8.ex k83
   replace b21 := b21.ex k83
   replace mp80 := mp80.ex k83
   have zw82 := k83.size
   have hS : (fun w_ => Kp (fun k_ => k_ = m1) w82 w_ ∧ ∃ l_, MapAt w_ m1 keyC valI l_ ∧ ∀ x_, (getM l_ x_).getD 0 = (getM (incM (incM (incM (incM (incM (incM (countsM (l.take i)) (c12.1 + (-1), c12.2 + (-1)) 1) (c12.1 + 0, c12.2 + (-1)) 1) (c12.1 + 1, c12.2 + (-1)) 1) (c12.1 + (-1), c12.2 + 0) 1) (c12.1 + 0, c12.2 + 0) 1) (c12.1 + 1, c12.2 + 0) 1) x_).getD 0) w82 := ⟨Kp.refl _ _, _, mp80, fun _ => rfl⟩
   refine rp_take hs_ hS rfl (by kernel_rfl) (ev_move rfl) rfl rfl rfl ?_
   refine rp_take (v := .pointer (some ⟨g14, 0, none⟩)) hs_ hS rfl (by kernel_rfl) (ev_field (o := 0) rfl foff_55_0) rfl rfl rfl ?_
   refine rp_take (v := .int .i64 c12.1) hs_ hS rfl (by kernel_rfl) (ev_lb1 (off := 0) (fun _ h => b21.kp h.1 (Nat.ne_of_gt (Nat.lt_of_lt_of_le lm1 (Nat.le_trans z7 hg16)))) rfl one_3 rfl) rfl rfl rfl ?_
   refine rp_take hs_ hS rfl (by kernel_rfl) (ev_move rfl) rfl rfl rfl ?_
   refine rp_take hs_ hS rfl (by kernel_rfl) (ev_add rfl rfl (by omega)) rfl rfl rfl ?_
   refine rp_take (v := .pointer (some ⟨g14, 1, none⟩)) hs_ hS rfl (by kernel_rfl) (ev_field (o := 1) rfl foff_55_1) rfl rfl rfl ?_
   refine rp_take (v := .int .i64 c12.2) hs_ hS rfl (by kernel_rfl) (ev_lb1 (off := 1) (fun _ h => b21.kp h.1 (Nat.ne_of_gt (Nat.lt_of_lt_of_le lm1 (Nat.le_trans z7 hg16)))) rfl one_3 rfl) rfl rfl rfl ?_
   refine rp_take (v := .int .i64 1) hs_ hS rfl (by kernel_rfl) (ev_move rfl) rfl rfl rfl ?_
   refine rp_take hs_ hS rfl (by kernel_rfl) (ev_add rfl rfl (by omega)) rfl rfl rfl ?_
   refine rp_take (v := .agg #[.int .i64 (c12.1 + (-1)), .int .i64 (c12.2 + 1)]) hs_ hS rfl (by kernel_rfl) (ev_pure rfl rfl (fun _ => by kernel_rfl)) rfl rfl rfl ?_
   have bd84 := hb81 (c12.1 + (-1), c12.2 + 1)
   refine rp_take (v := .int .i64 ((getM (incM (incM (incM (incM (incM (incM (countsM (l.take i)) (c12.1 + (-1), c12.2 + (-1)) 1) (c12.1 + 0, c12.2 + (-1)) 1) (c12.1 + 1, c12.2 + (-1)) 1) (c12.1 + (-1), c12.2 + 0) 1) (c12.1 + 0, c12.2 + 0) 1) (c12.1 + 1, c12.2 + 0) 1) (c12.1 + (-1), c12.2 + 1)).getD 0)) hs_ hS rfl (by kernel_rfl) (ev_lookupS (l := incM (incM (incM (incM (incM (incM (countsM (l.take i)) (c12.1 + (-1), c12.2 + (-1)) 1) (c12.1 + 0, c12.2 + (-1)) 1) (c12.1 + 1, c12.2 + (-1)) 1) (c12.1 + (-1), c12.2 + 0) 1) (c12.1 + 0, c12.2 + 0) 1) (c12.1 + 1, c12.2 + 0) 1) (k := (c12.1 + (-1), c12.2 + 1)) key_55 map_131 (fun _ h => h.2) zval_3 rfl rfl) rfl rfl rfl ?_
   refine rp_take hs_ hS rfl (by kernel_rfl) (ev_add (p := (getM (incM (incM (incM (incM (incM (incM (countsM (l.take i)) (c12.1 + (-1), c12.2 + (-1)) 1) (c12.1 + 0, c12.2 + (-1)) 1) (c12.1 + 1, c12.2 + (-1)) 1) (c12.1 + (-1), c12.2 + 0) 1) (c12.1 + 0, c12.2 + 0) 1) (c12.1 + 1, c12.2 + 0) 1) (c12.1 + (-1), c12.2 + 1)).getD 0) (q := 1) rfl rfl (by omega)) rfl rfl rfl ?_
   refine rp_up (up_op rfl (op_mapEntry (fk := keyC) (fv := valI) (l := incM (incM (incM (incM (incM (incM (countsM (l.take i)) (c12.1 + (-1), c12.2 + (-1)) 1) (c12.1 + 0, c12.2 + (-1)) 1) (c12.1 + 1, c12.2 + (-1)) 1) (c12.1 + (-1), c12.2 + 0) 1) (c12.1 + 0, c12.2 + 0) 1) (c12.1 + 1, c12.2 + 0) 1) (k := (c12.1 + (-1), c12.2 + 1)) (z0 := 0) key_55 map_131 mp80 zval_3 rfl rfl) rfl rfl rfl ?_)
   rintro _ w85 ⟨rfl, k86, mp87⟩
   replace K0 := Ex.kp_new K0 k86 (fun _ h => h ▸ Nat.le_trans (Nat.le_refl _) hm3)
   replace hS : (fun w_ => Kp (fun k_ => k_ = m1) w82 w_ ∧ ∃ l_, MapAt w_ m1 keyC valI l_ ∧ ∀ x_, (getM l_ x_).getD 0 = (getM (incM (incM (incM (incM (incM (incM (countsM (l.take i)) (c12.1 + (-1), c12.2 + (-1)) 1) (c12.1 + 0, c12.2 + (-1)) 1) (c12.1 + 1, c12.2 + (-1)) 1) (c12.1 + (-1), c12.2 + 0) 1) (c12.1 + 0, c12.2 + 0) 1) (c12.1 + 1, c12.2 + 0) 1) x_).getD 0) w85 := ⟨Kp.trans hS.1 k86 (fun _ x => x) (fun _ _ x => x), _, mp87, fun x_ => touch_getD (incM (incM (incM (incM (incM (incM (countsM (l.take i)) (c12.1 + (-1), c12.2 + (-1)) 1) (c12.1 + 0, c12.2 + (-1)) 1) (c12.1 + 1, c12.2 + (-1)) 1) (c12.1 + (-1), c12.2 + 0) 1) (c12.1 + 0, c12.2 + 0) 1) (c12.1 + 1, c12.2 + 0) 1) (c12.1 + (-1), c12.2 + 1) x_⟩
   replace f8 := f8.kp hS.1 (fun b h e => Nat.lt_irrefl _ (Nat.lt_of_lt_of_le (show m1 < _ from e ▸ (show b < _ from h)) (Nat.le_trans (Nat.le_refl _) hm3)))
   replace b21 := b21.kp hS.1 (Nat.ne_of_gt (Nat.lt_of_lt_of_le lm1 (Nat.le_trans z7 hg16)))
   have zw85 := k86.size
   refine ⟨(fun _ => hS), ?_⟩
   refine rp_take hs_ hS rfl (by kernel_rfl) (ev_extract (vs := #[.int .i64 ((getM (incM (incM (incM (incM (incM (incM (countsM (l.take i)) (c12.1 + (-1), c12.2 + (-1)) 1) (c12.1 + 0, c12.2 + (-1)) 1) (c12.1 + 1, c12.2 + (-1)) 1) (c12.1 + (-1), c12.2 + 0) 1) (c12.1 + 0, c12.2 + 0) 1) (c12.1 + 1, c12.2 + 0) 1) (c12.1 + (-1), c12.2 + 1)).getD 0), .int .i64 ((idxM (incM (incM (incM (incM (incM (incM (countsM (l.take i)) (c12.1 + (-1), c12.2 + (-1)) 1) (c12.1 + 0, c12.2 + (-1)) 1) (c12.1 + 1, c12.2 + (-1)) 1) (c12.1 + (-1), c12.2 + 0) 1) (c12.1 + 0, c12.2 + 0) 1) (c12.1 + 1, c12.2 + 0) 1) (c12.1 + (-1), c12.2 + 1) : Nat) : Int)]) rfl rfl) rfl rfl rfl ?_
   refine rp_up (up_none rfl (op_entryStore (fk := keyC) (fv := valI) (l := incM (incM (incM (incM (incM (incM (countsM (l.take i)) (c12.1 + (-1), c12.2 + (-1)) 1) (c12.1 + 0, c12.2 + (-1)) 1) (c12.1 + 1, c12.2 + (-1)) 1) (c12.1 + (-1), c12.2 + 0) 1) (c12.1 + 0, c12.2 + 0) 1) (c12.1 + 1, c12.2 + 0) 1) (k := (c12.1 + (-1), c12.2 + 1)) (z0 := 0) (v := ((getM (incM (incM (incM (incM (incM (incM (countsM (l.take i)) (c12.1 + (-1), c12.2 + (-1)) 1) (c12.1 + 0, c12.2 + (-1)) 1) (c12.1 + 1, c12.2 + (-1)) 1) (c12.1 + (-1), c12.2 + 0) 1) (c12.1 + 0, c12.2 + 0) 1) (c12.1 + 1, c12.2 + 0) 1) (c12.1 + (-1), c12.2 + 1)).getD 0) + 1) mp87 rfl rfl rfl) rfl rfl ?_)
   rintro _ w88 ⟨k89, mp90⟩
   replace mp90 : MapAt w88 m1 keyC valI (incM (incM (incM (incM (incM (incM (incM (countsM (l.take i)) (c12.1 + (-1), c12.2 + (-1)) 1) (c12.1 + 0, c12.2 + (-1)) 1) (c12.1 + 1, c12.2 + (-1)) 1) (c12.1 + (-1), c12.2 + 0) 1) (c12.1 + 0, c12.2 + 0) 1) (c12.1 + 1, c12.2 + 0) 1) (c12.1 + (-1), c12.2 + 1) 1) := mp90
   have hb91 := inc_bd (k := (c12.1 + (-1), c12.2 + 1)) (d := 1) hb81 (by decide)
   replace K0 := Ex.kp_new K0 k89 (fun _ h => h ▸ Nat.le_trans (Nat.le_refl _) hm3)
   replace f8 := f8.kp k89 (fun b h e => Nat.lt_irrefl _ (Nat.lt_of_lt_of_le (show m1 < _ from e ▸ (show b < _ from h)) (Nat.le_trans (Nat.le_refl _) hm3)))
   replace b21 := b21.kp k89 (Nat.ne_of_gt (Nat.lt_of_lt_of_le lm1 (Nat.le_trans z7 hg16)))
   have zw88 := k89.size
   refine ⟨(in_X rfl), ?_⟩
   refine rp_done ?_
   clear hs_
   refine nw_block ?_
   refine nw_seq ?_
   refine cw_region ?_
   refine rw_ev (ev_move rfl) rfl rfl rfl ?_
   refine rw_ev (v := .int .i64 0) (ev_add (p := (-1)) (q := 1) rfl rfl (by decide)) rfl rfl rfl ?_
   refine rw_ev (v := .int .i64 0) (ev_assign rfl) rfl rfl rfl ?_
   refine rw_nil ?_
   refine nw_again ?_
   refine cw_sub (e' := [(2, .map none), (3, .map (some m1)), (9, v), (10, .int .i64 (l.length : Int)), (11, .int .i64 (i : Int)), (5, .pointer (some ⟨g14, 0, none⟩)), (6, .int .i64 1), (7, .int .i64 0)]) (Sub.cons rfl (Sub.cons rfl (Sub.cons rfl (Sub.cons rfl (Sub.cons rfl (Sub.cons rfl (Sub.cons rfl (Sub.cons rfl Sub.nil)))))))) ?_
   refine cw_seq ?_
   refine cw_seq ?_
   refine cw_region ?_
   refine rw_ev (v := .int .i64 0) (ev_move rfl) rfl rfl rfl ?_
   refine rw_ev (v := .bool true) (ev_leq (p := 0) (q := 1) rfl rfl) rfl rfl rfl ?_
   refine rw_nil ?_
   refine nw_seq ?_
   refine cw_t (b := true) rfl rfl ?_
   refine cw_skip ?_
   refine nw_seq ?_
   refine cw_seq ?_
   refine cw_block ?_
   refine cw_drawn (fun w92 w_ => Kp (fun k_ => k_ = m1) w92 w_ ∧ ∃ l_, MapAt w_ m1 keyC valI l_ ∧ ∀ x_, (getM l_ x_).getD 0 = (getM (incM (incM (incM (incM (incM (incM (incM (countsM (l.take i)) (c12.1 + (-1), c12.2 + (-1)) 1) (c12.1 + 0, c12.2 + (-1)) 1) (c12.1 + 1, c12.2 + (-1)) 1) (c12.1 + (-1), c12.2 + 0) 1) (c12.1 + 0, c12.2 + 0) 1) (c12.1 + 1, c12.2 + 0) 1) (c12.1 + (-1), c12.2 + 1) 1) x_).getD 0) [14] (.take 0 (.take 1 (.take 2 (.take 3 (.take 4 (.take 5 (.take 6 (.take 7 (.take 8 (.take 9 (.take 10 (.take 11 (.one 12 (.take 13 (.one 14 .done))))))))))))))) mixed (by kernel_rfl) (by kernel_rfl) (Nat.le_of_ble_eq_true (by kernel_rfl)) ?_; intro w92 k93 hs_
   replace K0 := Ex.trans K0 k93
   replace f8 := f8.ex k93
   replace b21 := b21.ex k93
   replace mp90 := mp90.ex k93
   have zw92 := k93.size
   have hS : (fun w_ => Kp (fun k_ => k_ = m1) w92 w_ ∧ ∃ l_, MapAt w_ m1 keyC valI l_ ∧ ∀ x_, (getM l_ x_).getD 0 = (getM (incM (incM (incM (incM (incM (incM (incM (countsM (l.take i)) (c12.1 + (-1), c12.2 + (-1)) 1) (c12.1 + 0, c12.2 + (-1)) 1) (c12.1 + 1, c12.2 + (-1)) 1) (c12.1 + (-1), c12.2 + 0) 1) (c12.1 + 0, c12.2 + 0) 1) (c12.1 + 1, c12.2 + 0) 1) (c12.1 + (-1), c12.2 + 1) 1) x_).getD 0) w92 := ⟨Kp.refl _ _, _, mp90, fun _ => rfl⟩
   refine rp_take hs_ hS rfl (by kernel_rfl) (ev_move rfl) rfl rfl rfl ?_
   refine rp_take (v := .pointer (some ⟨g14, 0, none⟩)) hs_ hS rfl (by kernel_rfl) (ev_field (o := 0) rfl foff_55_0) rfl rfl rfl ?_
   refine rp_take (v := .int .i64 c12.1) hs_ hS rfl (by kernel_rfl) (ev_lb1 (off := 0) (fun _ h => b21.kp h.1 (Nat.ne_of_gt (Nat.lt_of_lt_of_le lm1 (Nat.le_trans z7 hg16)))) rfl one_3 rfl) rfl rfl rfl ?_
   refine rp_take (v := .int .i64 0) hs_ hS rfl (by kernel_rfl) (ev_move rfl) rfl rfl rfl ?_
   refine rp_take hs_ hS rfl (by kernel_rfl) (ev_add rfl rfl (by omega)) rfl rfl rfl ?_
   refine rp_take (v := .pointer (some ⟨g14, 1, none⟩)) hs_ hS rfl (by kernel_rfl) (ev_field (o := 1) rfl foff_55_1) rfl rfl rfl ?_
   refine rp_take (v := .int .i64 c12.2) hs_ hS rfl (by kernel_rfl) (ev_lb1 (off := 1) (fun _ h => b21.kp h.1 (Nat.ne_of_gt (Nat.lt_of_lt_of_le lm1 (Nat.le_trans z7 hg16)))) rfl one_3 rfl) rfl rfl rfl ?_
   refine rp_take (v := .int .i64 1) hs_ hS rfl (by kernel_rfl) (ev_move rfl) rfl rfl rfl ?_
   refine rp_take hs_ hS rfl (by kernel_rfl) (ev_add rfl rfl (by omega)) rfl rfl rfl ?_
   refine rp_take (v := .agg #[.int .i64 (c12.1 + 0), .int .i64 (c12.2 + 1)]) hs_ hS rfl (by kernel_rfl) (ev_pure rfl rfl (fun _ => by kernel_rfl)) rfl rfl rfl ?_
   have bd94 := hb91 (c12.1 + 0, c12.2 + 1)
   refine rp_take (v := .int .i64 ((getM (incM (incM (incM (incM (incM (incM (incM (countsM (l.take i)) (c12.1 + (-1), c12.2 + (-1)) 1) (c12.1 + 0, c12.2 + (-1)) 1) (c12.1 + 1, c12.2 + (-1)) 1) (c12.1 + (-1), c12.2 + 0) 1) (c12.1 + 0, c12.2 + 0) 1) (c12.1 + 1, c12.2 + 0) 1) (c12.1 + (-1), c12.2 + 1) 1) (c12.1 + 0, c12.2 + 1)).getD 0)) hs_ hS rfl (by kernel_rfl) (ev_lookupS (l := incM (incM (incM (incM (incM (incM (incM (countsM (l.take i)) (c12.1 + (-1), c12.2 + (-1)) 1) (c12.1 + 0, c12.2 + (-1)) 1) (c12.1 + 1, c12.2 + (-1)) 1) (c12.1 + (-1), c12.2 + 0) 1) (c12.1 + 0, c12.2 + 0) 1) (c12.1 + 1, c12.2 + 0) 1) (c12.1 + (-1), c12.2 + 1) 1) (k := (c12.1 + 0, c12.2 + 1)) key_55 map_131 (fun _ h => h.2) zval_3 rfl rfl) rfl rfl rfl ?_
   refine rp_take hs_ hS rfl (by kernel_rfl) (ev_add (p := (getM (incM (incM (incM (incM (incM (incM (incM (countsM (l.take i)) (c12.1 + (-1), c12.2 + (-1)) 1) (c12.1 + 0, c12.2 + (-1)) 1) (c12.1 + 1, c12.2 + (-1)) 1) (c12.1 + (-1), c12.2 + 0) 1) (c12.1 + 0, c12.2 + 0) 1) (c12.1 + 1, c12.2 + 0) 1) (c12.1 + (-1), c12.2 + 1) 1) (c12.1 + 0, c12.2 + 1)).getD 0) (q := 1) rfl rfl (by omega)) rfl rfl rfl ?_
   refine rp_up (up_op rfl (op_mapEntry (fk := keyC) (fv := valI) (l := incM (incM (incM (incM (incM (incM (incM (countsM (l.take i)) (c12.1 + (-1), c12.2 + (-1)) 1) (c12.1 + 0, c12.2 + (-1)) 1) (c12.1 + 1, c12.2 + (-1)) 1) (c12.1 + (-1), c12.2 + 0) 1) (c12.1 + 0, c12.2 + 0) 1) (c12.1 + 1, c12.2 + 0) 1) (c12.1 + (-1), c12.2 + 1) 1) (k := (c12.1 + 0, c12.2 + 1)) (z0 := 0) key_55 map_131 mp90 zval_3 rfl rfl) rfl rfl rfl ?_)
   rintro _ w95 ⟨rfl, k96, mp97⟩
   replace K0 := Ex.kp_new K0 k96 (fun _ h => h ▸ Nat.le_trans (Nat.le_refl _) hm3)
   replace hS : (fun w_ => Kp (fun k_ => k_ = m1) w92 w_ ∧ ∃ l_, MapAt w_ m1 keyC valI l_ ∧ ∀ x_, (getM l_ x_).getD 0 = (getM (incM (incM (incM (incM (incM (incM (incM (countsM (l.take i)) (c12.1 + (-1), c12.2 + (-1)) 1) (c12.1 + 0, c12.2 + (-1)) 1) (c12.1 + 1, c12.2 + (-1)) 1) (c12.1 + (-1), c12.2 + 0) 1) (c12.1 + 0, c12.2 + 0) 1) (c12.1 + 1, c12.2 + 0) 1) (c12.1 + (-1), c12.2 + 1) 1) x_).getD 0) w95 := ⟨Kp.trans hS.1 k96 (fun _ x => x) (fun _ _ x => x), _, mp97, fun x_ => touch_getD (incM (incM (incM (incM (incM (incM (incM (countsM (l.take i)) (c12.1 + (-1), c12.2 + (-1)) 1) (c12.1 + 0, c12.2 + (-1)) 1) (c12.1 + 1, c12.2 + (-1)) 1) (c12.1 + (-1), c12.2 + 0) 1) (c12.1 + 0, c12.2 + 0) 1) (c12.1 + 1, c12.2 + 0) 1) (c12.1 + (-1), c12.2 + 1) 1) (c12.1 + 0, c12.2 + 1) x_⟩
   replace f8 := f8.kp hS.1 (fun b h e => Nat.lt_irrefl _ (Nat.lt_of_lt_of_le (show m1 < _ from e ▸ (show b < _ from h)) (Nat.le_trans (Nat.le_refl _) hm3)))
   replace b21 := b21.kp hS.1 (Nat.ne_of_gt (Nat.lt_of_lt_of_le lm1 (Nat.le_trans z7 hg16)))
   have zw95 := k96.size
   refine ⟨(fun _ => hS), ?_⟩
   refine rp_take hs_ hS rfl (by kernel_rfl) (ev_extract (vs := #[.int .i64 ((getM (incM (incM (incM (incM (incM (incM (incM (countsM (l.take i)) (c12.1 + (-1), c12.2 + (-1)) 1) (c12.1 + 0, c12.2 + (-1)) 1) (c12.1 + 1, c12.2 + (-1)) 1) (c12.1 + (-1), c12.2 + 0) 1) (c12.1 + 0, c12.2 + 0) 1) (c12.1 + 1, c12.2 + 0) 1) (c12.1 + (-1), c12.2 + 1) 1) (c12.1 + 0, c12.2 + 1)).getD 0), .int .i64 ((idxM (incM (incM (incM (incM (incM (incM (incM (countsM (l.take i)) (c12.1 + (-1), c12.2 + (-1)) 1) (c12.1 + 0, c12.2 + (-1)) 1) (c12.1 + 1, c12.2 + (-1)) 1) (c12.1 + (-1), c12.2 + 0) 1) (c12.1 + 0, c12.2 + 0) 1) (c12.1 + 1, c12.2 + 0) 1) (c12.1 + (-1), c12.2 + 1) 1) (c12.1 + 0, c12.2 + 1) : Nat) : Int)]) rfl rfl) rfl rfl rfl ?_
   refine rp_up (up_none rfl (op_entryStore (fk := keyC) (fv := valI) (l := incM (incM (incM (incM (incM (incM (incM (countsM (l.take i)) (c12.1 + (-1), c12.2 + (-1)) 1) (c12.1 + 0, c12.2 + (-1)) 1) (c12.1 + 1, c12.2 + (-1)) 1) (c12.1 + (-1), c12.2 + 0) 1) (c12.1 + 0, c12.2 + 0) 1) (c12.1 + 1, c12.2 + 0) 1) (c12.1 + (-1), c12.2 + 1) 1) (k := (c12.1 + 0, c12.2 + 1)) (z0 := 0) (v := ((getM (incM (incM (incM (incM (incM (incM (incM (countsM (l.take i)) (c12.1 + (-1), c12.2 + (-1)) 1) (c12.1 + 0, c12.2 + (-1)) 1) (c12.1 + 1, c12.2 + (-1)) 1) (c12.1 + (-1), c12.2 + 0) 1) (c12.1 + 0, c12.2 + 0) 1) (c12.1 + 1, c12.2 + 0) 1) (c12.1 + (-1), c12.2 + 1) 1) (c12.1 + 0, c12.2 + 1)).getD 0) + 1) mp97 rfl rfl rfl) rfl rfl ?_)
   rintro _ w98 ⟨k99, mp100⟩
   replace mp100 : MapAt w98 m1 keyC valI (incM (incM (incM (incM (incM (incM (incM (incM (countsM (l.take i)) (c12.1 + (-1), c12.2 + (-1)) 1) (c12.1 + 0, c12.2 + (-1)) 1) (c12.1 + 1, c12.2 + (-1)) 1) (c12.1 + (-1), c12.2 + 0) 1) (c12.1 + 0, c12.2 + 0) 1) (c12.1 + 1, c12.2 + 0) 1) (c12.1 + (-1), c12.2 + 1) 1) (c12.1 + 0, c12.2 + 1) 1) := mp100
   have hb101 := inc_bd (k := (c12.1 + 0, c12.2 + 1)) (d := 1) hb91 (by decide)
   replace K0 := Ex.kp_new K0 k99 (fun _ h => h ▸ Nat.le_trans (Nat.le_refl _) hm3)
   replace f8 := f8.kp k99 (fun b h e => Nat.lt_irrefl _ (Nat.lt_of_lt_of_le (show m1 < _ from e ▸ (show b < _ from h)) (Nat.le_trans (Nat.le_refl _) hm3)))
   replace b21 := b21.kp k99 (Nat.ne_of_gt (Nat.lt_of_lt_of_le lm1 (Nat.le_trans z7 hg16)))
   have zw98 := k99.size
   refine ⟨(in_X rfl), ?_⟩
   refine rp_done ?_
   clear hs_
   refine nw_block ?_
   refine nw_seq ?_
   refine cw_region ?_
   refine rw_ev (v := .int .i64 0) (ev_move rfl) rfl rfl rfl ?_
   refine rw_ev (v := .int .i64 1) (ev_add (p := 0) (q := 1) rfl rfl (by decide)) rfl rfl rfl ?_
   refine rw_ev (v := .int .i64 1) (ev_assign rfl) rfl rfl rfl ?_
   refine rw_nil ?_
   refine nw_again ?_
   refine cw_sub (e' := [(2, .map none), (3, .map (some m1)), (9, v), (10, .int .i64 (l.length : Int)), (11, .int .i64 (i : Int)), (5, .pointer (some ⟨g14, 0, none⟩)), (6, .int .i64 1), (7, .int .i64 1)]) (Sub.cons rfl (Sub.cons rfl (Sub.cons rfl (Sub.cons rfl (Sub.cons rfl (Sub.cons rfl (Sub.cons rfl (Sub.cons rfl Sub.nil)))))))) ?_
   refine cw_seq ?_
   refine cw_seq ?_
   refine cw_region ?_
   refine rw_ev (v := .int .i64 1) (ev_move rfl) rfl rfl rfl ?_
   refine rw_ev (v := .bool true) (ev_leq (p := 1) (q := 1) rfl rfl) rfl rfl rfl ?_
   refine rw_nil ?_
   refine nw_seq ?_
   refine cw_t (b := true) rfl rfl ?_
   refine cw_skip ?_
   refine nw_seq ?_
   refine cw_seq ?_
   refine cw_block ?_
   refine cw_drawn (fun w102 w_ => Kp (fun k_ => k_ = m1) w102 w_ ∧ ∃ l_, MapAt w_ m1 keyC valI l_ ∧ ∀ x_, (getM l_ x_).getD 0 = (getM (incM (incM (incM (incM (incM (incM (incM (incM (countsM (l.take i)) (c12.1 + (-1), c12.2 + (-1)) 1) (c12.1 + 0, c12.2 + (-1)) 1) (c12.1 + 1, c12.2 + (-1)) 1) (c12.1 + (-1), c12.2 + 0) 1) (c12.1 + 0, c12.2 + 0) 1) (c12.1 + 1, c12.2 + 0) 1) (c12.1 + (-1), c12.2 + 1) 1) (c12.1 + 0, c12.2 + 1) 1) x_).getD 0) [14] (.take 0 (.take 1 (.take 2 (.take 3 (.take 4 (.take 5 (.take 6 (.take 7 (.take 8 (.take 9 (.take 10 (.take 11 (.one 12 (.take 13 (.one 14 .done))))))))))))))) mixed (by kernel_rfl) (by kernel_rfl) (Nat.le_of_ble_eq_true (by kernel_rfl)) ?_; intro w102 k103 hs_
   replace K0 := Ex.trans K0 k103
   replace f8 := f8.ex k103
   replace b21 := b21.ex k103
   replace mp100 := mp100.ex k103
   have zw102 := k103.size
   have hS : (fun w_ => Kp (fun k_ => k_ = m1) w102 w_ ∧ ∃ l_, MapAt w_ m1 keyC valI l_ ∧ ∀ x_, (getM l_ x_).getD 0 = (getM (incM (incM (incM (incM (incM (incM (incM (incM (countsM (l.take i)) (c12.1 + (-1), c12.2 + (-1)) 1) (c12.1 + 0, c12.2 + (-1)) 1) (c12.1 + 1, c12.2 + (-1)) 1) (c12.1 + (-1), c12.2 + 0) 1) (c12.1 + 0, c12.2 + 0) 1) (c12.1 + 1, c12.2 + 0) 1) (c12.1 + (-1), c12.2 + 1) 1) (c12.1 + 0, c12.2 + 1) 1) x_).getD 0) w102 := ⟨Kp.refl _ _, _, mp100, fun _ => rfl⟩
   refine rp_take hs_ hS rfl (by kernel_rfl) (ev_move rfl) rfl rfl rfl ?_
   refine rp_take (v := .pointer (some ⟨g14, 0, none⟩)) hs_ hS rfl (by kernel_rfl) (ev_field (o := 0) rfl foff_55_0) rfl rfl rfl ?_
   refine rp_take (v := .int .i64 c12.1) hs_ hS rfl (by kernel_rfl) (ev_lb1 (off := 0) (fun _ h => b21.kp h.1 (Nat.ne_of_gt (Nat.lt_of_lt_of_le lm1 (Nat.le_trans z7 hg16)))) rfl one_3 rfl) rfl rfl rfl ?_
   refine rp_take (v := .int .i64 1) hs_ hS rfl (by kernel_rfl) (ev_move rfl) rfl rfl rfl ?_
   refine rp_take hs_ hS rfl (by kernel_rfl) (ev_add rfl rfl (by omega)) rfl rfl rfl ?_
   refine rp_take (v := .pointer (some ⟨g14, 1, none⟩)) hs_ hS rfl (by kernel_rfl) (ev_field (o := 1) rfl foff_55_1) rfl rfl rfl ?_
   refine rp_take (v := .int .i64 c12.2) hs_ hS rfl (by kernel_rfl) (ev_lb1 (off := 1) (fun _ h => b21.kp h.1 (Nat.ne_of_gt (Nat.lt_of_lt_of_le lm1 (Nat.le_trans z7 hg16)))) rfl one_3 rfl) rfl rfl rfl ?_
   refine rp_take (v := .int .i64 1) hs_ hS rfl (by kernel_rfl) (ev_move rfl) rfl rfl rfl ?_
   refine rp_take hs_ hS rfl (by kernel_rfl) (ev_add rfl rfl (by omega)) rfl rfl rfl ?_
   refine rp_take (v := .agg #[.int .i64 (c12.1 + 1), .int .i64 (c12.2 + 1)]) hs_ hS rfl (by kernel_rfl) (ev_pure rfl rfl (fun _ => by kernel_rfl)) rfl rfl rfl ?_
   have bd104 := hb101 (c12.1 + 1, c12.2 + 1)
   refine rp_take (v := .int .i64 ((getM (incM (incM (incM (incM (incM (incM (incM (incM (countsM (l.take i)) (c12.1 + (-1), c12.2 + (-1)) 1) (c12.1 + 0, c12.2 + (-1)) 1) (c12.1 + 1, c12.2 + (-1)) 1) (c12.1 + (-1), c12.2 + 0) 1) (c12.1 + 0, c12.2 + 0) 1) (c12.1 + 1, c12.2 + 0) 1) (c12.1 + (-1), c12.2 + 1) 1) (c12.1 + 0, c12.2 + 1) 1) (c12.1 + 1, c12.2 + 1)).getD 0)) hs_ hS rfl (by kernel_rfl) (ev_lookupS (l := incM (incM (incM (incM (incM (incM (incM (incM (countsM (l.take i)) (c12.1 + (-1), c12.2 + (-1)) 1) (c12.1 + 0, c12.2 + (-1)) 1) (c12.1 + 1, c12.2 + (-1)) 1) (c12.1 + (-1), c12.2 + 0) 1) (c12.1 + 0, c12.2 + 0) 1) (c12.1 + 1, c12.2 + 0) 1) (c12.1 + (-1), c12.2 + 1) 1) (c12.1 + 0, c12.2 + 1) 1) (k := (c12.1 + 1, c12.2 + 1)) key_55 map_131 (fun _ h => h.2) zval_3 rfl rfl) rfl rfl rfl ?_
   refine rp_take hs_ hS rfl (by kernel_rfl) (ev_add (p := (getM (incM (incM (incM (incM (incM (incM (incM (incM (countsM (l.take i)) (c12.1 + (-1), c12.2 + (-1)) 1) (c12.1 + 0, c12.2 + (-1)) 1) (c12.1 + 1, c12.2 + (-1)) 1) (c12.1 + (-1), c12.2 + 0) 1) (c12.1 + 0, c12.2 + 0) 1) (c12.1 + 1, c12.2 + 0) 1) (c12.1 + (-1), c12.2 + 1) 1) (c12.1 + 0, c12.2 + 1) 1) (c12.1 + 1, c12.2 + 1)).getD 0) (q := 1) rfl rfl (by omega)) rfl rfl rfl ?_
   refine rp_up (up_op rfl (op_mapEntry (fk := keyC) (fv := valI) (l := incM (incM (incM (incM (incM (incM (incM (incM (countsM (l.take i)) (c12.1 + (-1), c12.2 + (-1)) 1) (c12.1 + 0, c12.2 + (-1)) 1) (c12.1 + 1, c12.2 + (-1)) 1) (c12.1 + (-1), c12.2 + 0) 1) (c12.1 + 0, c12.2 + 0) 1) (c12.1 + 1, c12.2 + 0) 1) (c12.1 + (-1), c12.2 + 1) 1) (c12.1 + 0, c12.2 + 1) 1) (k := (c12.1 + 1, c12.2 + 1)) (z0 := 0) key_55 map_131 mp100 zval_3 rfl rfl) rfl rfl rfl ?_)
   rintro _ w105 ⟨rfl, k106, mp107⟩
   replace K0 := Ex.kp_new K0 k106 (fun _ h => h ▸ Nat.le_trans (Nat.le_refl _) hm3)
   replace hS : (fun w_ => Kp (fun k_ => k_ = m1) w102 w_ ∧ ∃ l_, MapAt w_ m1 keyC valI l_ ∧ ∀ x_, (getM l_ x_).getD 0 = (getM (incM (incM (incM (incM (incM (incM (incM (incM (countsM (l.take i)) (c12.1 + (-1), c12.2 + (-1)) 1) (c12.1 + 0, c12.2 + (-1)) 1) (c12.1 + 1, c12.2 + (-1)) 1) (c12.1 + (-1), c12.2 + 0) 1) (c12.1 + 0, c12.2 + 0) 1) (c12.1 + 1, c12.2 + 0) 1) (c12.1 + (-1), c12.2 + 1) 1) (c12.1 + 0, c12.2 + 1) 1) x_).getD 0) w105 := ⟨Kp.trans hS.1 k106 (fun _ x => x) (fun _ _ x => x), _, mp107, fun x_ => touch_getD (incM (incM (incM (incM (incM (incM (incM (incM (countsM (l.take i)) (c12.1 + (-1), c12.2 + (-1)) 1) (c12.1 + 0, c12.2 + (-1)) 1) (c12.1 + 1, c12.2 + (-1)) 1) (c12.1 + (-1), c12.2 + 0) 1) (c12.1 + 0, c12.2 + 0) 1) (c12.1 + 1, c12.2 + 0) 1) (c12.1 + (-1), c12.2 + 1) 1) (c12.1 + 0, c12.2 + 1) 1) (c12.1 + 1, c12.2 + 1) x_⟩
   replace f8 := f8.kp hS.1 (fun b h e => Nat.lt_irrefl _ (Nat.lt_of_lt_of_le (show m1 < _ from e ▸ (show b < _ from h)) (Nat.le_trans (Nat.le_refl _) hm3)))
   replace b21 := b21.kp hS.1 (Nat.ne_of_gt (Nat.lt_of_lt_of_le lm1 (Nat.le_trans z7 hg16)))
   have zw105 := k106.size
   refine ⟨(fun _ => hS), ?_⟩
   refine rp_take hs_ hS rfl (by kernel_rfl) (ev_extract (vs := #[.int .i64 ((getM (incM (incM (incM (incM (incM (incM (incM (incM (countsM (l.take i)) (c12.1 + (-1), c12.2 + (-1)) 1) (c12.1 + 0, c12.2 + (-1)) 1) (c12.1 + 1, c12.2 + (-1)) 1) (c12.1 + (-1), c12.2 + 0) 1) (c12.1 + 0, c12.2 + 0) 1) (c12.1 + 1, c12.2 + 0) 1) (c12.1 + (-1), c12.2 + 1) 1) (c12.1 + 0, c12.2 + 1) 1) (c12.1 + 1, c12.2 + 1)).getD 0), .int .i64 ((idxM (incM (incM (incM (incM (incM (incM (incM (incM (countsM (l.take i)) (c12.1 + (-1), c12.2 + (-1)) 1) (c12.1 + 0, c12.2 + (-1)) 1) (c12.1 + 1, c12.2 + (-1)) 1) (c12.1 + (-1), c12.2 + 0) 1) (c12.1 + 0, c12.2 + 0) 1) (c12.1 + 1, c12.2 + 0) 1) (c12.1 + (-1), c12.2 + 1) 1) (c12.1 + 0, c12.2 + 1) 1) (c12.1 + 1, c12.2 + 1) : Nat) : Int)]) rfl rfl) rfl rfl rfl ?_
   refine rp_up (up_none rfl (op_entryStore (fk := keyC) (fv := valI) (l := incM (incM (incM (incM (incM (incM (incM (incM (countsM (l.take i)) (c12.1 + (-1), c12.2 + (-1)) 1) (c12.1 + 0, c12.2 + (-1)) 1) (c12.1 + 1, c12.2 + (-1)) 1) (c12.1 + (-1), c12.2 + 0) 1) (c12.1 + 0, c12.2 + 0) 1) (c12.1 + 1, c12.2 + 0) 1) (c12.1 + (-1), c12.2 + 1) 1) (c12.1 + 0, c12.2 + 1) 1) (k := (c12.1 + 1, c12.2 + 1)) (z0 := 0) (v := ((getM (incM (incM (incM (incM (incM (incM (incM (incM (countsM (l.take i)) (c12.1 + (-1), c12.2 + (-1)) 1) (c12.1 + 0, c12.2 + (-1)) 1) (c12.1 + 1, c12.2 + (-1)) 1) (c12.1 + (-1), c12.2 + 0) 1) (c12.1 + 0, c12.2 + 0) 1) (c12.1 + 1, c12.2 + 0) 1) (c12.1 + (-1), c12.2 + 1) 1) (c12.1 + 0, c12.2 + 1) 1) (c12.1 + 1, c12.2 + 1)).getD 0) + 1) mp107 rfl rfl rfl) rfl rfl ?_)
   rintro _ w108 ⟨k109, mp110⟩
   replace mp110 : MapAt w108 m1 keyC valI (incM (incM (incM (incM (incM (incM (incM (incM (incM (countsM (l.take i)) (c12.1 + (-1), c12.2 + (-1)) 1) (c12.1 + 0, c12.2 + (-1)) 1) (c12.1 + 1, c12.2 + (-1)) 1) (c12.1 + (-1), c12.2 + 0) 1) (c12.1 + 0, c12.2 + 0) 1) (c12.1 + 1, c12.2 + 0) 1) (c12.1 + (-1), c12.2 + 1) 1) (c12.1 + 0, c12.2 + 1) 1) (c12.1 + 1, c12.2 + 1) 1) := mp110
   have hb111 := inc_bd (k := (c12.1 + 1, c12.2 + 1)) (d := 1) hb101 (by decide)
   replace K0 := Ex.kp_new K0 k109 (fun _ h => h ▸ Nat.le_trans (Nat.le_refl _) hm3)
   replace f8 := f8.kp k109 (fun b h e => Nat.lt_irrefl _ (Nat.lt_of_lt_of_le (show m1 < _ from e ▸ (show b < _ from h)) (Nat.le_trans (Nat.le_refl _) hm3)))
   replace b21 := b21.kp k109 (Nat.ne_of_gt (Nat.lt_of_lt_of_le lm1 (Nat.le_trans z7 hg16)))
   have zw108 := k109.size
   refine ⟨(in_X rfl), ?_⟩
   refine rp_done ?_
   clear hs_
   refine nw_block ?_
   refine nw_seq ?_
   refine cw_region ?_
   refine rw_ev (v := .int .i64 1) (ev_move rfl) rfl rfl rfl ?_
   refine rw_ev (v := .int .i64 2) (ev_add (p := 1) (q := 1) rfl rfl (by decide)) rfl rfl rfl ?_
   refine rw_ev (v := .int .i64 2) (ev_assign rfl) rfl rfl rfl ?_
   refine rw_nil ?_
   refine nw_again ?_
   refine cw_sub (e' := [(2, .map none), (3, .map (some m1)), (9, v), (10, .int .i64 (l.length : Int)), (11, .int .i64 (i : Int)), (5, .pointer (some ⟨g14, 0, none⟩)), (6, .int .i64 1), (7, .int .i64 2)]) (Sub.cons rfl (Sub.cons rfl (Sub.cons rfl (Sub.cons rfl (Sub.cons rfl (Sub.cons rfl (Sub.cons rfl (Sub.cons rfl Sub.nil)))))))) ?_
   refine cw_seq ?_
   refine cw_seq ?_
   refine cw_region ?_
   refine rw_ev (v := .int .i64 2) (ev_move rfl) rfl rfl rfl ?_
   refine rw_ev (v := .bool false) (ev_leq (p := 2) (q := 1) rfl rfl) rfl rfl rfl ?_
   refine rw_nil ?_
   refine nw_seq ?_
   refine cw_f (b := false) rfl rfl ?_
   refine cw_exit ?_
   refine xw_seq ?_
   refine xw_again ?_
   refine xw_hit ?_
   refine nw_block ?_
   refine nw_seq ?_
   refine cw_region ?_
   refine rw_ev (v := .int .i64 1) (ev_move rfl) rfl rfl rfl ?_
   refine rw_ev (v := .int .i64 2) (ev_add (p := 1) (q := 1) rfl rfl (by decide)) rfl rfl rfl ?_
   refine rw_ev (v := .int .i64 2) (ev_assign rfl) rfl rfl rfl ?_
   refine rw_nil ?_
   refine nw_again ?_
   refine cw_sub (e' := [(2, .map none), (3, .map (some m1)), (9, v), (10, .int .i64 (l.length : Int)), (11, .int .i64 (i : Int)), (5, .pointer (some ⟨g14, 0, none⟩)), (6, .int .i64 2)]) (Sub.cons rfl (Sub.cons rfl (Sub.cons rfl (Sub.cons rfl (Sub.cons rfl (Sub.cons rfl (Sub.cons rfl Sub.nil))))))) ?_
   refine cw_seq ?_
   refine cw_seq ?_
   refine cw_region ?_
   refine rw_ev (v := .int .i64 2) (ev_move rfl) rfl rfl rfl ?_
   refine rw_ev (v := .bool false) (ev_leq (p := 2) (q := 1) rfl rfl) rfl rfl rfl ?_
   refine rw_nil ?_
   refine nw_seq ?_
   refine cw_f (b := false) rfl rfl ?_
   refine cw_exit ?_
   refine xw_seq ?_
   refine xw_again ?_
   refine xw_hit ?_
   refine nw_seq ?_
   refine cw_drawn (fun w112 w_ => Kp (fun k_ => k_ = m1) w112 w_ ∧ ∃ l_, MapAt w_ m1 keyC valI l_ ∧ ∀ x_, (getM l_ x_).getD 0 = (getM (incM (incM (incM (incM (incM (incM (incM (incM (incM (countsM (l.take i)) (c12.1 + (-1), c12.2 + (-1)) 1) (c12.1 + 0, c12.2 + (-1)) 1) (c12.1 + 1, c12.2 + (-1)) 1) (c12.1 + (-1), c12.2 + 0) 1) (c12.1 + 0, c12.2 + 0) 1) (c12.1 + 1, c12.2 + 0) 1) (c12.1 + (-1), c12.2 + 1) 1) (c12.1 + 0, c12.2 + 1) 1) (c12.1 + 1, c12.2 + 1) 1) x_).getD 0) [6] (.take 0 (.take 1 (.take 2 (.take 3 (.one 4 (.take 5 (.one 6 .done))))))) mixed (by kernel_rfl) (by kernel_rfl) (Nat.le_of_ble_eq_true (by kernel_rfl)) ?_; intro w112 k113 hs_
   replace K0 := Ex.trans K0 k113
   replace f8 := f8.ex k113
   replace b21 := b21.ex k113
   replace mp110 := mp110.ex k113
   have zw112 := k113.size
   have hS : (fun w_ => Kp (fun k_ => k_ = m1) w112 w_ ∧ ∃ l_, MapAt w_ m1 keyC valI l_ ∧ ∀ x_, (getM l_ x_).getD 0 = (getM (incM (incM (incM (incM (incM (incM (incM (incM (incM (countsM (l.take i)) (c12.1 + (-1), c12.2 + (-1)) 1) (c12.1 + 0, c12.2 + (-1)) 1) (c12.1 + 1, c12.2 + (-1)) 1) (c12.1 + (-1), c12.2 + 0) 1) (c12.1 + 0, c12.2 + 0) 1) (c12.1 + 1, c12.2 + 0) 1) (c12.1 + (-1), c12.2 + 1) 1) (c12.1 + 0, c12.2 + 1) 1) (c12.1 + 1, c12.2 + 1) 1) x_).getD 0) w112 := ⟨Kp.refl _ _, _, mp110, fun _ => rfl⟩
   refine rp_take hs_ hS rfl (by kernel_rfl) (ev_move rfl) rfl rfl rfl ?_
   refine rp_take (v := .agg #[.int .i64 c12.1, .int .i64 c12.2]) hs_ hS rfl (by kernel_rfl) (ev_lbk (off := 0) (vs := [.int .i64 c12.1, .int .i64 c12.2]) (fun _ h => b21.kp h.1 (Nat.ne_of_gt (Nat.lt_of_lt_of_le lm1 (Nat.le_trans z7 hg16)))) rfl agg_55 rfl rfl) rfl rfl rfl ?_
   have bd114 := hb111 c12
   refine rp_take (v := .int .i64 ((getM (incM (incM (incM (incM (incM (incM (incM (incM (incM (countsM (l.take i)) (c12.1 + (-1), c12.2 + (-1)) 1) (c12.1 + 0, c12.2 + (-1)) 1) (c12.1 + 1, c12.2 + (-1)) 1) (c12.1 + (-1), c12.2 + 0) 1) (c12.1 + 0, c12.2 + 0) 1) (c12.1 + 1, c12.2 + 0) 1) (c12.1 + (-1), c12.2 + 1) 1) (c12.1 + 0, c12.2 + 1) 1) (c12.1 + 1, c12.2 + 1) 1) c12).getD 0)) hs_ hS rfl (by kernel_rfl) (ev_lookupS (l := incM (incM (incM (incM (incM (incM (incM (incM (incM (countsM (l.take i)) (c12.1 + (-1), c12.2 + (-1)) 1) (c12.1 + 0, c12.2 + (-1)) 1) (c12.1 + 1, c12.2 + (-1)) 1) (c12.1 + (-1), c12.2 + 0) 1) (c12.1 + 0, c12.2 + 0) 1) (c12.1 + 1, c12.2 + 0) 1) (c12.1 + (-1), c12.2 + 1) 1) (c12.1 + 0, c12.2 + 1) 1) (c12.1 + 1, c12.2 + 1) 1) (k := c12) key_55 map_131 (fun _ h => h.2) zval_3 rfl rfl) rfl rfl rfl ?_
   refine rp_take hs_ hS rfl (by kernel_rfl) (ev_add (p := (getM (incM (incM (incM (incM (incM (incM (incM (incM (incM (countsM (l.take i)) (c12.1 + (-1), c12.2 + (-1)) 1) (c12.1 + 0, c12.2 + (-1)) 1) (c12.1 + 1, c12.2 + (-1)) 1) (c12.1 + (-1), c12.2 + 0) 1) (c12.1 + 0, c12.2 + 0) 1) (c12.1 + 1, c12.2 + 0) 1) (c12.1 + (-1), c12.2 + 1) 1) (c12.1 + 0, c12.2 + 1) 1) (c12.1 + 1, c12.2 + 1) 1) c12).getD 0) (q := 9) rfl rfl (by omega)) rfl rfl rfl ?_
   refine rp_up (up_op rfl (op_mapEntry (fk := keyC) (fv := valI) (l := incM (incM (incM (incM (incM (incM (incM (incM (incM (countsM (l.take i)) (c12.1 + (-1), c12.2 + (-1)) 1) (c12.1 + 0, c12.2 + (-1)) 1) (c12.1 + 1, c12.2 + (-1)) 1) (c12.1 + (-1), c12.2 + 0) 1) (c12.1 + 0, c12.2 + 0) 1) (c12.1 + 1, c12.2 + 0) 1) (c12.1 + (-1), c12.2 + 1) 1) (c12.1 + 0, c12.2 + 1) 1) (c12.1 + 1, c12.2 + 1) 1) (k := c12) (z0 := 0) key_55 map_131 mp110 zval_3 rfl rfl) rfl rfl rfl ?_)
   rintro _ w115 ⟨rfl, k116, mp117⟩
   replace K0 := Ex.kp_new K0 k116 (fun _ h => h ▸ Nat.le_trans (Nat.le_refl _) hm3)
   replace hS : (fun w_ => Kp (fun k_ => k_ = m1) w112 w_ ∧ ∃ l_, MapAt w_ m1 keyC valI l_ ∧ ∀ x_, (getM l_ x_).getD 0 = (getM (incM (incM (incM (incM (incM (incM (incM (incM (incM (countsM (l.take i)) (c12.1 + (-1), c12.2 + (-1)) 1) (c12.1 + 0, c12.2 + (-1)) 1) (c12.1 + 1, c12.2 + (-1)) 1) (c12.1 + (-1), c12.2 + 0) 1) (c12.1 + 0, c12.2 + 0) 1) (c12.1 + 1, c12.2 + 0) 1) (c12.1 + (-1), c12.2 + 1) 1) (c12.1 + 0, c12.2 + 1) 1) (c12.1 + 1, c12.2 + 1) 1) x_).getD 0) w115 := ⟨Kp.trans hS.1 k116 (fun _ x => x) (fun _ _ x => x), _, mp117, fun x_ => touch_getD (incM (incM (incM (incM (incM (incM (incM (incM (incM (countsM (l.take i)) (c12.1 + (-1), c12.2 + (-1)) 1) (c12.1 + 0, c12.2 + (-1)) 1) (c12.1 + 1, c12.2 + (-1)) 1) (c12.1 + (-1), c12.2 + 0) 1) (c12.1 + 0, c12.2 + 0) 1) (c12.1 + 1, c12.2 + 0) 1) (c12.1 + (-1), c12.2 + 1) 1) (c12.1 + 0, c12.2 + 1) 1) (c12.1 + 1, c12.2 + 1) 1) c12 x_⟩
   replace f8 := f8.kp hS.1 (fun b h e => Nat.lt_irrefl _ (Nat.lt_of_lt_of_le (show m1 < _ from e ▸ (show b < _ from h)) (Nat.le_trans (Nat.le_refl _) hm3)))
   replace b21 := b21.kp hS.1 (Nat.ne_of_gt (Nat.lt_of_lt_of_le lm1 (Nat.le_trans z7 hg16)))
   have zw115 := k116.size
   refine ⟨(fun _ => hS), ?_⟩
   refine rp_take hs_ hS rfl (by kernel_rfl) (ev_extract (vs := #[.int .i64 ((getM (incM (incM (incM (incM (incM (incM (incM (incM (incM (countsM (l.take i)) (c12.1 + (-1), c12.2 + (-1)) 1) (c12.1 + 0, c12.2 + (-1)) 1) (c12.1 + 1, c12.2 + (-1)) 1) (c12.1 + (-1), c12.2 + 0) 1) (c12.1 + 0, c12.2 + 0) 1) (c12.1 + 1, c12.2 + 0) 1) (c12.1 + (-1), c12.2 + 1) 1) (c12.1 + 0, c12.2 + 1) 1) (c12.1 + 1, c12.2 + 1) 1) c12).getD 0), .int .i64 ((idxM (incM (incM (incM (incM (incM (incM (incM (incM (incM (countsM (l.take i)) (c12.1 + (-1), c12.2 + (-1)) 1) (c12.1 + 0, c12.2 + (-1)) 1) (c12.1 + 1, c12.2 + (-1)) 1) (c12.1 + (-1), c12.2 + 0) 1) (c12.1 + 0, c12.2 + 0) 1) (c12.1 + 1, c12.2 + 0) 1) (c12.1 + (-1), c12.2 + 1) 1) (c12.1 + 0, c12.2 + 1) 1) (c12.1 + 1, c12.2 + 1) 1) c12 : Nat) : Int)]) rfl rfl) rfl rfl rfl ?_
   refine rp_up (up_none rfl (op_entryStore (fk := keyC) (fv := valI) (l := incM (incM (incM (incM (incM (incM (incM (incM (incM (countsM (l.take i)) (c12.1 + (-1), c12.2 + (-1)) 1) (c12.1 + 0, c12.2 + (-1)) 1) (c12.1 + 1, c12.2 + (-1)) 1) (c12.1 + (-1), c12.2 + 0) 1) (c12.1 + 0, c12.2 + 0) 1) (c12.1 + 1, c12.2 + 0) 1) (c12.1 + (-1), c12.2 + 1) 1) (c12.1 + 0, c12.2 + 1) 1) (c12.1 + 1, c12.2 + 1) 1) (k := c12) (z0 := 0) (v := ((getM (incM (incM (incM (incM (incM (incM (incM (incM (incM (countsM (l.take i)) (c12.1 + (-1), c12.2 + (-1)) 1) (c12.1 + 0, c12.2 + (-1)) 1) (c12.1 + 1, c12.2 + (-1)) 1) (c12.1 + (-1), c12.2 + 0) 1) (c12.1 + 0, c12.2 + 0) 1) (c12.1 + 1, c12.2 + 0) 1) (c12.1 + (-1), c12.2 + 1) 1) (c12.1 + 0, c12.2 + 1) 1) (c12.1 + 1, c12.2 + 1) 1) c12).getD 0) + 9) mp117 rfl rfl rfl) rfl rfl ?_)
   rintro _ w118 ⟨k119, mp120⟩
   replace mp120 : MapAt w118 m1 keyC valI (incM (incM (incM (incM (incM (incM (incM (incM (incM (incM (countsM (l.take i)) (c12.1 + (-1), c12.2 + (-1)) 1) (c12.1 + 0, c12.2 + (-1)) 1) (c12.1 + 1, c12.2 + (-1)) 1) (c12.1 + (-1), c12.2 + 0) 1) (c12.1 + 0, c12.2 + 0) 1) (c12.1 + 1, c12.2 + 0) 1) (c12.1 + (-1), c12.2 + 1) 1) (c12.1 + 0, c12.2 + 1) 1) (c12.1 + 1, c12.2 + 1) 1) c12 9) := mp120
   have hb121 := inc_bd (k := c12) (d := 9) hb111 (by decide)
   replace K0 := Ex.kp_new K0 k119 (fun _ h => h ▸ Nat.le_trans (Nat.le_refl _) hm3)
   replace f8 := f8.kp k119 (fun b h e => Nat.lt_irrefl _ (Nat.lt_of_lt_of_le (show m1 < _ from e ▸ (show b < _ from h)) (Nat.le_trans (Nat.le_refl _) hm3)))
   replace b21 := b21.kp k119 (Nat.ne_of_gt (Nat.lt_of_lt_of_le lm1 (Nat.le_trans z7 hg16)))
   have zw118 := k119.size
   refine ⟨(in_X rfl), ?_⟩
   refine rp_done ?_
   clear hs_
   refine nw_block ?_
   refine nw_seq ?_
   refine cw_region ?_
   refine rw_ev (ev_add rfl rfl (by omega)) rfl rfl rfl ?_
   refine rw_ev (ev_move rfl) rfl rfl rfl ?_
   refine rw_nil ?_
   exact nw_round (i + 1) (Sub.cons rfl (Sub.cons rfl (Sub.cons rfl (Sub.cons rfl (Sub.int (b := ((i + 1) : Int)) rfl (by omega) Sub.nil))))) ⟨K0, (Nat.le_trans z7 (Nat.le_trans zw15 (Nat.le_trans zw19 (Nat.le_trans zw22 (Nat.le_trans zw25 (Nat.le_trans zw28 (Nat.le_trans zw32 (Nat.le_trans zw35 (Nat.le_trans zw38 (Nat.le_trans zw42 (Nat.le_trans zw45 (Nat.le_trans zw48 (Nat.le_trans zw52 (Nat.le_trans zw55 (Nat.le_trans zw58 (Nat.le_trans zw62 (Nat.le_trans zw65 (Nat.le_trans zw68 (Nat.le_trans zw72 (Nat.le_trans zw75 (Nat.le_trans zw78 (Nat.le_trans zw82 (Nat.le_trans zw85 (Nat.le_trans zw88 (Nat.le_trans zw92 (Nat.le_trans zw95 (Nat.le_trans zw98 (Nat.le_trans zw102 (Nat.le_trans zw105 (Nat.le_trans zw108 (Nat.le_trans zw112 (Nat.le_trans zw115 zw118)))))))))))))))))))))))))))))))), f8, (by have hq := mp120; first | exact hq | (rw [counts_succ (by assumption : l[i]? = some _)]; exact hq)), (by omega)⟩ (by first | omega | (dsimp only; omega))
  ·
   refine cw_f (b := decide ((i : Int) < (l.length : Int))) rfl (dec_f h11) ?_
   refine cw_exit ?_
   refine xw_seq ?_
   refine xw_goal ?_
   refine xw_hit ?_
   refine nw_seq ?_
   refine cw_seq ?_
   refine cw_region ?_
   refine rw_ev (ev_move rfl) rfl rfl rfl ?_
   refine rw_ev (ev_assign rfl) rfl rfl rfl ?_
   refine rw_nil ?_
   refine nw_seq ?_
   refine cw_ret ?_
   refine ret_post (rs := [.tmp 2]) (vs := [.map (some m1)]) rfl (.tmp rfl .nil) ?_
   refine ⟨m1, ?_, K0, ?_⟩
   · show (.map (some m1) : Value) = _
     rfl
   · exact ⟨Nat.le_trans (Nat.le_refl _) hm3, Nat.lt_of_lt_of_le lm1 z7, by have hq := f9; rw [take_all (by assumption : ¬ (i : Int) < l.length)] at hq; exact hq⟩

end Go.Proofs.Ythpaadmpgdglnaa
