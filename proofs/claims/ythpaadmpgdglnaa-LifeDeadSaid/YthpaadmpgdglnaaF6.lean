/- What a generation is by the document. Each theorem names its conditions. -/
import Derived.Test.YthpaadmpgdglnaaF5
import Derived.Test.YthpaadmpgdglnaaF2
import Derived.Test.YthpaadmpgdglnaaN4
namespace Go.Proofs.Ythpaadmpgdglnaa
open Go Go.RowKit
set_option linter.unusedVariables false
set_option linter.unusedSimpArgs false
set_option maxRecDepth 100000
set_option maxHeartbeats 4000000

theorem c_next2 (w : World) (v : Value) (l : List Cell) (hv : Sl w (fun b => b < w.heap.size) v 2 (l.map encC)) : Fn Try.prog 48 [v] w (fun v w' => ∃ u : Value, v = .tuple #[u, .int .i64 ((nextC l).2)] ∧ Ex w w' ∧ Sl w' (fun b => w.heap.size ≤ b ∧ b < w'.heap.size) u 2 (((nextC l).1).map encC)) := by
  have K0 : Ex w w := Kp.refl _ _
  refine fn_enter (n := 55) Try.func48 rfl rfl (Nat.le_of_ble_eq_true rfl) ?_
  show CW _ _ _ _ _ _ [(0, v)] _
  have hlv_ := hv.lenm
  refine cw_seq ?_
  refine cw_region ?_
  refine rw_ev (ev_assign rfl) rfl rfl rfl ?_
  refine rw_ev (ev_assign rfl) rfl rfl rfl ?_
  refine rw_nil ?_
  refine nw_seq ?_
  refine cw_seq ?_
  refine cw_seq ?_
  refine cw_region ?_
  refine rw_ev (ev_move rfl) rfl rfl rfl ?_
  refine rw_op (op_fn (xs := [.tmp 8]) ent_54 rfl (c_right w v l (Sl.below hv))) rfl rfl rfl ?_
  rintro _ w1 ⟨rfl, k2⟩
  replace K0 := Ex.trans K0 k2
  replace hv := hv.ex k2
  have zw1 := k2.size
  refine rw_ev (ev_not rfl rfl) rfl rfl rfl ?_
  refine rw_nil ?_
  refine nw_seq ?_
  rcases Bool.eq_false_or_eq_true (rightC l) with h3 | h3
  ·
   refine cw_f (b := !(rightC l)) rfl (not_f h3) ?_
   refine cw_skip ?_
   refine nw_seq ?_
   refine cw_seq ?_
   refine cw_region ?_
   refine rw_ev (ev_assign rfl) rfl rfl rfl ?_
   refine rw_nil ?_
   refine nw_seq ?_
   refine cw_seq ?_
   refine cw_seq ?_
   refine cw_region ?_
   refine rw_ev (ev_assign rfl) rfl rfl rfl ?_
   refine rw_nil ?_
   refine nw_seq ?_
   refine cw_block ?_
   refine cw_loop (σ := Nat × Value) (fun s_ => match s_ with | (i, x) => [(0, v), (2, .slice none 0 0), (3, .int .i64 0), (4, x), (5, .int .i64 (i : Int))]) (fun s_ wr => match s_ with | (i, x) => Ex w wr ∧ w1.heap.size ≤ wr.heap.size ∧ Sl wr (fun b => b < w.heap.size) v 2 (l.map encC) ∧ Ow wr w1.heap.size 55 x 2 (((List.range i).foldl (cand l) []).map encC) ∧ i ≤ l.length) (fun s_ => match s_ with | (i, x) => l.length - i) (0, .slice none 0 0) (Sub.cons rfl (Sub.cons rfl (Sub.cons rfl (Sub.cons rfl (Sub.int (b := (0 : Int)) rfl (by omega) Sub.nil))))) ⟨K0, (Nat.le_refl _), hv, (Ow.nil _ _ _ _), (by omega)⟩ ?_
   rintro ⟨i, x⟩ w4 ⟨K0, z5, f6, f7, pr8⟩
   show CW _ _ _ _ _ _ [(0, v), (2, .slice none 0 0), (3, .int .i64 0), (4, x), (5, .int .i64 (i : Int))] _
   refine cw_seq ?_
   refine cw_seq ?_
   refine cw_region ?_
   refine rw_ev (ev_move rfl) rfl rfl rfl ?_
   refine rw_ev (ev_move rfl) rfl rfl rfl ?_
   refine rw_ev (v := .int .i64 (l.length : Int)) (ev_lenm (l := l) ⟨_, f6⟩ rfl el_46 rfl) rfl rfl rfl ?_
   refine rw_ev (ev_lss rfl rfl) rfl rfl rfl ?_
   refine rw_nil ?_
   refine nw_seq ?_
   by_cases h9 : (i : Int) < (l.length : Int)
   ·
    refine cw_t (b := decide ((i : Int) < (l.length : Int))) rfl (dec_t h9) ?_
    refine cw_skip ?_
    refine nw_seq ?_
    refine cw_seq ?_
    refine cw_block ?_
    refine cw_seq ?_
    refine cw_region ?_
    refine rw_ev (ev_assign rfl) rfl rfl rfl ?_
    refine rw_nil ?_
    refine nw_seq ?_
    refine cw_block ?_
    refine cw_loop (σ := Nat × Value) (fun s_ => match s_ with | (k, y) => [(0, v), (2, .slice none 0 0), (3, .int .i64 0), (4, y), (5, .int .i64 (i : Int)), (6, .int .i64 (k : Int))]) (fun s_ wr => match s_ with | (k, y) => Ex w wr ∧ w4.heap.size ≤ wr.heap.size ∧ Sl wr (fun b => b < w.heap.size) v 2 (l.map encC) ∧ Ow wr w1.heap.size 55 y 2 (((List.range k).foldl (candStep l i) ((List.range i).foldl (cand l) [])).map encC) ∧ k ≤ 9) (fun s_ => match s_ with | (k, y) => 9 - k) (0, x) (Sub.cons rfl (Sub.cons rfl (Sub.cons rfl (Sub.cons rfl (Sub.cons rfl (Sub.int (b := (0 : Int)) rfl (by omega) Sub.nil)))))) ⟨K0, (Nat.le_refl _), f6, (by have hq := f7; first | exact hq | (rw [range_fold_succ]; first | (rw [candStep_yes (by assumption) (by assumption)]; exact hq) | (rw [candStep_no (by assumption) (by assumption)]; exact hq))), (by omega)⟩ ?_
    rintro ⟨k, y⟩ w10 ⟨K0, z11, f12, f13, pr14⟩
    show CW _ _ _ _ _ _ [(0, v), (2, .slice none 0 0), (3, .int .i64 0), (4, y), (5, .int .i64 (i : Int)), (6, .int .i64 (k : Int))] _
    refine cw_seq ?_
    refine cw_seq ?_
    refine cw_region ?_
    refine rw_ev (ev_move rfl) rfl rfl rfl ?_
    refine rw_ev (ev_lss rfl rfl) rfl rfl rfl ?_
    refine rw_nil ?_
    refine nw_seq ?_
    by_cases h15 : (k : Int) < 9
    ·
     refine cw_t (b := decide ((k : Int) < 9)) rfl (dec_t h15) ?_
     refine cw_skip ?_
     refine nw_seq ?_
     refine cw_seq ?_
     refine cw_block ?_
     refine cw_seq ?_
     refine cw_drawn (fun w16 w_ => Ex w16 w_) [20] (.take 0 (.take 1 (.take 2 (.take 3 (.take 4 (.take 5 (.take 6 (.take 7 (.take 8 (.take 9 (.take 10 (.take 11 (.take 12 (.take 13 (.take 14 (.take 15 (.take 16 (.take 17 (.take 18 (.one 19 (.one 20 .done))))))))))))))))))))) mixed (by kernel_rfl) (by kernel_rfl) (Nat.le_of_ble_eq_true (by kernel_rfl)) ?_; intro w16 k17 hs_
     replace K0 := Ex.trans K0 k17
     replace f12 := f12.ex k17
     replace f13 := f13.ex k17
     have zw16 := k17.size
     have hS : (fun w_ => Ex w16 w_) w16 := Kp.refl _ _
     refine rp_take hs_ hS rfl (by kernel_rfl) (ev_move rfl) rfl rfl rfl ?_
     refine rp_take hs_ hS rfl (by kernel_rfl) (ev_move rfl) rfl rfl rfl ?_
     obtain ⟨c18, hc19⟩ := get_of (l := l) (i := i) (by omega)
     obtain ⟨_, _, _, _⟩ := right_in h3 hc19
     refine rp_take (v := elemPtr v i 2 0) hs_ hS rfl (by kernel_rfl) (ev_slAt (i := (i : Int)) ⟨_, (f12.ex hS)⟩ rfl rfl el_46 (idx_ok (i := (i : Int)) hc19 (by omega))) rfl rfl rfl ?_
     refine rp_take (v := elemPtr v i 2 0) hs_ hS rfl (by kernel_rfl) (ev_elField (o := 0) ⟨_, (f12.ex hS)⟩ (len_enc hc19) rfl foff_55_0) rfl rfl rfl ?_
     refine rp_take (v := .int .i64 c18.1) hs_ hS rfl (by kernel_rfl) (ev_elLoad1 (u := .int .i64 c18.1) (fun _ h => (f12.ex h)) ⟨_, hS⟩ rfl (get_enc hc19) one_3 (by decide) rfl) rfl rfl rfl ?_
     refine rp_take hs_ hS rfl (by kernel_rfl) (ev_move rfl) rfl rfl rfl ?_
     refine rp_take hs_ hS rfl (by kernel_rfl) (ev_rem rfl rfl (by omega)) rfl rfl rfl ?_
     refine rp_take hs_ hS rfl (by kernel_rfl) (ev_add rfl rfl (by omega)) rfl rfl rfl ?_
     refine rp_take hs_ hS rfl (by kernel_rfl) (ev_sub rfl rfl (by omega)) rfl rfl rfl ?_
     refine rp_take hs_ hS rfl (by kernel_rfl) (ev_move rfl) rfl rfl rfl ?_
     refine rp_take hs_ hS rfl (by kernel_rfl) (ev_move rfl) rfl rfl rfl ?_
     refine rp_take (v := elemPtr v i 2 0) hs_ hS rfl (by kernel_rfl) (ev_slAt (i := (i : Int)) ⟨_, (f12.ex hS)⟩ rfl rfl el_46 (idx_ok (i := (i : Int)) hc19 (by omega))) rfl rfl rfl ?_
     refine rp_take (v := elemPtr v i 2 1) hs_ hS rfl (by kernel_rfl) (ev_elField (o := 1) ⟨_, (f12.ex hS)⟩ (len_enc hc19) rfl foff_55_1) rfl rfl rfl ?_
     refine rp_take (v := .int .i64 c18.2) hs_ hS rfl (by kernel_rfl) (ev_elLoad1 (u := .int .i64 c18.2) (fun _ h => (f12.ex h)) ⟨_, hS⟩ rfl (get_enc hc19) one_3 (by decide) rfl) rfl rfl rfl ?_
     refine rp_take hs_ hS rfl (by kernel_rfl) (ev_move rfl) rfl rfl rfl ?_
     refine rp_take hs_ hS rfl (by kernel_rfl) (ev_quo rfl rfl (by omega)) rfl rfl rfl ?_
     refine rp_take hs_ hS rfl (by kernel_rfl) (ev_add rfl rfl (by omega)) rfl rfl rfl ?_
     refine rp_take hs_ hS rfl (by kernel_rfl) (ev_sub rfl rfl (by omega)) rfl rfl rfl ?_
     refine rp_take (v := .agg #[.int .i64 ((c18.1 + ((k : Int) % 3)) - 1), .int .i64 ((c18.2 + ((k : Int) / 3)) - 1)]) hs_ hS rfl (by kernel_rfl) (ev_pure rfl rfl (fun _ => by kernel_rfl)) rfl rfl rfl ?_
     refine rp_up (up_op rfl (op_alloc zero_55) rfl rfl rfl ?_)
     rintro _ w21 ⟨g20, rfl, hg22, k23, b24⟩
     have rw25 : ∀ b, (y : Value).ownBlock = some b → b < g20 := fun b h => Nat.lt_of_lt_of_le (f13.lt b h).2 (Nat.le_trans (Nat.le_refl _) hg22)
     replace K0 := Ex.trans K0 k23
     replace hS := Ex.trans hS k23
     have zw21 := k23.size
     have lg20 := b24.lt
     refine ⟨(fun _ => hS), ?_⟩
     replace f12 := f12.ex hS
     replace f13 := f13.ex hS
     refine rp_up (up_none rfl (op_store (off := 0) (v := .agg #[.int .i64 ((c18.1 + ((k : Int) % 3)) - 1), .int .i64 ((c18.2 + ((k : Int) / 3)) - 1)]) (cs' := #[.int .i64 ((c18.1 + ((k : Int) % 3)) - 1), .int .i64 ((c18.2 + ((k : Int) / 3)) - 1)]) b24 rfl rfl size_55 rfl (Nat.le_of_ble_eq_true rfl) (one_cons rfl (one_cons rfl one_nil)) rfl) rfl rfl ?_)
     rintro _ w26 ⟨k27, b28⟩
     replace K0 := Ex.kp_new K0 k27 (fun _ h => h ▸ Nat.le_trans (Nat.le_trans zw1 (Nat.le_trans z5 (Nat.le_trans z11 zw16))) hg22)
     replace f12 := f12.kp k27 (fun b h e => Nat.lt_irrefl _ (Nat.lt_of_lt_of_le (show g20 < _ from e ▸ (show b < _ from h)) (Nat.le_trans (Nat.le_trans zw1 (Nat.le_trans z5 (Nat.le_trans z11 zw16))) hg22)))
     replace f13 := f13.kp k27 (fun b h e => Nat.lt_irrefl _ (show b < b from by have := rw25 b h; omega))
     have zw26 := k27.size
     refine ⟨(in_X rfl), ?_⟩
     refine rp_done ?_
     clear hs_
     refine nw_seq ?_
     refine cw_seq ?_
     refine cw_drawn (fun w29 w_ => Ex w29 w_) [] (.take 0 (.take 1 (.take 3 (.take 4 (.one 2 (.one 5 (.one 6 .done))))))) mixed (by kernel_rfl) (by kernel_rfl) (Nat.le_of_ble_eq_true (by kernel_rfl)) ?_; intro w29 k30 hs_
     replace K0 := Ex.trans K0 k30
     replace f12 := f12.ex k30
     replace f13 := f13.ex k30
     replace b28 := b28.ex k30
     have zw29 := k30.size
     have hS : (fun w_ => Ex w29 w_) w29 := Kp.refl _ _
     refine rp_take hs_ hS rfl rfl (ev_move rfl) rfl rfl rfl ?_
     refine rp_take (v := .agg #[.int .i64 ((c18.1 + ((k : Int) % 3)) - 1), .int .i64 ((c18.2 + ((k : Int) / 3)) - 1)]) hs_ hS rfl rfl (ev_lbk (off := 0) (vs := [.int .i64 ((c18.1 + ((k : Int) % 3)) - 1), .int .i64 ((c18.2 + ((k : Int) / 3)) - 1)]) (fun _ h => b28.ex h) rfl agg_55 rfl rfl) rfl rfl rfl ?_
     refine rp_take hs_ hS rfl rfl (ev_move rfl) rfl rfl rfl ?_
     refine rp_take (v := .agg #[.int .i64 ((c18.1 + ((k : Int) % 3)) - 1), .int .i64 ((c18.2 + ((k : Int) / 3)) - 1)]) hs_ hS rfl rfl (ev_lbk (off := 0) (vs := [.int .i64 ((c18.1 + ((k : Int) % 3)) - 1), .int .i64 ((c18.2 + ((k : Int) / 3)) - 1)]) (fun _ h => b28.ex h) rfl agg_55 rfl rfl) rfl rfl rfl ?_
     refine rp_up (up_op rfl (op_fn (xs := [.tmp 40, .tmp 41]) ent_55 rfl (c_has w29 v l (Sl.below (f12.ex hS)) ((c18.1 + ((k : Int) % 3)) - 1, (c18.2 + ((k : Int) / 3)) - 1))) rfl rfl rfl ?_)
     rintro _ w31 ⟨rfl, k32⟩
     replace K0 := Ex.trans K0 k32
     replace hS := Ex.trans hS k32
     have zw31 := k32.size
     refine ⟨(fun _ => hS), ?_⟩
     refine rp_up (up_op rfl (op_fn (xs := [.tmp 43, .tmp 44]) ent_95 rfl (c_around w31 v l (Sl.below (f12.ex hS)) ((c18.1 + ((k : Int) % 3)) - 1, (c18.2 + ((k : Int) / 3)) - 1) (by omega) (by exact right_all (by assumption)))) rfl rfl rfl ?_)
     rintro _ w33 ⟨rfl, k34⟩
     replace K0 := Ex.trans K0 k34
     replace hS := Ex.trans hS k34
     have zw33 := k34.size
     refine ⟨(fun _ => hS), ?_⟩
     refine rp_up (up_op rfl (op_fn (xs := [.tmp 42, .tmp 45]) ent_51 rfl (c_lives2 w33 (hasC l ((c18.1 + ((k : Int) % 3)) - 1, (c18.2 + ((k : Int) / 3)) - 1)) (aroundC l ((c18.1 + ((k : Int) % 3)) - 1, (c18.2 + ((k : Int) / 3)) - 1)))) rfl rfl rfl ?_)
     rintro _ w35 ⟨rfl, k36⟩
     replace K0 := Ex.trans K0 k36
     replace hS := Ex.trans hS k36
     have zw35 := k36.size
     refine ⟨(fun _ => hS), ?_⟩
     refine rp_done ?_
     clear hs_
     replace f12 := f12.ex hS
     replace f13 := f13.ex hS
     replace b28 := b28.ex hS
     refine nw_seq ?_
     rcases Bool.eq_false_or_eq_true (livesB (hasC l ((c18.1 + ((k : Int) % 3)) - 1, (c18.2 + ((k : Int) / 3)) - 1)) (aroundC l ((c18.1 + ((k : Int) % 3)) - 1, (c18.2 + ((k : Int) / 3)) - 1))) with h37 | h37
     ·
      refine cw_t (b := livesB (hasC l ((c18.1 + ((k : Int) % 3)) - 1, (c18.2 + ((k : Int) / 3)) - 1)) (aroundC l ((c18.1 + ((k : Int) % 3)) - 1, (c18.2 + ((k : Int) / 3)) - 1))) rfl h37 ?_
      refine cw_region ?_
      refine rw_ev (ev_move rfl) rfl rfl rfl ?_
      refine rw_ev (v := .agg #[.int .i64 ((c18.1 + ((k : Int) % 3)) - 1), .int .i64 ((c18.2 + ((k : Int) / 3)) - 1)]) (ev_lbk (off := 0) (vs := [.int .i64 ((c18.1 + ((k : Int) % 3)) - 1), .int .i64 ((c18.2 + ((k : Int) / 3)) - 1)]) (fun _ h => h ▸ b28) rfl agg_55 rfl rfl) rfl rfl rfl ?_
      refine rw_op (op_buildSlice (E := 55) (m := 1) (pv := #[(0, .agg #[.int .i64 ((c18.1 + ((k : Int) % 3)) - 1), .int .i64 ((c18.2 + ((k : Int) / 3)) - 1)])]) (cs := #[.int .i64 ((c18.1 + ((k : Int) % 3)) - 1), .int .i64 ((c18.2 + ((k : Int) / 3)) - 1)]) rfl (fun _ => by kernel_rfl)) rfl rfl rfl ?_
      rintro _ w39 ⟨g38, rfl, hg40, k41, b42⟩
      have rw43 : ∀ b, (y : Value).ownBlock = some b → b < g38 := fun b h => Nat.lt_of_lt_of_le (f13.lt b h).2 hg40
      replace K0 := Ex.trans K0 k41
      replace f12 := f12.ex k41
      replace f13 := f13.ex k41
      replace b28 := b28.ex k41
      have zw39 := k41.size
      have lg38 := b42.lt
      refine rw_op (op_app1 (f := encC) (l := ((List.range k).foldl (candStep l i) ((List.range i).foldl (cand l) []))) (c := ((c18.1 + ((k : Int) % 3)) - 1, (c18.2 + ((k : Int) / 3)) - 1)) (B := w1.heap.size) row_46 plainC f13 b42 rfl rfl rfl (by decide) (by unfold maxLen; have hz := candK_len l i k ((List.range i).foldl (cand l) []); have hx := candI_len l i; have hy := right_len (by assumption : rightC l = true); omega) (by have hz := candK_len l i k ((List.range i).foldl (cand l) []); have hx := candI_len l i; have hy := right_len (by assumption : rightC l = true); omega) (Nat.le_trans z5 (Nat.le_trans z11 (Nat.le_trans zw16 (Nat.le_trans zw21 (Nat.le_trans zw26 (Nat.le_trans zw29 (Nat.le_trans zw31 (Nat.le_trans zw33 (Nat.le_trans zw35 zw39)))))))))) rfl rfl rfl ?_
      rintro v44 w45 ⟨k46, ow47⟩
      replace K0 := Ex.kp_new K0 k46 (fun b h => Nat.le_trans zw1 (f13.lt b h).1)
      replace f12 := f12.kp k46 (fun b h e => Nat.lt_irrefl _ (Nat.lt_of_lt_of_le (show b < _ from h) (Nat.le_trans zw1 (f13.lt b e).1)))
      replace b28 := b28.kp k46 (fun h => Nat.lt_irrefl _ (rw25 _ h))
      replace b42 := b42.kp k46 (fun h => Nat.lt_irrefl _ (rw43 _ h))
      have zw45 := k46.size
      refine rw_ev (ev_assign rfl) rfl rfl rfl ?_
      refine rw_nil ?_
      refine nw_block ?_
      refine nw_seq ?_
      refine cw_region ?_
      refine rw_ev (ev_move rfl) rfl rfl rfl ?_
      refine rw_ev (ev_add rfl rfl (by omega)) rfl rfl rfl ?_
      refine rw_ev (ev_assign rfl) rfl rfl rfl ?_
      refine rw_nil ?_
      exact nw_round ((k + 1), v44) (Sub.cons rfl (Sub.cons rfl (Sub.cons rfl (Sub.cons rfl (Sub.cons rfl (Sub.int (b := ((k + 1) : Int)) rfl (by omega) Sub.nil)))))) ⟨K0, (Nat.le_trans z11 (Nat.le_trans zw16 (Nat.le_trans zw21 (Nat.le_trans zw26 (Nat.le_trans zw29 (Nat.le_trans zw31 (Nat.le_trans zw33 (Nat.le_trans zw35 (Nat.le_trans zw39 zw45))))))))), f12, (by have hq := ow47; first | exact hq | (rw [range_fold_succ]; first | (rw [candStep_yes (by assumption) (by assumption)]; exact hq) | (rw [candStep_no (by assumption) (by assumption)]; exact hq))), (by omega)⟩ (by first | omega | (dsimp only; omega))
     ·
      refine cw_f (b := livesB (hasC l ((c18.1 + ((k : Int) % 3)) - 1, (c18.2 + ((k : Int) / 3)) - 1)) (aroundC l ((c18.1 + ((k : Int) % 3)) - 1, (c18.2 + ((k : Int) / 3)) - 1))) rfl h37 ?_
      refine cw_skip ?_
      refine nw_block ?_
      refine nw_seq ?_
      refine cw_region ?_
      refine rw_ev (ev_move rfl) rfl rfl rfl ?_
      refine rw_ev (ev_add rfl rfl (by omega)) rfl rfl rfl ?_
      refine rw_ev (ev_assign rfl) rfl rfl rfl ?_
      refine rw_nil ?_
      exact nw_round ((k + 1), y) (Sub.cons rfl (Sub.cons rfl (Sub.cons rfl (Sub.cons rfl (Sub.cons rfl (Sub.int (b := ((k + 1) : Int)) rfl (by omega) Sub.nil)))))) ⟨K0, (Nat.le_trans z11 (Nat.le_trans zw16 (Nat.le_trans zw21 (Nat.le_trans zw26 (Nat.le_trans zw29 (Nat.le_trans zw31 (Nat.le_trans zw33 zw35))))))), f12, (by have hq := f13; first | exact hq | (rw [range_fold_succ]; first | (rw [candStep_yes (by assumption) (by assumption)]; exact hq) | (rw [candStep_no (by assumption) (by assumption)]; exact hq))), (by omega)⟩ (by first | omega | (dsimp only; omega))
    ·
     refine cw_f (b := decide ((k : Int) < 9)) rfl (dec_f h15) ?_
     refine cw_exit ?_
     refine xw_seq ?_
     refine xw_goal ?_
     refine xw_hit ?_
     refine nw_block ?_
     refine nw_seq ?_
     refine cw_region ?_
     refine rw_ev (ev_move rfl) rfl rfl rfl ?_
     refine rw_ev (ev_add rfl rfl (by omega)) rfl rfl rfl ?_
     refine rw_ev (ev_assign rfl) rfl rfl rfl ?_
     refine rw_nil ?_
     exact nw_round ((i + 1), y) (Sub.cons rfl (Sub.cons rfl (Sub.cons rfl (Sub.cons rfl (Sub.int (b := ((i + 1) : Int)) rfl (by omega) Sub.nil))))) ⟨K0, (Nat.le_trans z5 z11), f12, (by have hq := f13; have hk : k = 9 := (by omega); rw [hk] at hq; rw [range_fold_succ]; exact hq), (by omega)⟩ (by first | omega | (dsimp only; omega))
   ·
    refine cw_f (b := decide ((i : Int) < (l.length : Int))) rfl (dec_f h9) ?_
    refine cw_exit ?_
    refine xw_seq ?_
    refine xw_goal ?_
    refine xw_hit ?_
    refine nw_seq ?_
    refine cw_seq ?_
    refine cw_region ?_
    refine rw_ev (ev_move rfl) rfl rfl rfl ?_
    refine rw_op (op_fn (xs := [.tmp 51]) ent_35 rfl (c_of w4 x ((List.range i).foldl (cand l) []) (Sl.below f7.sl) (by have hx := candI_len l i; have hy := right_len (by assumption : rightC l = true); omega))) rfl rfl rfl ?_
    rintro _ w49 ⟨u48, rfl, k50, sl51⟩
    replace K0 := Ex.trans K0 k50
    replace f6 := f6.ex k50
    replace f7 := f7.ex k50
    have zw49 := k50.size
    refine rw_ev (ev_extract rfl rfl) rfl rfl rfl ?_
    refine rw_ev (ev_extract rfl rfl) rfl rfl rfl ?_
    refine rw_ev (ev_assign rfl) rfl rfl rfl ?_
    refine rw_ev (ev_assign rfl) rfl rfl rfl ?_
    refine rw_nil ?_
    refine nw_seq ?_
    refine cw_ret ?_
    refine ret_post (rs := [.tmp 2, .tmp 3]) (vs := [u48, .int .i64 ((ofC ((List.range i).foldl (cand l) [])).2)]) rfl (.tmp rfl (.tmp rfl .nil)) ?_
    have hk_ : nextC l = ofC ((List.range i).foldl (cand l) []) := by
      have hi : l.length = i := by omega
      unfold nextC candAll; rw [if_pos (by assumption), hi]
    refine ⟨u48, ?_, K0, ?_⟩
    · show (.tuple #[u48, .int .i64 ((ofC ((List.range i).foldl (cand l) [])).2)] : Value) = _
      rw [hk_]
    · have hl_ : (ofC ((List.range i).foldl (cand l) [])).1 = (nextC l).1 := by rw [hk_]
      rw [← hl_]; exact (Sl.since sl51 (fun _ hb => Nat.le_trans (Nat.le_trans zw1 z5) hb.1))
  ·
   refine cw_t (b := !(rightC l)) rfl (not_t h3) ?_
   refine cw_seq ?_
   refine cw_region ?_
   refine rw_ev (ev_assign rfl) rfl rfl rfl ?_
   refine rw_ev (ev_assign rfl) rfl rfl rfl ?_
   refine rw_nil ?_
   refine nw_seq ?_
   refine cw_ret ?_
   refine ret_post (rs := [.tmp 2, .tmp 3]) (vs := [.slice none 0 0, .int .i64 1]) rfl (.tmp rfl (.tmp rfl .nil)) ?_
   have hk_ : nextC l = ([], 1) := by unfold nextC; rw [if_neg (by simp [*])]
   refine ⟨(.slice none 0 0), ?_, K0, ?_⟩
   · show (.tuple #[.slice none 0 0, .int .i64 1] : Value) = _
     rw [hk_]
   · have hl_ : ([] : List Cell) = (nextC l).1 := by rw [hk_]
     rw [← hl_]; exact (Sl.nil _ _ 2)

end Go.Proofs.Ythpaadmpgdglnaa
