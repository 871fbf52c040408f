/- What cells.Of and cells.With compute. Each theorem names its conditions. -/
import Derived.Test.YthpaadmpgdglnaaWr
namespace Go.Proofs.Ythpaadmpgdglnaa
open Go Go.RowKit
set_option linter.unusedVariables false
set_option linter.unusedSimpArgs false
set_option maxRecDepth 100000
set_option maxHeartbeats 4000000

theorem c_fewA (w : World) (v : Value) (l : List Cell) (Av : Nat → Prop) (av : ∀ b, Av b → b < w.heap.size) (hv : Sl w Av v 2 (l.map encC)) : Fn Try.prog 104 [v] w (fun v w' => ∃ u : Value, v = .tuple #[u, .int .i64 ((fewC l).2)] ∧ Ex w w' ∧ Sl w' (fun b => Av b ∨ (w.heap.size ≤ b ∧ b < w'.heap.size)) u 2 (((fewC l).1).map encC)) := by
  have K0 : Ex w w := Kp.refl _ _
  refine fn_enter (n := 8) Try.func104 rfl rfl (Nat.le_of_ble_eq_true rfl) ?_
  show CW _ _ _ _ _ _ [(0, v)] _
  have hlv_ := hv.lenm
  refine cw_seq ?_
  refine cw_region ?_
  refine rw_ev (ev_assign rfl) rfl rfl rfl ?_
  refine rw_ev (ev_assign rfl) rfl rfl rfl ?_
  refine rw_nil ?_
  refine nw_seq ?_
  refine cw_seq ?_
  refine cw_seq ?_
  refine cw_region ?_
  refine rw_ev (ev_move rfl) rfl rfl rfl ?_
  refine rw_ev (v := .int .i64 (l.length : Int)) (ev_lenm (l := l) ⟨_, hv⟩ rfl el_46 rfl) rfl rfl rfl ?_
  refine rw_ev (ev_gtr rfl rfl) rfl rfl rfl ?_
  refine rw_nil ?_
  refine nw_seq ?_
  by_cases h1 : (2000 : Int) < (l.length : Int)
  ·
   refine cw_t (b := decide ((2000 : Int) < (l.length : Int))) rfl (dec_t h1) ?_
   refine cw_seq ?_
   refine cw_region ?_
   refine rw_ev (ev_assign rfl) rfl rfl rfl ?_
   refine rw_ev (ev_assign rfl) rfl rfl rfl ?_
   refine rw_nil ?_
   refine nw_seq ?_
   refine cw_ret ?_
   refine ret_post (rs := [.tmp 2, .tmp 3]) (vs := [.slice none 0 0, .int .i64 3]) rfl (.tmp rfl (.tmp rfl .nil)) ?_
   have hk_ : fewC l = ([], 3) := by
     unfold fewC; rw [if_neg (by omega)]
   refine ⟨(.slice none 0 0), ?_, K0, ?_⟩
   · show (.tuple #[.slice none 0 0, .int .i64 3] : Value) = _
     rw [hk_]
   · have hl_ : ([] : List Cell) = (fewC l).1 := by rw [hk_]
     rw [← hl_]; exact (Sl.nil _ _ 2)
  ·
   refine cw_f (b := decide ((2000 : Int) < (l.length : Int))) rfl (dec_f h1) ?_
   refine cw_skip ?_
   refine nw_seq ?_
   refine cw_seq ?_
   refine cw_region ?_
   refine rw_ev (ev_move rfl) rfl rfl rfl ?_
   refine rw_ev (ev_assign rfl) rfl rfl rfl ?_
   refine rw_ev (ev_assign rfl) rfl rfl rfl ?_
   refine rw_nil ?_
   refine nw_seq ?_
   refine cw_ret ?_
   refine ret_post (rs := [.tmp 2, .tmp 3]) (vs := [v, .int .i64 0]) rfl (.tmp rfl (.tmp rfl .nil)) ?_
   have hk_ : fewC l = (l, 0) := by
     unfold fewC; rw [if_pos (by omega)]
   refine ⟨v, ?_, K0, ?_⟩
   · show (.tuple #[v, .int .i64 0] : Value) = _
     rw [hk_]
   · have hl_ : l = (fewC l).1 := by rw [hk_]
     rw [← hl_]; exact (Sl.mono hv (fun _ _ h => Or.inl h))

theorem c_cof (w : World) (v : Value) (l : List Cell) (hv : Sl w (fun b => b < w.heap.size) v 2 (l.map encC)) (hn : l.length ≤ 1000000) : Fn Try.prog 57 [v] w (fun v w' => ∃ u : Value, v = .tuple #[u, .int .i64 ((ofC l).2)] ∧ Ex w w' ∧ Sl w' (fun b => w.heap.size ≤ b ∧ b < w'.heap.size) u 2 (((ofC l).1).map encC)) := by
  have K0 : Ex w w := Kp.refl _ _
  refine fn_enter (n := 16) Try.func57 rfl rfl (Nat.le_of_ble_eq_true rfl) ?_
  show CW _ _ _ _ _ _ [(0, v)] _
  have hlv_ := hv.lenm
  refine cw_seq ?_
  refine cw_region ?_
  refine rw_ev (ev_assign rfl) rfl rfl rfl ?_
  refine rw_ev (ev_assign rfl) rfl rfl rfl ?_
  refine rw_nil ?_
  refine nw_seq ?_
  refine cw_seq ?_
  refine cw_seq ?_
  refine cw_region ?_
  refine rw_ev (ev_move rfl) rfl rfl rfl ?_
  refine rw_op (op_fn (xs := [.tmp 4, .func 99]) ent_98 rfl (c_containsf w v l (Sl.below hv))) rfl rfl rfl ?_
  rintro _ w1 ⟨rfl, k2⟩
  replace K0 := Ex.trans K0 k2
  replace hv := hv.ex k2
  have zw1 := k2.size
  refine rw_nil ?_
  refine nw_seq ?_
  rcases Bool.eq_false_or_eq_true (!l.all inC) with h3 | h3
  ·
   refine cw_t (b := !l.all inC) rfl h3 ?_
   refine cw_seq ?_
   refine cw_region ?_
   refine rw_ev (ev_assign rfl) rfl rfl rfl ?_
   refine rw_ev (ev_assign rfl) rfl rfl rfl ?_
   refine rw_nil ?_
   refine nw_seq ?_
   refine cw_ret ?_
   refine ret_post (rs := [.tmp 2, .tmp 3]) (vs := [.slice none 0 0, .int .i64 2]) rfl (.tmp rfl (.tmp rfl .nil)) ?_
   have hk_ : ofC l = ([], 2) := by
     have hz_ : l.all inC = false := by simpa using (by assumption : (!l.all inC) = true)
     unfold ofC; rw [hz_]; rfl
   refine ⟨(.slice none 0 0), ?_, K0, ?_⟩
   · show (.tuple #[.slice none 0 0, .int .i64 2] : Value) = _
     rw [hk_]
   · have hl_ : ([] : List Cell) = (ofC l).1 := by rw [hk_]
     rw [← hl_]; exact (Sl.nil _ _ 2)
  ·
   refine cw_f (b := !l.all inC) rfl h3 ?_
   refine cw_skip ?_
   refine nw_seq ?_
   refine cw_seq ?_
   refine cw_region ?_
   refine rw_ev (ev_move rfl) rfl rfl rfl ?_
   refine rw_op (op_fn (xs := [.tmp 6]) ent_96 rfl (c_clone w1 v l (Sl.below hv) (by omega))) rfl rfl rfl ?_
   rintro u4 w5 ⟨_, rfl, k6, ow7⟩
   replace K0 := Ex.trans K0 k6
   replace hv := hv.ex k6
   have zw5 := k6.size
   refine rw_ev (ev_assign rfl) rfl rfl rfl ?_
   refine rw_nil ?_
   refine nw_seq ?_
   refine cw_seq ?_
   refine cw_region ?_
   refine rw_ev (ev_move rfl) rfl rfl rfl ?_
   refine rw_op (op_fn (xs := [.func 103]) ent_102 rfl (c_by w5 )) rfl rfl rfl ?_
   rintro _ w9 ⟨g8, rfl, k10, pr11⟩
   replace K0 := Ex.trans K0 k10
   replace hv := hv.ex k10
   replace ow7 := ow7.ex k10
   have zw9 := k10.size
   obtain ⟨hgg8, b12⟩ := pr11
   have lg8 := b12.lt
   refine rw_op (op_fn (xs := [.tmp 8, .tmp 9]) ent_101 rfl (c_sort w9 w1.heap.size u4 l ow7 (by omega) g8 b12 (fun b_ hb_ e_ => (ow7.ne b12 rfl) b_ hb_ e_.symm))) rfl rfl rfl ?_
   rintro u13 w14 ⟨k15, ow16⟩
   replace K0 := Ex.kp_new K0 k15 (fun b h => Nat.le_trans zw1 (ow7.lt b h).1)
   replace hv := hv.kp k15 (fun b h e => Nat.lt_irrefl _ (Nat.lt_of_lt_of_le (show b < _ from h) (Nat.le_trans zw1 (ow7.lt b e).1)))
   replace b12 := b12.kp k15 (fun h => ow7.ne b12 rfl _ h rfl)
   have zw14 := k15.size
   refine rw_nil ?_
   refine nw_seq ?_
   refine cw_seq ?_
   refine cw_region ?_
   refine rw_ev (ev_move rfl) rfl rfl rfl ?_
   refine rw_op (op_fn (xs := [.tmp 11]) ent_105 rfl (c_compact w14 w1.heap.size u4 (l.mergeSort leC) ow16 )) rfl rfl rfl ?_
   rintro u17 w18 ⟨k19, ow20⟩
   replace K0 := Ex.kp_new K0 k19 (fun b h => Nat.le_trans zw1 (ow16.lt b h).1)
   replace hv := hv.kp k19 (fun b h e => Nat.lt_irrefl _ (Nat.lt_of_lt_of_le (show b < _ from h) (Nat.le_trans zw1 (ow16.lt b e).1)))
   replace b12 := b12.kp k19 (fun h => ow16.ne b12 rfl _ h rfl)
   have zw18 := k19.size
   refine rw_op (op_fn (xs := [.tmp 12]) ent_104 rfl (c_fewA w18 u17 (compC (l.mergeSort leC)) (fun b => w1.heap.size ≤ b ∧ b < w18.heap.size) (fun _ h => h.2) ow20.sl)) rfl rfl rfl ?_
   rintro _ w22 ⟨u21, rfl, k23, sl24⟩
   replace K0 := Ex.trans K0 k23
   replace hv := hv.ex k23
   replace b12 := b12.ex k23
   replace ow20 := ow20.ex k23
   have zw22 := k23.size
   refine rw_ev (ev_extract rfl rfl) rfl rfl rfl ?_
   refine rw_ev (ev_extract rfl rfl) rfl rfl rfl ?_
   refine rw_ev (ev_assign rfl) rfl rfl rfl ?_
   refine rw_ev (ev_assign rfl) rfl rfl rfl ?_
   refine rw_nil ?_
   refine nw_seq ?_
   refine cw_ret ?_
   refine ret_post (rs := [.tmp 2, .tmp 3]) (vs := [u21, .int .i64 ((fewC (compC (l.mergeSort leC))).2)]) rfl (.tmp rfl (.tmp rfl .nil)) ?_
   have hk_ : ofC l = fewC (compC (l.mergeSort leC)) := by
     have hz_ : l.all inC = true := by simpa using (by assumption : (!l.all inC) = false)
     unfold ofC; rw [if_pos hz_, comp_sort]; rfl
   refine ⟨u21, ?_, K0, ?_⟩
   · show (.tuple #[u21, .int .i64 ((fewC (compC (l.mergeSort leC))).2)] : Value) = _
     rw [hk_]
   · have hl_ : (fewC (compC (l.mergeSort leC))).1 = (ofC l).1 := by rw [hk_]
     rw [← hl_]; exact (Sl.since sl24 (fun _ hb => hb.elim (fun hb => Nat.le_trans zw1 hb.1) (fun hb => Nat.le_trans (Nat.le_trans zw1 (Nat.le_trans zw5 (Nat.le_trans zw9 (Nat.le_trans zw14 zw18)))) hb.1)))

theorem c_cwith (w : World) (v : Value) (l : List Cell) (hv : Sl w (fun b => b < w.heap.size) v 2 (l.map encC)) (c : Cell) (alive : Bool) : Fn Try.prog 61 [v, .agg #[.int .i64 c.1, .int .i64 c.2], .bool alive] w (fun v w' => ∃ u : Value, v = .tuple #[u, .int .i64 ((withC l c alive).2)] ∧ Ex w w' ∧ Sl w' (fun b => w.heap.size ≤ b ∧ b < w'.heap.size) u 2 (((withC l c alive).1).map encC)) := by
  have K0 : Ex w w := Kp.refl _ _
  refine fn_enter (n := 53) Try.func61 rfl rfl (Nat.le_of_ble_eq_true rfl) ?_
  show CW _ _ _ _ _ _ [(0, v), (1, .agg #[.int .i64 c.1, .int .i64 c.2]), (2, .bool alive)] _
  have hlv_ := hv.lenm
  have hlow_ := lowC_le l c
  refine cw_seq ?_
  refine cw_region ?_
  refine rw_op (op_box (v := .agg #[.int .i64 c.1, .int .i64 c.2]) (cs := #[.int .i64 c.1, .int .i64 c.2]) rfl rfl) rfl rfl rfl ?_
  rintro _ w2 ⟨g1, rfl, hg3, k4, b5⟩
  replace K0 := Ex.trans K0 k4
  replace hv := hv.ex k4
  have zw2 := k4.size
  have lg1 := b5.lt
  refine rw_ev (ev_assign rfl) rfl rfl rfl ?_
  refine rw_ev (ev_assign rfl) rfl rfl rfl ?_
  refine rw_nil ?_
  refine nw_seq ?_
  refine cw_seq ?_
  refine cw_block ?_
  refine cw_seq ?_
  refine cw_region ?_
  refine rw_ev (ev_move rfl) rfl rfl rfl ?_
  refine rw_op (op_fn (xs := [.tmp 11]) ent_58 rfl (c_cright w2 v l (Sl.below hv))) rfl rfl rfl ?_
  rintro _ w6 ⟨rfl, k7⟩
  replace K0 := Ex.trans K0 k7
  replace hv := hv.ex k7
  replace b5 := b5.ex k7
  have zw6 := k7.size
  refine rw_ev (ev_not rfl rfl) rfl rfl rfl ?_
  refine rw_ev (ev_assign rfl) rfl rfl rfl ?_
  refine rw_nil ?_
  refine nw_seq ?_
  rcases Bool.eq_false_or_eq_true (rightC l) with h8 | h8
  ·
   refine cw_f (b := !(rightC l)) rfl (not_f h8) ?_
   refine cw_seq ?_
   refine cw_region ?_
   refine rw_ev (v := .agg #[.int .i64 c.1, .int .i64 c.2]) (ev_lbk (off := 0) (vs := [.int .i64 c.1, .int .i64 c.2]) (fun _ h => h ▸ b5) rfl agg_55 rfl rfl) rfl rfl rfl ?_
   refine rw_op (op_fn (xs := [.tmp 15]) ent_100 rfl (c_cin w6 c)) rfl rfl rfl ?_
   rintro _ w9 ⟨rfl, k10⟩
   replace K0 := Ex.trans K0 k10
   replace hv := hv.ex k10
   replace b5 := b5.ex k10
   have zw9 := k10.size
   refine rw_ev (ev_not rfl rfl) rfl rfl rfl ?_
   refine rw_ev (ev_assign rfl) rfl rfl rfl ?_
   refine rw_nil ?_
   refine nw_seq ?_
   rcases Bool.eq_false_or_eq_true (inC c) with h11 | h11
   ·
    refine cw_f (b := !(inC c)) rfl (not_f h11) ?_
    refine cw_skip ?_
    refine nw_block ?_
    refine nw_seq ?_
    refine cw_seq ?_
    refine cw_drawn (fun w12 w_ => Ex w12 w_) [] (.take 0 (.take 1 (.one 2 (.one 3 (.take 4 (.take 5 (.take 6 (.take 7 (.take 8 .done))))))))) mixed (by kernel_rfl) (by kernel_rfl) (Nat.le_of_ble_eq_true (by kernel_rfl)) ?_; intro w12 k13 hs_
    replace K0 := Ex.trans K0 k13
    replace hv := hv.ex k13
    replace b5 := b5.ex k13
    have zw12 := k13.size
    have hS : (fun w_ => Ex w12 w_) w12 := Kp.refl _ _
    refine rp_take hs_ hS rfl rfl (ev_move rfl) rfl rfl rfl ?_
    refine rp_take (v := .agg #[.int .i64 c.1, .int .i64 c.2]) hs_ hS rfl rfl (ev_lbk (off := 0) (vs := [.int .i64 c.1, .int .i64 c.2]) (fun _ h => b5.ex h) rfl agg_55 rfl rfl) rfl rfl rfl ?_
    refine rp_up (up_op rfl (op_fn (xs := [.func 103]) ent_102 rfl (c_by w12 )) rfl rfl rfl ?_)
    rintro _ w15 ⟨g14, rfl, k16, pr17⟩
    replace K0 := Ex.trans K0 k16
    replace hS := Ex.trans hS k16
    have zw15 := k16.size
    obtain ⟨hgg14, b18⟩ := pr17
    have lg14 := b18.lt
    refine ⟨(fun _ => hS), ?_⟩
    refine rp_up (up_op rfl (op_fn (xs := [.tmp 19, .tmp 20, .tmp 21]) ent_106 rfl (c_bin w15 v l (Sl.below (hv.ex hS)) c g14 b18 (by exact ((rightC_iff l).1 (by assumption)).2.1) (by have := right_len (by assumption : rightC l = true); omega))) rfl rfl rfl ?_)
    rintro _ w19 ⟨rfl, k20⟩
    replace K0 := Ex.trans K0 k20
    replace hS := Ex.trans hS k20
    replace b18 := b18.ex k20
    have zw19 := k20.size
    refine ⟨(fun _ => hS), ?_⟩
    refine rp_take hs_ hS rfl rfl (ev_move rfl) rfl rfl rfl ?_
    refine rp_take hs_ hS rfl rfl (ev_extract rfl rfl) rfl rfl rfl ?_
    refine rp_take hs_ hS rfl rfl (ev_extract rfl rfl) rfl rfl rfl ?_
    refine rp_take hs_ hS rfl rfl (ev_assign rfl) rfl rfl rfl ?_
    refine rp_take hs_ hS rfl rfl (ev_assign rfl) rfl rfl rfl ?_
    refine rp_done ?_
    clear hs_
    replace hv := hv.ex hS
    replace b5 := b5.ex hS
    refine nw_seq ?_
    refine cw_seq ?_
    refine cw_region ?_
    refine rw_ev (ev_move rfl) rfl rfl rfl ?_
    refine rw_op (op_fn (xs := [.tmp 25]) ent_96 rfl (c_clone w19 v l (Sl.below hv) (by have := right_len (by assumption : rightC l = true); omega))) rfl rfl rfl ?_
    rintro u21 w22 ⟨_, rfl, k23, ow24⟩
    replace K0 := Ex.trans K0 k23
    replace hv := hv.ex k23
    replace b5 := b5.ex k23
    replace b18 := b18.ex k23
    have zw22 := k23.size
    refine rw_ev (ev_assign rfl) rfl rfl rfl ?_
    refine rw_nil ?_
    refine nw_seq ?_
    refine cw_seq ?_
    refine cw_block ?_
    refine cw_seq ?_
    refine cw_region ?_
    refine rw_ev (ev_move rfl) rfl rfl rfl ?_
    refine rw_ev (ev_move rfl) rfl rfl rfl ?_
    rcases Bool.eq_false_or_eq_true (alive) with h25 | h25
    ·
     refine rw_ev (ev_move rfl) (gd_tt rfl h25) rfl rfl ?_
     refine rw_ev (ev_not rfl rfl) (gd_tt rfl h25) rfl rfl ?_
     refine rw_ev (ev_pk_t rfl h25 rfl) rfl rfl rfl ?_
     refine rw_ev (ev_assign rfl) rfl rfl rfl ?_
     refine rw_nil ?_
     refine nw_seq ?_
     rcases Bool.eq_false_or_eq_true (hasC l c) with h26 | h26
     ·
      refine cw_f (b := !(hasC l c)) rfl (not_f h26) ?_
      refine cw_seq ?_
      refine cw_region ?_
      refine rw_ev (ev_move rfl) rfl rfl rfl ?_
      refine rw_ev (ev_not rfl rfl) rfl rfl rfl ?_
      refine rw_ev (ev_move rfl) rfl rfl rfl ?_
      refine rw_skip (gd_tf rfl (not_f h25)) rfl rfl ?_
      refine rw_ev (ev_pk_f rfl (not_f h25) rfl) rfl rfl rfl ?_
      refine rw_ev (ev_assign rfl) rfl rfl rfl ?_
      refine rw_nil ?_
      refine nw_seq ?_
      refine cw_f (b := false) rfl rfl ?_
      refine cw_skip ?_
      refine nw_block ?_
      refine nw_seq ?_
      refine cw_seq ?_
      refine cw_region ?_
      refine rw_ev (ev_move rfl) rfl rfl rfl ?_
      refine rw_op (op_fn (xs := [.tmp 49]) ent_104 rfl (c_fewA w22 u21 l (fun b => w19.heap.size ≤ b ∧ b < w22.heap.size) (fun _ h => h.2) ow24.sl)) rfl rfl rfl ?_
      rintro _ w28 ⟨u27, rfl, k29, sl30⟩
      replace K0 := Ex.trans K0 k29
      replace hv := hv.ex k29
      replace b5 := b5.ex k29
      replace b18 := b18.ex k29
      replace ow24 := ow24.ex k29
      have zw28 := k29.size
      refine rw_ev (ev_extract rfl rfl) rfl rfl rfl ?_
      refine rw_ev (ev_extract rfl rfl) rfl rfl rfl ?_
      refine rw_ev (ev_assign rfl) rfl rfl rfl ?_
      refine rw_ev (ev_assign rfl) rfl rfl rfl ?_
      refine rw_nil ?_
      refine nw_seq ?_
      refine cw_ret ?_
      refine ret_post (rs := [.tmp 6, .tmp 7]) (vs := [u27, .int .i64 ((fewC l).2)]) rfl (.tmp rfl (.tmp rfl .nil)) ?_
      have hu_ : UpC l := ((rightC_iff l).1 (by assumption)).2.1
      have hg_ : (if alive = true then putC l c else l.filter fun x => decide (x ≠ c)) = l := by
        rw [if_pos (by assumption), putC_has hu_ ((hasC_iff l c).1 (by assumption))]
      have hk_ : withC l c alive = fewC l := by
        unfold withC; rw [if_pos (by assumption), if_pos (by assumption), hg_]
      refine ⟨u27, ?_, K0, ?_⟩
      · show (.tuple #[u27, .int .i64 ((fewC l).2)] : Value) = _
        rw [hk_]
      · have hl_ : (fewC l).1 = (withC l c alive).1 := by rw [hk_]
        rw [← hl_]; exact (Sl.since sl30 (fun _ hb => hb.elim (fun hb => Nat.le_trans (Nat.le_trans zw2 (Nat.le_trans zw6 (Nat.le_trans zw9 (Nat.le_trans zw12 (Nat.le_trans zw15 zw19))))) hb.1) (fun hb => Nat.le_trans (Nat.le_trans zw2 (Nat.le_trans zw6 (Nat.le_trans zw9 (Nat.le_trans zw12 (Nat.le_trans zw15 (Nat.le_trans zw19 zw22)))))) hb.1)))
     ·
      refine cw_t (b := !(hasC l c)) rfl (not_t h26) ?_
      refine cw_region ?_
      refine rw_ev (ev_move rfl) rfl rfl rfl ?_
      refine rw_ev (ev_move rfl) rfl rfl rfl ?_
      refine rw_ev (v := .agg #[.int .i64 c.1, .int .i64 c.2]) (ev_lbk (off := 0) (vs := [.int .i64 c.1, .int .i64 c.2]) (fun _ h => h ▸ b5) rfl agg_55 rfl rfl) rfl rfl rfl ?_
      refine rw_op (op_buildSlice (E := 55) (m := 1) (pv := #[(0, .agg #[.int .i64 c.1, .int .i64 c.2])]) (cs := #[.int .i64 c.1, .int .i64 c.2]) rfl (fun _ => by kernel_rfl)) rfl rfl rfl ?_
      rintro _ w32 ⟨g31, rfl, hg33, k34, b35⟩
      have rw36 : ∀ b, (u21 : Value).ownBlock = some b → b < g31 := fun b h => Nat.lt_of_lt_of_le (ow24.lt b h).2 hg33
      replace K0 := Ex.trans K0 k34
      replace hv := hv.ex k34
      replace b5 := b5.ex k34
      replace b18 := b18.ex k34
      replace ow24 := ow24.ex k34
      have zw32 := k34.size
      have lg31 := b35.lt
      refine rw_op (op_fn (xs := [.tmp 33, .tmp 34, .tmp 36]) ent_107 rfl (c_insert w32 w19.heap.size u21 l ow24 (Nat.le_trans zw22 zw32) (lowC l c) (by first | omega | exact lowC_le _ _) g31 c b35 (fun b_ hb_ e_ => Nat.lt_irrefl _ (show b_ < b_ from by have h_ := rw36 b_ hb_; omega)) (by have := right_len (by assumption : rightC l = true); omega))) rfl rfl rfl ?_
      rintro u37 w38 ⟨k39, ow40⟩
      replace K0 := Ex.kp_new K0 k39 (fun b h => Nat.le_trans (Nat.le_trans zw2 (Nat.le_trans zw6 (Nat.le_trans zw9 (Nat.le_trans zw12 (Nat.le_trans zw15 zw19))))) (ow24.lt b h).1)
      replace hv := hv.kp k39 (fun b h e => Nat.lt_irrefl _ (Nat.lt_of_lt_of_le (show b < _ from h) (Nat.le_trans (Nat.le_trans zw2 (Nat.le_trans zw6 (Nat.le_trans zw9 (Nat.le_trans zw12 (Nat.le_trans zw15 zw19))))) (ow24.lt b e).1)))
      replace b5 := b5.kp k39 (fun h => Nat.lt_irrefl _ (Nat.lt_of_lt_of_le lg1 (Nat.le_trans (Nat.le_trans zw6 (Nat.le_trans zw9 (Nat.le_trans zw12 (Nat.le_trans zw15 zw19)))) (ow24.lt _ h).1)))
      replace b18 := b18.kp k39 (fun h => Nat.lt_irrefl _ (Nat.lt_of_lt_of_le lg14 (Nat.le_trans zw19 (ow24.lt _ h).1)))
      replace b35 := b35.kp k39 (fun h => Nat.lt_irrefl _ (rw36 _ h))
      have zw38 := k39.size
      refine rw_ev (ev_assign rfl) rfl rfl rfl ?_
      refine rw_nil ?_
      refine nw_block ?_
      refine nw_seq ?_
      refine cw_seq ?_
      refine cw_region ?_
      refine rw_ev (ev_move rfl) rfl rfl rfl ?_
      refine rw_op (op_fn (xs := [.tmp 49]) ent_104 rfl (c_fewA w38 u37 (l.take (lowC l c) ++ [c] ++ l.drop (lowC l c)) (fun b => w19.heap.size ≤ b ∧ b < w38.heap.size) (fun _ h => h.2) ow40.sl)) rfl rfl rfl ?_
      rintro _ w42 ⟨u41, rfl, k43, sl44⟩
      replace K0 := Ex.trans K0 k43
      replace hv := hv.ex k43
      replace b5 := b5.ex k43
      replace b18 := b18.ex k43
      replace b35 := b35.ex k43
      replace ow40 := ow40.ex k43
      have zw42 := k43.size
      refine rw_ev (ev_extract rfl rfl) rfl rfl rfl ?_
      refine rw_ev (ev_extract rfl rfl) rfl rfl rfl ?_
      refine rw_ev (ev_assign rfl) rfl rfl rfl ?_
      refine rw_ev (ev_assign rfl) rfl rfl rfl ?_
      refine rw_nil ?_
      refine nw_seq ?_
      refine cw_ret ?_
      refine ret_post (rs := [.tmp 6, .tmp 7]) (vs := [u41, .int .i64 ((fewC (l.take (lowC l c) ++ [c] ++ l.drop (lowC l c))).2)]) rfl (.tmp rfl (.tmp rfl .nil)) ?_
      have hu_ : UpC l := ((rightC_iff l).1 (by assumption)).2.1
      have hg_ : (if alive = true then putC l c else l.filter fun x => decide (x ≠ c)) = (l.take (lowC l c) ++ [c] ++ l.drop (lowC l c)) := by
        rw [if_pos (by assumption), putC_low hu_ (fun h_ => by have := (hasC_iff l c).2 h_; simp_all)]; simp
      have hk_ : withC l c alive = fewC (l.take (lowC l c) ++ [c] ++ l.drop (lowC l c)) := by
        unfold withC; rw [if_pos (by assumption), if_pos (by assumption), hg_]
      refine ⟨u41, ?_, K0, ?_⟩
      · show (.tuple #[u41, .int .i64 ((fewC (l.take (lowC l c) ++ [c] ++ l.drop (lowC l c))).2)] : Value) = _
        rw [hk_]
      · have hl_ : (fewC (l.take (lowC l c) ++ [c] ++ l.drop (lowC l c))).1 = (withC l c alive).1 := by rw [hk_]
        rw [← hl_]; exact (Sl.since sl44 (fun _ hb => hb.elim (fun hb => Nat.le_trans (Nat.le_trans zw2 (Nat.le_trans zw6 (Nat.le_trans zw9 (Nat.le_trans zw12 (Nat.le_trans zw15 zw19))))) hb.1) (fun hb => Nat.le_trans (Nat.le_trans zw2 (Nat.le_trans zw6 (Nat.le_trans zw9 (Nat.le_trans zw12 (Nat.le_trans zw15 (Nat.le_trans zw19 (Nat.le_trans zw22 (Nat.le_trans zw32 zw38)))))))) hb.1)))
    ·
     refine rw_skip (gd_tf rfl h25) rfl rfl ?_
     refine rw_skip (gd_tf rfl h25) rfl rfl ?_
     refine rw_ev (ev_pk_f rfl h25 rfl) rfl rfl rfl ?_
     refine rw_ev (ev_assign rfl) rfl rfl rfl ?_
     refine rw_nil ?_
     refine nw_seq ?_
     refine cw_f (b := false) rfl rfl ?_
     refine cw_seq ?_
     refine cw_region ?_
     refine rw_ev (ev_move rfl) rfl rfl rfl ?_
     refine rw_ev (ev_not rfl rfl) rfl rfl rfl ?_
     refine rw_ev (ev_move rfl) rfl rfl rfl ?_
     refine rw_ev (ev_move rfl) (gd_tt rfl (not_t h25)) rfl rfl ?_
     refine rw_ev (ev_pk_t rfl (not_t h25) rfl) rfl rfl rfl ?_
     refine rw_ev (ev_assign rfl) rfl rfl rfl ?_
     refine rw_nil ?_
     refine nw_seq ?_
     rcases Bool.eq_false_or_eq_true (hasC l c) with h45 | h45
     ·
      refine cw_t (b := hasC l c) rfl h45 ?_
      refine cw_region ?_
      refine rw_ev (ev_move rfl) rfl rfl rfl ?_
      refine rw_ev (ev_move rfl) rfl rfl rfl ?_
      refine rw_ev (ev_move rfl) rfl rfl rfl ?_
      refine rw_ev (ev_add rfl rfl (by first | omega | (have := right_len (by assumption : rightC l = true); omega))) rfl rfl rfl ?_
      refine rw_op (op_fn (xs := [.tmp 44, .tmp 45, .tmp 47]) ent_108 rfl (c_delete w22 w19.heap.size u21 l ow24 (lowC l c) (by have hz_ := (low_has (((rightC_iff l).1 (by assumption)).2.1) c).1 ((hasC_iff l c).1 (by assumption)); exact (List.getElem?_eq_some_iff.1 hz_).1))) rfl rfl rfl ?_
      rintro u46 w47 ⟨k48, ow49⟩
      replace K0 := Ex.kp_new K0 k48 (fun b h => Nat.le_trans (Nat.le_trans zw2 (Nat.le_trans zw6 (Nat.le_trans zw9 (Nat.le_trans zw12 (Nat.le_trans zw15 zw19))))) (ow24.lt b h).1)
      replace hv := hv.kp k48 (fun b h e => Nat.lt_irrefl _ (Nat.lt_of_lt_of_le (show b < _ from h) (Nat.le_trans (Nat.le_trans zw2 (Nat.le_trans zw6 (Nat.le_trans zw9 (Nat.le_trans zw12 (Nat.le_trans zw15 zw19))))) (ow24.lt b e).1)))
      replace b5 := b5.kp k48 (fun h => Nat.lt_irrefl _ (Nat.lt_of_lt_of_le lg1 (Nat.le_trans (Nat.le_trans zw6 (Nat.le_trans zw9 (Nat.le_trans zw12 (Nat.le_trans zw15 zw19)))) (ow24.lt _ h).1)))
      replace b18 := b18.kp k48 (fun h => Nat.lt_irrefl _ (Nat.lt_of_lt_of_le lg14 (Nat.le_trans zw19 (ow24.lt _ h).1)))
      have zw47 := k48.size
      refine rw_ev (ev_assign rfl) rfl rfl rfl ?_
      refine rw_nil ?_
      refine nw_block ?_
      refine nw_seq ?_
      refine cw_seq ?_
      refine cw_region ?_
      refine rw_ev (ev_move rfl) rfl rfl rfl ?_
      refine rw_op (op_fn (xs := [.tmp 49]) ent_104 rfl (c_fewA w47 u46 (l.take (lowC l c) ++ l.drop (lowC l c + 1)) (fun b => w19.heap.size ≤ b ∧ b < w47.heap.size) (fun _ h => h.2) ow49.sl)) rfl rfl rfl ?_
      rintro _ w51 ⟨u50, rfl, k52, sl53⟩
      replace K0 := Ex.trans K0 k52
      replace hv := hv.ex k52
      replace b5 := b5.ex k52
      replace b18 := b18.ex k52
      replace ow49 := ow49.ex k52
      have zw51 := k52.size
      refine rw_ev (ev_extract rfl rfl) rfl rfl rfl ?_
      refine rw_ev (ev_extract rfl rfl) rfl rfl rfl ?_
      refine rw_ev (ev_assign rfl) rfl rfl rfl ?_
      refine rw_ev (ev_assign rfl) rfl rfl rfl ?_
      refine rw_nil ?_
      refine nw_seq ?_
      refine cw_ret ?_
      refine ret_post (rs := [.tmp 6, .tmp 7]) (vs := [u50, .int .i64 ((fewC (l.take (lowC l c) ++ l.drop (lowC l c + 1))).2)]) rfl (.tmp rfl (.tmp rfl .nil)) ?_
      have hu_ : UpC l := ((rightC_iff l).1 (by assumption)).2.1
      have hg_ : (if alive = true then putC l c else l.filter fun x => decide (x ≠ c)) = (l.take (lowC l c) ++ l.drop (lowC l c + 1)) := by
        rw [if_neg (by simp [*]), filter_low hu_ ((hasC_iff l c).1 (by assumption))]
      have hk_ : withC l c alive = fewC (l.take (lowC l c) ++ l.drop (lowC l c + 1)) := by
        unfold withC; rw [if_pos (by assumption), if_pos (by assumption), hg_]
      refine ⟨u50, ?_, K0, ?_⟩
      · show (.tuple #[u50, .int .i64 ((fewC (l.take (lowC l c) ++ l.drop (lowC l c + 1))).2)] : Value) = _
        rw [hk_]
      · have hl_ : (fewC (l.take (lowC l c) ++ l.drop (lowC l c + 1))).1 = (withC l c alive).1 := by rw [hk_]
        rw [← hl_]; exact (Sl.since sl53 (fun _ hb => hb.elim (fun hb => Nat.le_trans (Nat.le_trans zw2 (Nat.le_trans zw6 (Nat.le_trans zw9 (Nat.le_trans zw12 (Nat.le_trans zw15 zw19))))) hb.1) (fun hb => Nat.le_trans (Nat.le_trans zw2 (Nat.le_trans zw6 (Nat.le_trans zw9 (Nat.le_trans zw12 (Nat.le_trans zw15 (Nat.le_trans zw19 (Nat.le_trans zw22 zw47))))))) hb.1)))
     ·
      refine cw_f (b := hasC l c) rfl h45 ?_
      refine cw_skip ?_
      refine nw_block ?_
      refine nw_seq ?_
      refine cw_seq ?_
      refine cw_region ?_
      refine rw_ev (ev_move rfl) rfl rfl rfl ?_
      refine rw_op (op_fn (xs := [.tmp 49]) ent_104 rfl (c_fewA w22 u21 l (fun b => w19.heap.size ≤ b ∧ b < w22.heap.size) (fun _ h => h.2) ow24.sl)) rfl rfl rfl ?_
      rintro _ w55 ⟨u54, rfl, k56, sl57⟩
      replace K0 := Ex.trans K0 k56
      replace hv := hv.ex k56
      replace b5 := b5.ex k56
      replace b18 := b18.ex k56
      replace ow24 := ow24.ex k56
      have zw55 := k56.size
      refine rw_ev (ev_extract rfl rfl) rfl rfl rfl ?_
      refine rw_ev (ev_extract rfl rfl) rfl rfl rfl ?_
      refine rw_ev (ev_assign rfl) rfl rfl rfl ?_
      refine rw_ev (ev_assign rfl) rfl rfl rfl ?_
      refine rw_nil ?_
      refine nw_seq ?_
      refine cw_ret ?_
      refine ret_post (rs := [.tmp 6, .tmp 7]) (vs := [u54, .int .i64 ((fewC l).2)]) rfl (.tmp rfl (.tmp rfl .nil)) ?_
      have hu_ : UpC l := ((rightC_iff l).1 (by assumption)).2.1
      have hg_ : (if alive = true then putC l c else l.filter fun x => decide (x ≠ c)) = l := by
        rw [if_neg (by simp [*]), filter_not (fun h_ => by have := (hasC_iff l c).2 h_; simp_all)]
      have hk_ : withC l c alive = fewC l := by
        unfold withC; rw [if_pos (by assumption), if_pos (by assumption), hg_]
      refine ⟨u54, ?_, K0, ?_⟩
      · show (.tuple #[u54, .int .i64 ((fewC l).2)] : Value) = _
        rw [hk_]
      · have hl_ : (fewC l).1 = (withC l c alive).1 := by rw [hk_]
        rw [← hl_]; exact (Sl.since sl57 (fun _ hb => hb.elim (fun hb => Nat.le_trans (Nat.le_trans zw2 (Nat.le_trans zw6 (Nat.le_trans zw9 (Nat.le_trans zw12 (Nat.le_trans zw15 zw19))))) hb.1) (fun hb => Nat.le_trans (Nat.le_trans zw2 (Nat.le_trans zw6 (Nat.le_trans zw9 (Nat.le_trans zw12 (Nat.le_trans zw15 (Nat.le_trans zw19 zw22)))))) hb.1)))
   ·
    refine cw_t (b := !(inC c)) rfl (not_t h11) ?_
    refine cw_seq ?_
    refine cw_region ?_
    refine rw_ev (ev_assign rfl) rfl rfl rfl ?_
    refine rw_ev (ev_assign rfl) rfl rfl rfl ?_
    refine rw_nil ?_
    refine nw_seq ?_
    refine cw_ret ?_
    refine ret_post (rs := [.tmp 6, .tmp 7]) (vs := [.slice none 0 0, .int .i64 2]) rfl (.tmp rfl (.tmp rfl .nil)) ?_
    have hk_ : withC l c alive = ([], 2) := by simp [withC, *]
    refine ⟨(.slice none 0 0), ?_, K0, ?_⟩
    · show (.tuple #[.slice none 0 0, .int .i64 2] : Value) = _
      rw [hk_]
    · have hl_ : ([] : List Cell) = (withC l c alive).1 := by rw [hk_]
      rw [← hl_]; exact (Sl.nil _ _ 2)
  ·
   refine cw_t (b := !(rightC l)) rfl (not_t h8) ?_
   refine cw_seq ?_
   refine cw_region ?_
   refine rw_ev (ev_assign rfl) rfl rfl rfl ?_
   refine rw_ev (ev_assign rfl) rfl rfl rfl ?_
   refine rw_nil ?_
   refine nw_seq ?_
   refine cw_ret ?_
   refine ret_post (rs := [.tmp 6, .tmp 7]) (vs := [.slice none 0 0, .int .i64 1]) rfl (.tmp rfl (.tmp rfl .nil)) ?_
   have hk_ : withC l c alive = ([], 1) := by simp [withC, *]
   refine ⟨(.slice none 0 0), ?_, K0, ?_⟩
   · show (.tuple #[.slice none 0 0, .int .i64 1] : Value) = _
     rw [hk_]
   · have hl_ : ([] : List Cell) = (withC l c alive).1 := by rw [hk_]
     rw [← hl_]; exact (Sl.nil _ _ 2)

end Go.Proofs.Ythpaadmpgdglnaa
