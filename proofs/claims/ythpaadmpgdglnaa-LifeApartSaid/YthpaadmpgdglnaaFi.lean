/- What life.Next computes. Each theorem names its conditions. -/
import Derived.Test.YthpaadmpgdglnaaFh
import Derived.Test.YthpaadmpgdglnaaFe
import Derived.Test.YthpaadmpgdglnaaF5
import Derived.Test.YthpaadmpgdglnaaDc
namespace Go.Proofs.Ythpaadmpgdglnaa
open Go Go.RowKit
set_option linter.unusedVariables false
set_option linter.unusedSimpArgs false
set_option maxRecDepth 100000
set_option maxHeartbeats 4000000

theorem c_next (w : World) (v : Value) (l : List Cell) (hv : Sl w (fun b => b < w.heap.size) v 2 (l.map encC)) : Fn Try.prog 47 [v] w (fun v w' => ∃ u : Value, v = .tuple #[u, .int .i64 ((nextC l).2)] ∧ Ex w w' ∧ Sl w' (fun b => w.heap.size ≤ b ∧ b < w'.heap.size) u 2 (((nextC l).1).map encC)) := by
  have K0 : Ex w w := Kp.refl _ _
  refine fn_enter (n := 31) Try.func47 rfl rfl (Nat.le_of_ble_eq_true rfl) ?_
  show CW _ _ _ _ _ _ [(0, v)] _
  have hlv_ := hv.lenm
  refine cw_seq ?_
  refine cw_region ?_
  refine rw_ev (ev_assign rfl) rfl rfl rfl ?_
  refine rw_ev (ev_assign rfl) rfl rfl rfl ?_
  refine rw_nil ?_
  refine nw_seq ?_
  refine cw_seq ?_
  refine cw_seq ?_
  refine cw_region ?_
  refine rw_ev (ev_move rfl) rfl rfl rfl ?_
  refine rw_op (op_fn (xs := [.tmp 7]) ent_58 rfl (c_cright w v l (Sl.below hv))) rfl rfl rfl ?_
  rintro _ w1 ⟨rfl, k2⟩
  replace K0 := Ex.trans K0 k2
  replace hv := hv.ex k2
  have zw1 := k2.size
  refine rw_ev (ev_not rfl rfl) rfl rfl rfl ?_
  refine rw_nil ?_
  refine nw_seq ?_
  rcases Bool.eq_false_or_eq_true (rightC l) with h3 | h3
  ·
   refine cw_f (b := !(rightC l)) rfl (not_f h3) ?_
   refine cw_skip ?_
   refine nw_seq ?_
   refine cw_seq ?_
   refine cw_region ?_
   refine rw_ev (ev_assign rfl) rfl rfl rfl ?_
   refine rw_nil ?_
   refine nw_seq ?_
   refine cw_seq ?_
   refine cw_seq ?_
   refine cw_region ?_
   refine rw_ev (ev_move rfl) rfl rfl rfl ?_
   refine rw_op (op_fn (xs := [.tmp 10]) ent_94 rfl (c_counts w1 v l (Sl.below hv) (by assumption))) rfl rfl rfl ?_
   rintro _ w5 ⟨m4, rfl, k6, hm7, hl8, mp9⟩
   replace K0 := Ex.trans K0 k6
   replace hv := hv.ex k6
   have zw5 := k6.size
   have lm4 := mp9.lt
   refine rw_op (op_range map_131 mp9 rfl) rfl rfl rfl ?_
   rintro _ w11 ⟨r10, rfl, hr12, k13, it14⟩
   replace K0 := Ex.trans K0 k13
   replace hv := hv.ex k13
   replace mp9 := mp9.ex k13
   have zw11 := k13.size
   have lr10 := it14.lt
   refine rw_nil ?_
   refine nw_seq ?_
   refine cw_block ?_
   refine cw_loop (σ := List Nat × Value × List Cell) (fun s_ => match s_ with | (s, va, o) => [(2, .slice none 0 0), (3, .int .i64 0), (4, va), (12, .pointer (some ⟨r10, 0, none⟩))]) (fun s_ wr => match s_ with | (s, va, o) => Ex w wr ∧ w11.heap.size ≤ wr.heap.size ∧ MapAt wr m4 keyC valI (countsM l) ∧ IterAt wr r10 m4 (countsM l).length s ∧ Ow wr w11.heap.size 55 va 2 (o.map encC) ∧ OutOk (countsM l) s o) (fun s_ => match s_ with | (s, va, o) => (countsM l).length - s.length) ([], .slice none 0 0, []) (Sub.cons rfl (Sub.cons rfl (Sub.cons rfl (Sub.cons rfl Sub.nil)))) ⟨K0, (Nat.le_refl _), mp9, it14, (Ow.nil _ _ _ _), (by exact OutOk.nil _)⟩ ?_
   rintro ⟨s, va, o⟩ w15 ⟨K0, z16, f17, f18, f19, pr20⟩
   show CW _ _ _ _ _ _ [(2, .slice none 0 0), (3, .int .i64 0), (4, va), (12, .pointer (some ⟨r10, 0, none⟩))] _
   refine cw_seq ?_
   refine cw_region ?_
   refine rw_op (op_next f18 f17 rfl) rfl rfl rfl ?_
   rintro _ w21 (⟨rfl, hw_, hall22⟩ | ⟨j23, q24, rfl, hq25, hns26, k27, it28⟩)
   ·
    obtain rfl := hw_.symm
    refine rw_ev (ev_extract rfl rfl) rfl rfl rfl ?_
    refine rw_nil ?_
    refine nw_seq ?_
    refine cw_seq ?_
    refine cw_f (b := false) rfl rfl ?_
    refine cw_exit ?_
    refine xw_seq ?_
    refine xw_goal ?_
    refine xw_hit ?_
    refine nw_seq ?_
    refine cw_seq ?_
    refine cw_region ?_
    refine rw_ev (ev_move rfl) rfl rfl rfl ?_
    refine rw_op (op_fn (xs := [.tmp 27]) ent_57 rfl (c_cof w15 va o (Sl.below f19.sl) (by have hs_ := OutOk.small (by assumption : OutOk (countsM l) s o) (by assumption : rightC l = true); omega))) rfl rfl rfl ?_
    rintro _ w30 ⟨u29, rfl, k31, sl32⟩
    replace K0 := Ex.trans K0 k31
    replace f19 := f19.ex k31
    have zw30 := k31.size
    refine rw_ev (ev_extract rfl rfl) rfl rfl rfl ?_
    refine rw_ev (ev_extract rfl rfl) rfl rfl rfl ?_
    refine rw_ev (ev_assign rfl) rfl rfl rfl ?_
    refine rw_ev (ev_assign rfl) rfl rfl rfl ?_
    refine rw_nil ?_
    refine nw_seq ?_
    refine cw_ret ?_
    refine ret_post (rs := [.tmp 2, .tmp 3]) (vs := [u29, .int .i64 ((ofC o).2)]) rfl (.tmp rfl (.tmp rfl .nil)) ?_
    have hk_ : ofC o = nextC l := next_law (by assumption) (by assumption) (by assumption)
    refine ⟨u29, ?_, K0, ?_⟩
    · show (.tuple #[u29, .int .i64 ((ofC o).2)] : Value) = _
      simp only [hk_]
    · have hl_ : (ofC o).1 = (nextC l).1 := by simp only [hk_]
      rw [← hl_]; exact (Sl.since sl32 (fun _ hb => Nat.le_trans (Nat.le_trans zw1 (Nat.le_trans zw5 (Nat.le_trans zw11 z16))) hb.1))
   ·
    replace K0 := Ex.kp_new K0 k27 (fun _ h => h ▸ Nat.le_trans (Nat.le_trans zw1 zw5) hr12)
    replace f17 := f17.kp k27 (Nat.ne_of_lt (Nat.lt_of_lt_of_le lm4 (Nat.le_trans (Nat.le_refl _) hr12)))
    replace f19 := f19.kp k27 (fun b h e => Nat.lt_irrefl _ (Nat.lt_of_lt_of_le (show b < _ from e ▸ lr10) (Nat.le_trans (Nat.le_refl _) (f19.lt b h).1)))
    have zw21 := k27.size
    refine rw_ev (ev_extract rfl rfl) rfl rfl rfl ?_
    refine rw_nil ?_
    refine nw_seq ?_
    refine cw_seq ?_
    refine cw_t (b := true) rfl rfl ?_
    refine cw_skip ?_
    refine nw_seq ?_
    refine cw_block ?_
    refine cw_seq ?_
    refine cw_region ?_
    refine rw_ev (v := .tuple #[.agg #[.int .i64 q24.1.1, .int .i64 q24.1.2], .int .i64 q24.2]) (ev_entry it28 f17 hq25 rfl) rfl rfl rfl ?_
    refine rw_ev (ev_extract rfl rfl) rfl rfl rfl ?_
    refine rw_ev (ev_extract rfl rfl) rfl rfl rfl ?_
    refine rw_op (op_alloc zero_55) rfl rfl rfl ?_
    rintro _ w34 ⟨g33, rfl, hg35, k36, b37⟩
    have rw38 : ∀ b, (va : Value).ownBlock = some b → b < g33 := fun b h => Nat.lt_of_lt_of_le (f19.lt b h).2 hg35
    replace K0 := Ex.trans K0 k36
    replace f17 := f17.ex k36
    replace f19 := f19.ex k36
    replace it28 := it28.ex k36
    have zw34 := k36.size
    have lg33 := b37.lt
    refine rw_none (op_store (off := 0) (v := .agg #[.int .i64 q24.1.1, .int .i64 q24.1.2]) (cs' := #[.int .i64 q24.1.1, .int .i64 q24.1.2]) b37 rfl rfl size_55 rfl (Nat.le_of_ble_eq_true rfl) (one_cons rfl (one_cons rfl one_nil)) rfl) rfl rfl ?_
    rintro _ w39 ⟨k40, b41⟩
    replace K0 := Ex.kp_new K0 k40 (fun _ h => h ▸ Nat.le_trans (Nat.le_trans zw1 (Nat.le_trans zw5 (Nat.le_trans zw11 (Nat.le_trans z16 zw21)))) hg35)
    replace f17 := f17.kp k40 (Nat.ne_of_lt (Nat.lt_of_lt_of_le lm4 (Nat.le_trans (Nat.le_trans zw11 (Nat.le_trans z16 zw21)) hg35)))
    replace f19 := f19.kp k40 (fun b h e => Nat.lt_irrefl _ (show b < b from by have := rw38 b h; omega))
    replace it28 := it28.kp k40 (Nat.ne_of_lt (Nat.lt_of_lt_of_le lr10 (Nat.le_trans (Nat.le_trans z16 zw21) hg35)))
    have zw39 := k40.size
    refine rw_ev (ev_assign rfl) rfl rfl rfl ?_
    refine rw_nil ?_
    refine nw_seq ?_
    refine cw_seq ?_
    refine cw_region ?_
    refine rw_ev (ev_move rfl) rfl rfl rfl ?_
    refine rw_ev (ev_geq rfl rfl) rfl rfl rfl ?_
    refine rw_ev (ev_move rfl) rfl rfl rfl ?_
    refine rw_ev (ev_rem rfl rfl (by (have hb_ := entry_bd (by assumption : rightC l = true) (by assumption : (countsM l)[_]? = some _); omega))) rfl rfl rfl ?_
    refine rw_op (op_fn (xs := [.tmp 19, .tmp 21]) ent_50 rfl (c_lives w39 (decide ((10 : Int) ≤ q24.2)) (q24.2 % 10))) rfl rfl rfl ?_
    rintro _ w42 ⟨rfl, k43⟩
    replace K0 := Ex.trans K0 k43
    replace f17 := f17.ex k43
    replace f19 := f19.ex k43
    replace it28 := it28.ex k43
    replace b41 := b41.ex k43
    have zw42 := k43.size
    refine rw_nil ?_
    refine nw_seq ?_
    rcases Bool.eq_false_or_eq_true (livesB (decide ((10 : Int) ≤ q24.2)) (q24.2 % 10)) with h44 | h44
    ·
     refine cw_t (b := livesB (decide ((10 : Int) ≤ q24.2)) (q24.2 % 10)) rfl h44 ?_
     refine cw_region ?_
     refine rw_ev (ev_move rfl) rfl rfl rfl ?_
     refine rw_ev (v := .agg #[.int .i64 q24.1.1, .int .i64 q24.1.2]) (ev_lbk (off := 0) (vs := [.int .i64 q24.1.1, .int .i64 q24.1.2]) (fun _ h => h ▸ b41) rfl agg_55 rfl rfl) rfl rfl rfl ?_
     refine rw_op (op_buildSlice (E := 55) (m := 1) (pv := #[(0, .agg #[.int .i64 q24.1.1, .int .i64 q24.1.2])]) (cs := #[.int .i64 q24.1.1, .int .i64 q24.1.2]) rfl (fun _ => by kernel_rfl)) rfl rfl rfl ?_
     rintro _ w46 ⟨g45, rfl, hg47, k48, b49⟩
     have rw50 : ∀ b, (va : Value).ownBlock = some b → b < g45 := fun b h => Nat.lt_of_lt_of_le (f19.lt b h).2 hg47
     replace K0 := Ex.trans K0 k48
     replace f17 := f17.ex k48
     replace f19 := f19.ex k48
     replace it28 := it28.ex k48
     replace b41 := b41.ex k48
     have zw46 := k48.size
     have lg45 := b49.lt
     refine rw_op (op_app1 (f := encC) (l := o) (c := q24.1) (B := w11.heap.size) row_46 plainC f19 b49 rfl rfl rfl (by decide) (by unfold maxLen; (have hs_ := OutOk.small (by assumption : OutOk (countsM l) s o) (by assumption : rightC l = true); omega)) (by (have hs_ := OutOk.small (by assumption : OutOk (countsM l) s o) (by assumption : rightC l = true); omega)) (Nat.le_trans z16 (Nat.le_trans zw21 (Nat.le_trans zw34 (Nat.le_trans zw39 (Nat.le_trans zw42 zw46)))))) rfl rfl rfl ?_
     rintro v51 w52 ⟨k53, ow54⟩
     replace K0 := Ex.kp_new K0 k53 (fun b h => Nat.le_trans (Nat.le_trans zw1 (Nat.le_trans zw5 zw11)) (f19.lt b h).1)
     replace f17 := f17.kp k53 (fun h => Nat.lt_irrefl _ (Nat.lt_of_lt_of_le lm4 (Nat.le_trans zw11 (f19.lt _ h).1)))
     replace it28 := it28.kp k53 (fun h => Nat.lt_irrefl _ (Nat.lt_of_lt_of_le lr10 (Nat.le_trans (Nat.le_refl _) (f19.lt _ h).1)))
     replace b41 := b41.kp k53 (fun h => Nat.lt_irrefl _ (rw38 _ h))
     replace b49 := b49.kp k53 (fun h => Nat.lt_irrefl _ (rw50 _ h))
     have zw52 := k53.size
     refine rw_ev (ev_assign rfl) rfl rfl rfl ?_
     refine rw_nil ?_
     refine nw_block ?_
     exact nw_round ((s ++ [j23]), v51, (o ++ [q24.1])) (Sub.cons rfl (Sub.cons rfl (Sub.cons rfl (Sub.cons rfl Sub.nil)))) ⟨K0, (Nat.le_trans z16 (Nat.le_trans zw21 (Nat.le_trans zw34 (Nat.le_trans zw39 (Nat.le_trans zw42 (Nat.le_trans zw46 zw52)))))), f17, it28, ow54, (by first | exact OutOk.yes (by assumption) (by assumption) (by assumption) (by assumption) | exact OutOk.no (by assumption) (by assumption) (by assumption) (by assumption))⟩ (by have h_ := OutOk.less (by assumption : OutOk (countsM l) s o) (by assumption : (countsM l)[_]? = some _) (by assumption); have hl_ : ∀ j_ : Nat, (s ++ [j_]).length = s.length + 1 := (fun _ => by simp); simp only [hl_]; omega)
    ·
     refine cw_f (b := livesB (decide ((10 : Int) ≤ q24.2)) (q24.2 % 10)) rfl h44 ?_
     refine cw_skip ?_
     refine nw_block ?_
     exact nw_round ((s ++ [j23]), va, o) (Sub.cons rfl (Sub.cons rfl (Sub.cons rfl (Sub.cons rfl Sub.nil)))) ⟨K0, (Nat.le_trans z16 (Nat.le_trans zw21 (Nat.le_trans zw34 (Nat.le_trans zw39 zw42)))), f17, it28, f19, (by first | exact OutOk.yes (by assumption) (by assumption) (by assumption) (by assumption) | exact OutOk.no (by assumption) (by assumption) (by assumption) (by assumption))⟩ (by have h_ := OutOk.less (by assumption : OutOk (countsM l) s o) (by assumption : (countsM l)[_]? = some _) (by assumption); have hl_ : ∀ j_ : Nat, (s ++ [j_]).length = s.length + 1 := (fun _ => by simp); simp only [hl_]; omega)
  ·
   refine cw_t (b := !(rightC l)) rfl (not_t h3) ?_
   refine cw_seq ?_
   refine cw_region ?_
   refine rw_ev (ev_assign rfl) rfl rfl rfl ?_
   refine rw_ev (ev_assign rfl) rfl rfl rfl ?_
   refine rw_nil ?_
   refine nw_seq ?_
   refine cw_ret ?_
   refine ret_post (rs := [.tmp 2, .tmp 3]) (vs := [.slice none 0 0, .int .i64 1]) rfl (.tmp rfl (.tmp rfl .nil)) ?_
   have hk_ : nextC l = ([], 1) := by
     unfold nextC; rw [if_neg]; simp [*]
   refine ⟨(.slice none 0 0), ?_, K0, ?_⟩
   · show (.tuple #[.slice none 0 0, .int .i64 1] : Value) = _
     simp only [hk_]
   · have hl_ : ([] : List Cell) = (nextC l).1 := by simp only [hk_]
     rw [← hl_]; exact (Sl.nil _ _ 2)

end Go.Proofs.Ythpaadmpgdglnaa
