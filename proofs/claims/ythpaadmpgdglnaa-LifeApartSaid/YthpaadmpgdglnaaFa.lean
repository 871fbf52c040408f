/- What cells.Of asks of the library: a copy, a search by a predicate, what compares. Each theorem names its conditions. -/
import Derived.Test.YthpaadmpgdglnaaF3
import Derived.Test.YthpaadmpgdglnaaTy2
import Derived.Test.YthpaadmpgdglnaaD5
namespace Go.Proofs.Ythpaadmpgdglnaa
open Go Go.RowKit
set_option linter.unusedVariables false
set_option linter.unusedSimpArgs false
set_option maxRecDepth 100000
set_option maxHeartbeats 4000000

theorem c_of1 (w : World) (c : Cell) : Fn Try.prog 99 [.agg #[.int .i64 c.1, .int .i64 c.2]] w (fun v w' =>  v = .bool (!inC c) ∧ Ex w w') := by
  have K0 : Ex w w := Kp.refl _ _
  refine fn_enter (n := 6) Try.func99 rfl rfl (Nat.le_of_ble_eq_true rfl) ?_
  show CW _ _ _ _ _ _ [(0, .agg #[.int .i64 c.1, .int .i64 c.2])] _
  refine cw_seq ?_
  refine cw_region ?_
  refine rw_op (op_box (v := .agg #[.int .i64 c.1, .int .i64 c.2]) (cs := #[.int .i64 c.1, .int .i64 c.2]) rfl rfl) rfl rfl rfl ?_
  rintro _ w2 ⟨g1, rfl, hg3, k4, b5⟩
  replace K0 := Ex.trans K0 k4
  have zw2 := k4.size
  have lg1 := b5.lt
  refine rw_ev (ev_assign rfl) rfl rfl rfl ?_
  refine rw_nil ?_
  refine nw_seq ?_
  refine cw_seq ?_
  refine cw_region ?_
  refine rw_ev (v := .agg #[.int .i64 c.1, .int .i64 c.2]) (ev_lbk (off := 0) (vs := [.int .i64 c.1, .int .i64 c.2]) (fun _ h => h ▸ b5) rfl agg_55 rfl rfl) rfl rfl rfl ?_
  refine rw_op (op_fn (xs := [.tmp 3]) ent_100 rfl (c_cin w2 c)) rfl rfl rfl ?_
  rintro _ w6 ⟨rfl, k7⟩
  replace K0 := Ex.trans K0 k7
  replace b5 := b5.ex k7
  have zw6 := k7.size
  refine rw_ev (ev_not rfl rfl) rfl rfl rfl ?_
  refine rw_ev (ev_assign rfl) rfl rfl rfl ?_
  refine rw_nil ?_
  refine nw_seq ?_
  refine cw_ret ?_
  refine ret_post (rs := [.tmp 2]) (vs := [.bool (!(inC c))]) rfl (.tmp rfl .nil) ?_
  refine ⟨?_, K0⟩
  · show (.bool (!(inC c)) : Value) = _
    rfl

theorem c_indexf (w : World) (v : Value) (l : List Cell) (hv : Sl w (fun b => b < w.heap.size) v 2 (l.map encC))  : Fn Try.prog 141 [v, .func (.func 99) #[] #[]] w (fun v w' => ∃ r : Int, v = .int .i64 r ∧ Ex w w' ∧ (0 ≤ r ↔ l.all inC = false)) := by
  have K0 : Ex w w := Kp.refl _ _
  refine fn_enter (n := 19) Try.func141 rfl rfl (Nat.le_of_ble_eq_true rfl) ?_
  show CW _ _ _ _ _ _ [(0, v), (1, .func (.func 99) #[] #[])] _
  have hlv_ := hv.lenm
  refine cw_seq ?_
  refine cw_region ?_
  refine rw_ev (ev_assign rfl) rfl rfl rfl ?_
  refine rw_nil ?_
  refine nw_seq ?_
  refine cw_seq ?_
  refine cw_seq ?_
  refine cw_region ?_
  refine rw_ev (ev_move rfl) rfl rfl rfl ?_
  refine rw_ev (v := .int .i64 (l.length : Int)) (ev_lenm (l := l) ⟨_, hv⟩ rfl el_46 rfl) rfl rfl rfl ?_
  refine rw_ev (ev_move rfl) rfl rfl rfl ?_
  refine rw_nil ?_
  refine nw_seq ?_
  refine cw_block ?_
  refine cw_loop (σ := Nat) (fun i => [(0, v), (1, .func (.func 99) #[] #[]), (4, .int .i64 0), (7, .int .i64 (l.length : Int)), (8, .int .i64 (i : Int))]) (fun i wr => Ex w wr ∧ w.heap.size ≤ wr.heap.size ∧ Sl wr (fun b => b < w.heap.size) v 2 (l.map encC) ∧ (l.take i).all inC = true) (fun i => l.length - i) 0 (Sub.cons rfl (Sub.cons rfl (Sub.cons rfl (Sub.cons rfl (Sub.int (b := (0 : Int)) rfl (by omega) Sub.nil))))) ⟨K0, (Nat.le_refl _), hv, (by rfl)⟩ ?_
  rintro i w1 ⟨K0, z2, f3, pr4⟩
  show CW _ _ _ _ _ _ [(0, v), (1, .func (.func 99) #[] #[]), (4, .int .i64 0), (7, .int .i64 (l.length : Int)), (8, .int .i64 (i : Int))] _
  refine cw_seq ?_
  refine cw_region ?_
  refine rw_ev (ev_lss rfl rfl) rfl rfl rfl ?_
  refine rw_nil ?_
  refine nw_seq ?_
  refine cw_seq ?_
  by_cases h5 : (i : Int) < (l.length : Int)
  ·
   refine cw_t (b := decide ((i : Int) < (l.length : Int))) rfl (dec_t h5) ?_
   refine cw_skip ?_
   refine nw_seq ?_
   refine cw_seq ?_
   refine cw_block ?_
   refine cw_seq ?_
   refine cw_region ?_
   refine rw_ev (ev_move rfl) rfl rfl rfl ?_
   refine rw_ev (ev_assign rfl) rfl rfl rfl ?_
   refine rw_nil ?_
   refine nw_seq ?_
   refine cw_seq ?_
   refine cw_region ?_
   refine rw_ev (ev_move rfl) rfl rfl rfl ?_
   refine rw_ev (ev_move rfl) rfl rfl rfl ?_
   refine rw_ev (ev_move rfl) rfl rfl rfl ?_
   obtain ⟨c6, hc7⟩ := get_of (l := l) (i := i) (by omega)
   refine rw_ev (v := elemPtr v i 2 0) (ev_slAt (i := (i : Int)) ⟨_, f3⟩ rfl rfl el_46 (idx_ok (i := (i : Int)) hc7 (by omega))) rfl rfl rfl ?_
   refine rw_ev (v := .agg #[.int .i64 c6.1, .int .i64 c6.2]) (ev_elLoadk (us := [.int .i64 c6.1, .int .i64 c6.2]) (fun _ h => h ▸ f3) ⟨_, rfl⟩ rfl (get_enc hc7) agg_55 (by decide) rfl rfl) rfl rfl rfl ?_
   refine rw_op (op_fnv (xs := [.tmp 15]) (us := []) (cs := []) ent_99 rfl rfl (c_of1 w1 c6)) rfl rfl rfl ?_
   rintro _ w8 ⟨rfl, k9⟩
   replace K0 := Ex.trans K0 k9
   replace f3 := f3.ex k9
   have zw8 := k9.size
   refine rw_nil ?_
   refine nw_seq ?_
   rcases Bool.eq_false_or_eq_true (!inC c6) with h10 | h10
   ·
    refine cw_t (b := !inC c6) rfl h10 ?_
    refine cw_seq ?_
    refine cw_region ?_
    refine rw_ev (ev_move rfl) rfl rfl rfl ?_
    refine rw_ev (ev_assign rfl) rfl rfl rfl ?_
    refine rw_nil ?_
    refine nw_seq ?_
    refine cw_ret ?_
    refine ret_post (rs := [.tmp 4]) (vs := [.int .i64 (i : Int)]) rfl (.tmp rfl .nil) ?_
    refine ⟨(i : Int), ?_, K0, ?_⟩
    · show (.int .i64 (i : Int) : Value) = _
      rfl
    · have hx := all_stop (p := inC) (by assumption : l[i]? = some _) (by simp_all); rw [hx]; constructor <;> intro <;> first | rfl | omega
   ·
    refine cw_f (b := !inC c6) rfl h10 ?_
    refine cw_skip ?_
    refine nw_block ?_
    refine nw_seq ?_
    refine cw_region ?_
    refine rw_ev (ev_add rfl rfl (by omega)) rfl rfl rfl ?_
    refine rw_ev (ev_move rfl) rfl rfl rfl ?_
    refine rw_nil ?_
    exact nw_round (i + 1) (Sub.cons rfl (Sub.cons rfl (Sub.cons rfl (Sub.cons rfl (Sub.int (b := ((i + 1) : Int)) rfl (by omega) Sub.nil))))) ⟨K0, (Nat.le_trans z2 zw8), f3, (by rw [all_succ (by assumption : l[i]? = some _)]; simp_all)⟩ (by first | omega | (dsimp only; omega))
  ·
   refine cw_f (b := decide ((i : Int) < (l.length : Int))) rfl (dec_f h5) ?_
   refine cw_exit ?_
   refine xw_seq ?_
   refine xw_goal ?_
   refine xw_hit ?_
   refine nw_seq ?_
   refine cw_seq ?_
   refine cw_region ?_
   refine rw_ev (ev_assign rfl) rfl rfl rfl ?_
   refine rw_nil ?_
   refine nw_seq ?_
   refine cw_ret ?_
   refine ret_post (rs := [.tmp 4]) (vs := [.int .i64 (-1)]) rfl (.tmp rfl .nil) ?_
   refine ⟨(-1), ?_, K0, ?_⟩
   · show (.int .i64 (-1) : Value) = _
     rfl
   · have ht := take_all (by assumption : ¬ (i : Int) < l.length); have hh : l.all inC = true := (by rw [← ht]; assumption); simp [hh]

theorem c_containsf (w : World) (v : Value) (l : List Cell) (hv : Sl w (fun b => b < w.heap.size) v 2 (l.map encC))  : Fn Try.prog 98 [v, .func (.func 99) #[] #[]] w (fun v w' =>  v = .bool (!l.all inC) ∧ Ex w w') := by
  have K0 : Ex w w := Kp.refl _ _
  refine fn_enter (n := 9) Try.func98 rfl rfl (Nat.le_of_ble_eq_true rfl) ?_
  show CW _ _ _ _ _ _ [(0, v), (1, .func (.func 99) #[] #[])] _
  have hlv_ := hv.lenm
  refine cw_seq ?_
  refine cw_region ?_
  refine rw_ev (ev_assign rfl) rfl rfl rfl ?_
  refine rw_nil ?_
  refine nw_seq ?_
  refine cw_seq ?_
  refine cw_region ?_
  refine rw_ev (ev_move rfl) rfl rfl rfl ?_
  refine rw_ev (ev_move rfl) rfl rfl rfl ?_
  refine rw_op (op_fn (xs := [.tmp 5, .tmp 6]) ent_141 rfl (c_indexf w v l (Sl.below hv))) rfl rfl rfl ?_
  rintro _ w2 ⟨r1, rfl, k3, pr4⟩
  replace K0 := Ex.trans K0 k3
  replace hv := hv.ex k3
  have zw2 := k3.size
  refine rw_ev (ev_geq rfl rfl) rfl rfl rfl ?_
  refine rw_ev (ev_assign rfl) rfl rfl rfl ?_
  refine rw_nil ?_
  refine nw_seq ?_
  refine cw_ret ?_
  refine ret_post (rs := [.tmp 4]) (vs := [.bool (decide ((0 : Int) ≤ r1))]) rfl (.tmp rfl .nil) ?_
  refine ⟨?_, K0⟩
  · show (.bool (decide ((0 : Int) ≤ r1)) : Value) = _
    refine congrArg Value.bool (Bool.eq_iff_iff.2 ?_); rw [decide_eq_true_eq, Bool.not_eq_true']; assumption

theorem c_clone (w : World) (v : Value) (l : List Cell) (hv : Sl w (fun b => b < w.heap.size) v 2 (l.map encC)) (hn : l.length ≤ 1000000) : Fn Try.prog 96 [v] w (fun v w' => ∃ u : Value, v = u ∧ Ex w w' ∧ Ow w' w.heap.size 55 u 2 (l.map encC)) := by
  have K0 : Ex w w := Kp.refl _ _
  refine fn_enter (n := 8) Try.func96 rfl rfl (Nat.le_of_ble_eq_true rfl) ?_
  show CW _ _ _ _ _ _ [(0, v)] _
  have hlv_ := hv.lenm
  refine cw_seq ?_
  refine cw_region ?_
  refine rw_ev (ev_assign rfl) rfl rfl rfl ?_
  refine rw_nil ?_
  refine nw_seq ?_
  refine cw_seq ?_
  refine cw_seq ?_
  refine cw_region ?_
  refine rw_ev (ev_move rfl) rfl rfl rfl ?_
  refine rw_ev (v := .bool (nilS v)) (ev_eq_nil ⟨_, hv⟩ rfl rfl und_sl_46) rfl rfl rfl ?_
  refine rw_nil ?_
  refine nw_seq ?_
  rcases Bool.eq_false_or_eq_true (nilS v) with h1 | h1
  ·
   refine cw_t (b := nilS v) rfl h1 ?_
   refine cw_seq ?_
   refine cw_region ?_
   refine rw_ev (ev_assign rfl) rfl rfl rfl ?_
   refine rw_nil ?_
   refine nw_seq ?_
   refine cw_ret ?_
   refine ret_post (rs := [.tmp 2]) (vs := [.slice none 0 0]) rfl (.tmp rfl .nil) ?_
   refine ⟨(.slice none 0 0), ?_, K0, ?_⟩
   · show (.slice none 0 0 : Value) = _
     rfl
   · have hl_ : ([] : List Cell) = l := by exact (Sl.nil_eq hv (by assumption)).symm
     rw [← hl_]; exact (Ow.nil _ _ _ _)
  ·
   refine cw_f (b := nilS v) rfl h1 ?_
   refine cw_skip ?_
   refine nw_seq ?_
   refine cw_seq ?_
   refine cw_region ?_
   refine rw_op (op_buildSlice (E := 55) (m := 0) (pv := #[]) (cs := #[]) rfl (fun _ => by kernel_rfl)) rfl rfl rfl ?_
   rintro _ w3 ⟨g2, rfl, hg4, k5, b6⟩
   replace K0 := Ex.trans K0 k5
   replace hv := hv.ex k5
   have zw3 := k5.size
   have lg2 := b6.lt
   refine rw_ev (ev_move rfl) rfl rfl rfl ?_
   have ow7 := Ow.of_empty (B := w.heap.size) (f := encC) (k := 2) b6 hg4
   refine rw_op (op_appn (f := encC) (l := ([] : List Cell)) (r := l) (B := w.heap.size) row_46 plainC ow7 hv rfl rfl (by unfold maxLen; simp only [List.length_nil]; omega) (by simp only [List.length_nil]; omega) zw3) rfl rfl rfl ?_
   rintro v8 w9 ⟨k10, ow11⟩
   replace K0 := Ex.kp_new K0 k10 (fun b h => Nat.le_trans (Nat.le_refl _) (ow7.lt b h).1)
   replace hv := hv.kp k10 (fun b h e => Nat.lt_irrefl _ (Nat.lt_of_lt_of_le (show b < _ from h) (Nat.le_trans (Nat.le_refl _) (ow7.lt b e).1)))
   have zw9 := k10.size
   refine rw_ev (ev_assign rfl) rfl rfl rfl ?_
   refine rw_nil ?_
   refine nw_seq ?_
   refine cw_ret ?_
   refine ret_post (rs := [.tmp 2]) (vs := [v8]) rfl (.tmp rfl .nil) ?_
   refine ⟨v8, ?_, K0, ?_⟩
   · show (v8 : Value) = _
     rfl
   · exact ow11

theorem c_by1 (w : World) (a : Cell) (b : Cell) (g : Nat) (hg : Bx w g 140 #[.func (.func 103) #[] #[]]) : Fn Try.prog 144 [.agg #[.int .i64 a.1, .int .i64 a.2], .agg #[.int .i64 b.1, .int .i64 b.2], .pointer (some ⟨g, 0, none⟩)] w (fun v w' =>  v = .int .i64 (ordC a b) ∧ Ex w w') := by
  have K0 : Ex w w := Kp.refl _ _
  refine fn_enter (n := 10) Try.func144 rfl rfl (Nat.le_of_ble_eq_true rfl) ?_
  show CW _ _ _ _ _ _ [(0, .agg #[.int .i64 a.1, .int .i64 a.2]), (1, .agg #[.int .i64 b.1, .int .i64 b.2]), (2, .pointer (some ⟨g, 0, none⟩))] _
  have lbg := hg.lt
  refine cw_seq ?_
  refine cw_region ?_
  refine rw_op (op_box (v := .agg #[.int .i64 a.1, .int .i64 a.2]) (cs := #[.int .i64 a.1, .int .i64 a.2]) rfl rfl) rfl rfl rfl ?_
  rintro _ w2 ⟨g1, rfl, hg3, k4, b5⟩
  replace K0 := Ex.trans K0 k4
  replace hg := hg.ex k4
  have zw2 := k4.size
  have lg1 := b5.lt
  refine rw_op (op_box (v := .agg #[.int .i64 b.1, .int .i64 b.2]) (cs := #[.int .i64 b.1, .int .i64 b.2]) rfl rfl) rfl rfl rfl ?_
  rintro _ w7 ⟨g6, rfl, hg8, k9, b10⟩
  replace K0 := Ex.trans K0 k9
  replace hg := hg.ex k9
  replace b5 := b5.ex k9
  have zw7 := k9.size
  have lg6 := b10.lt
  refine rw_ev (ev_assign rfl) rfl rfl rfl ?_
  refine rw_nil ?_
  refine nw_seq ?_
  refine cw_seq ?_
  refine cw_region ?_
  refine rw_ev (v := .func (.func 103) #[] #[]) (ev_lb1 (off := 0) (fun _ h => h ▸ hg) rfl one_140 rfl) rfl rfl rfl ?_
  refine rw_ev (v := .agg #[.int .i64 a.1, .int .i64 a.2]) (ev_lbk (off := 0) (vs := [.int .i64 a.1, .int .i64 a.2]) (fun _ h => h ▸ b5) rfl agg_55 rfl rfl) rfl rfl rfl ?_
  refine rw_ev (v := .agg #[.int .i64 b.1, .int .i64 b.2]) (ev_lbk (off := 0) (vs := [.int .i64 b.1, .int .i64 b.2]) (fun _ h => h ▸ b10) rfl agg_55 rfl rfl) rfl rfl rfl ?_
  refine rw_op (op_fnv (xs := [.tmp 7, .tmp 8]) (us := []) (cs := []) ent_103 rfl rfl (c_order w7 a b)) rfl rfl rfl ?_
  rintro _ w11 ⟨rfl, k12, pr13⟩
  replace K0 := Ex.trans K0 k12
  replace hg := hg.ex k12
  replace b5 := b5.ex k12
  replace b10 := b10.ex k12
  have zw11 := k12.size
  refine rw_ev (ev_assign rfl) rfl rfl rfl ?_
  refine rw_nil ?_
  refine nw_seq ?_
  refine cw_ret ?_
  refine ret_post (rs := [.tmp 5]) (vs := [.int .i64 (ordC a b)]) rfl (.tmp rfl .nil) ?_
  refine ⟨?_, K0⟩
  · show (.int .i64 (ordC a b) : Value) = _
    rfl

end Go.Proofs.Ythpaadmpgdglnaa
