/- What the functions of the document on sets compute. No condition. -/
import Derived.Test.YthpaadmpgdglnaaD1
namespace Go.Proofs.Ythpaadmpgdglnaa
open Go Go.RowKit
set_option linter.unusedVariables false
set_option linter.unusedSimpArgs false
set_option maxRecDepth 100000
set_option maxHeartbeats 4000000

theorem c_less (w : World) (a : Cell) (b : Cell) : Fn Try.prog 91 [.agg #[.int .i64 a.1, .int .i64 a.2], .agg #[.int .i64 b.1, .int .i64 b.2]] w (fun v w' =>  v = .bool (ltC a b) ∧ Ex w w') := by
  have K0 : Ex w w := Kp.refl _ _
  refine fn_enter (n := 24) Try.func91 rfl rfl (Nat.le_of_ble_eq_true rfl) ?_
  show CW _ _ _ _ _ _ [(0, .agg #[.int .i64 a.1, .int .i64 a.2]), (1, .agg #[.int .i64 b.1, .int .i64 b.2])] _
  refine cw_seq ?_
  refine cw_region ?_
  refine rw_op (op_box (v := .agg #[.int .i64 a.1, .int .i64 a.2]) (cs := #[.int .i64 a.1, .int .i64 a.2]) rfl rfl) rfl rfl rfl ?_
  rintro _ w2 ⟨g1, rfl, hg3, k4, b5⟩
  replace K0 := Ex.trans K0 k4
  have zw2 := k4.size
  have lg1 := b5.lt
  refine rw_op (op_box (v := .agg #[.int .i64 b.1, .int .i64 b.2]) (cs := #[.int .i64 b.1, .int .i64 b.2]) rfl rfl) rfl rfl rfl ?_
  rintro _ w7 ⟨g6, rfl, hg8, k9, b10⟩
  replace K0 := Ex.trans K0 k9
  replace b5 := b5.ex k9
  have zw7 := k9.size
  have lg6 := b10.lt
  refine rw_ev (ev_assign rfl) rfl rfl rfl ?_
  refine rw_nil ?_
  refine nw_seq ?_
  refine cw_seq ?_
  refine cw_region ?_
  refine rw_ev (v := .pointer (some ⟨g1, 1, none⟩)) (ev_field (o := 1) rfl foff_55_1) rfl rfl rfl ?_
  refine rw_ev (v := .int .i64 a.2) (ev_lb1 (off := 1) (fun _ h => h ▸ b5) rfl one_3 rfl) rfl rfl rfl ?_
  refine rw_ev (v := .pointer (some ⟨g6, 1, none⟩)) (ev_field (o := 1) rfl foff_55_1) rfl rfl rfl ?_
  refine rw_ev (v := .int .i64 b.2) (ev_lb1 (off := 1) (fun _ h => h ▸ b10) rfl one_3 rfl) rfl rfl rfl ?_
  refine rw_ev (ev_lss rfl rfl) rfl rfl rfl ?_
  refine rw_ev (ev_move rfl) rfl rfl rfl ?_
  by_cases h11 : a.2 < b.2
  ·
   refine rw_skip (gd_ft rfl (dec_t h11)) rfl rfl ?_
   refine rw_skip (gd_ft rfl (dec_t h11)) rfl rfl ?_
   refine rw_skip (gd_ft rfl (dec_t h11)) rfl rfl ?_
   refine rw_skip (gd_ft rfl (dec_t h11)) rfl rfl ?_
   refine rw_skip (gd_ft rfl (dec_t h11)) rfl rfl ?_
   refine rw_skip (gd_ft rfl (dec_t h11)) rfl rfl ?_
   refine rw_skip rfl rfl rfl ?_
   refine rw_skip rfl rfl rfl ?_
   refine rw_skip rfl rfl rfl ?_
   refine rw_skip rfl rfl rfl ?_
   refine rw_skip rfl rfl rfl ?_
   refine rw_skip (gd_ft rfl (dec_t h11)) rfl rfl ?_
   refine rw_ev (ev_pk_t rfl (dec_t h11) rfl) rfl rfl rfl ?_
   refine rw_ev (ev_assign rfl) rfl rfl rfl ?_
   refine rw_nil ?_
   refine nw_seq ?_
   refine cw_ret ?_
   refine ret_post (rs := [.tmp 4]) (vs := [.bool true]) rfl (.tmp rfl .nil) ?_
   refine ⟨?_, K0⟩
   · show (.bool true : Value) = _
     simp [ltC, *]
  ·
   refine rw_ev (v := .pointer (some ⟨g1, 1, none⟩)) (ev_field (o := 1) rfl foff_55_1) (gd_ff rfl (dec_f h11)) rfl rfl ?_
   refine rw_ev (v := .int .i64 a.2) (ev_lb1 (off := 1) (fun _ h => h ▸ b5) rfl one_3 rfl) (gd_ff rfl (dec_f h11)) rfl rfl ?_
   refine rw_ev (v := .pointer (some ⟨g6, 1, none⟩)) (ev_field (o := 1) rfl foff_55_1) (gd_ff rfl (dec_f h11)) rfl rfl ?_
   refine rw_ev (v := .int .i64 b.2) (ev_lb1 (off := 1) (fun _ h => h ▸ b10) rfl one_3 rfl) (gd_ff rfl (dec_f h11)) rfl rfl ?_
   refine rw_ev (ev_eq rfl rfl) (gd_ff rfl (dec_f h11)) rfl rfl ?_
   refine rw_ev (ev_move rfl) (gd_ff rfl (dec_f h11)) rfl rfl ?_
   by_cases h12 : a.2 = b.2
   ·
    refine rw_ev (v := .pointer (some ⟨g1, 0, none⟩)) (ev_field (o := 0) rfl foff_55_0) (gd_tt rfl (dec_t h12)) rfl rfl ?_
    refine rw_ev (v := .int .i64 a.1) (ev_lb1 (off := 0) (fun _ h => h ▸ b5) rfl one_3 rfl) (gd_tt rfl (dec_t h12)) rfl rfl ?_
    refine rw_ev (v := .pointer (some ⟨g6, 0, none⟩)) (ev_field (o := 0) rfl foff_55_0) (gd_tt rfl (dec_t h12)) rfl rfl ?_
    refine rw_ev (v := .int .i64 b.1) (ev_lb1 (off := 0) (fun _ h => h ▸ b10) rfl one_3 rfl) (gd_tt rfl (dec_t h12)) rfl rfl ?_
    refine rw_ev (ev_lss rfl rfl) (gd_tt rfl (dec_t h12)) rfl rfl ?_
    refine rw_ev (ev_pk_t rfl (dec_t h12) rfl) (gd_ff rfl (dec_f h11)) rfl rfl ?_
    refine rw_ev (ev_pk_f rfl (dec_f h11) rfl) rfl rfl rfl ?_
    refine rw_ev (ev_assign rfl) rfl rfl rfl ?_
    refine rw_nil ?_
    refine nw_seq ?_
    refine cw_ret ?_
    refine ret_post (rs := [.tmp 4]) (vs := [.bool (decide (a.1 < b.1))]) rfl (.tmp rfl .nil) ?_
    refine ⟨?_, K0⟩
    · show (.bool (decide (a.1 < b.1)) : Value) = _
      simp [ltC, *]
   ·
    refine rw_skip (gd_tf rfl (dec_f h12)) rfl rfl ?_
    refine rw_skip (gd_tf rfl (dec_f h12)) rfl rfl ?_
    refine rw_skip (gd_tf rfl (dec_f h12)) rfl rfl ?_
    refine rw_skip (gd_tf rfl (dec_f h12)) rfl rfl ?_
    refine rw_skip (gd_tf rfl (dec_f h12)) rfl rfl ?_
    refine rw_ev (ev_pk_f rfl (dec_f h12) rfl) (gd_ff rfl (dec_f h11)) rfl rfl ?_
    refine rw_ev (ev_pk_f rfl (dec_f h11) rfl) rfl rfl rfl ?_
    refine rw_ev (ev_assign rfl) rfl rfl rfl ?_
    refine rw_nil ?_
    refine nw_seq ?_
    refine cw_ret ?_
    refine ret_post (rs := [.tmp 4]) (vs := [.bool false]) rfl (.tmp rfl .nil) ?_
    refine ⟨?_, K0⟩
    · show (.bool false : Value) = _
      simp [ltC, *]

theorem c_in (w : World) (c : Cell) : Fn Try.prog 89 [.agg #[.int .i64 c.1, .int .i64 c.2]] w (fun v w' =>  v = .bool (inC c) ∧ Ex w w') := by
  have K0 : Ex w w := Kp.refl _ _
  refine fn_enter (n := 21) Try.func89 rfl rfl (Nat.le_of_ble_eq_true rfl) ?_
  show CW _ _ _ _ _ _ [(0, .agg #[.int .i64 c.1, .int .i64 c.2])] _
  refine cw_seq ?_
  refine cw_region ?_
  refine rw_op (op_box (v := .agg #[.int .i64 c.1, .int .i64 c.2]) (cs := #[.int .i64 c.1, .int .i64 c.2]) rfl rfl) rfl rfl rfl ?_
  rintro _ w2 ⟨g1, rfl, hg3, k4, b5⟩
  replace K0 := Ex.trans K0 k4
  have zw2 := k4.size
  have lg1 := b5.lt
  refine rw_ev (ev_assign rfl) rfl rfl rfl ?_
  refine rw_nil ?_
  refine nw_seq ?_
  refine cw_seq ?_
  refine cw_region ?_
  refine rw_ev (v := .pointer (some ⟨g1, 0, none⟩)) (ev_field (o := 0) rfl foff_55_0) rfl rfl rfl ?_
  refine rw_ev (v := .int .i64 c.1) (ev_lb1 (off := 0) (fun _ h => h ▸ b5) rfl one_3 rfl) rfl rfl rfl ?_
  refine rw_ev (ev_geq rfl rfl) rfl rfl rfl ?_
  refine rw_ev (ev_move rfl) rfl rfl rfl ?_
  by_cases h6 : (-1099511627776) ≤ c.1
  ·
   refine rw_ev (v := .pointer (some ⟨g1, 0, none⟩)) (ev_field (o := 0) rfl foff_55_0) (gd_tt rfl (dec_t h6)) rfl rfl ?_
   refine rw_ev (v := .int .i64 c.1) (ev_lb1 (off := 0) (fun _ h => h ▸ b5) rfl one_3 rfl) (gd_tt rfl (dec_t h6)) rfl rfl ?_
   refine rw_ev (ev_leq rfl rfl) (gd_tt rfl (dec_t h6)) rfl rfl ?_
   refine rw_ev (ev_pk_t rfl (dec_t h6) rfl) rfl rfl rfl ?_
   refine rw_ev (ev_move rfl) rfl rfl rfl ?_
   by_cases h7 : c.1 ≤ 1099511627776
   ·
    refine rw_ev (v := .pointer (some ⟨g1, 1, none⟩)) (ev_field (o := 1) rfl foff_55_1) (gd_tt rfl (dec_t h7)) rfl rfl ?_
    refine rw_ev (v := .int .i64 c.2) (ev_lb1 (off := 1) (fun _ h => h ▸ b5) rfl one_3 rfl) (gd_tt rfl (dec_t h7)) rfl rfl ?_
    refine rw_ev (ev_geq rfl rfl) (gd_tt rfl (dec_t h7)) rfl rfl ?_
    refine rw_ev (ev_pk_t rfl (dec_t h7) rfl) rfl rfl rfl ?_
    refine rw_ev (ev_move rfl) rfl rfl rfl ?_
    by_cases h8 : (-1099511627776) ≤ c.2
    ·
     refine rw_ev (v := .pointer (some ⟨g1, 1, none⟩)) (ev_field (o := 1) rfl foff_55_1) (gd_tt rfl (dec_t h8)) rfl rfl ?_
     refine rw_ev (v := .int .i64 c.2) (ev_lb1 (off := 1) (fun _ h => h ▸ b5) rfl one_3 rfl) (gd_tt rfl (dec_t h8)) rfl rfl ?_
     refine rw_ev (ev_leq rfl rfl) (gd_tt rfl (dec_t h8)) rfl rfl ?_
     refine rw_ev (ev_pk_t rfl (dec_t h8) rfl) rfl rfl rfl ?_
     refine rw_ev (ev_assign rfl) rfl rfl rfl ?_
     refine rw_nil ?_
     refine nw_seq ?_
     refine cw_ret ?_
     refine ret_post (rs := [.tmp 2]) (vs := [.bool (decide (c.2 ≤ 1099511627776))]) rfl (.tmp rfl .nil) ?_
     refine ⟨?_, K0⟩
     · show (.bool (decide (c.2 ≤ 1099511627776)) : Value) = _
       simp [inC, *]
    ·
     refine rw_skip (gd_tf rfl (dec_f h8)) rfl rfl ?_
     refine rw_skip (gd_tf rfl (dec_f h8)) rfl rfl ?_
     refine rw_skip (gd_tf rfl (dec_f h8)) rfl rfl ?_
     refine rw_ev (ev_pk_f rfl (dec_f h8) rfl) rfl rfl rfl ?_
     refine rw_ev (ev_assign rfl) rfl rfl rfl ?_
     refine rw_nil ?_
     refine nw_seq ?_
     refine cw_ret ?_
     refine ret_post (rs := [.tmp 2]) (vs := [.bool false]) rfl (.tmp rfl .nil) ?_
     refine ⟨?_, K0⟩
     · show (.bool false : Value) = _
       simp [inC, *]
   ·
    refine rw_skip (gd_tf rfl (dec_f h7)) rfl rfl ?_
    refine rw_skip (gd_tf rfl (dec_f h7)) rfl rfl ?_
    refine rw_skip (gd_tf rfl (dec_f h7)) rfl rfl ?_
    refine rw_ev (ev_pk_f rfl (dec_f h7) rfl) rfl rfl rfl ?_
    refine rw_ev (ev_move rfl) rfl rfl rfl ?_
    refine rw_skip rfl rfl rfl ?_
    refine rw_skip rfl rfl rfl ?_
    refine rw_skip rfl rfl rfl ?_
    refine rw_ev (ev_pk_f rfl rfl rfl) rfl rfl rfl ?_
    refine rw_ev (ev_assign rfl) rfl rfl rfl ?_
    refine rw_nil ?_
    refine nw_seq ?_
    refine cw_ret ?_
    refine ret_post (rs := [.tmp 2]) (vs := [.bool false]) rfl (.tmp rfl .nil) ?_
    refine ⟨?_, K0⟩
    · show (.bool false : Value) = _
      simp [inC, *]
  ·
   refine rw_skip (gd_tf rfl (dec_f h6)) rfl rfl ?_
   refine rw_skip (gd_tf rfl (dec_f h6)) rfl rfl ?_
   refine rw_skip (gd_tf rfl (dec_f h6)) rfl rfl ?_
   refine rw_ev (ev_pk_f rfl (dec_f h6) rfl) rfl rfl rfl ?_
   refine rw_ev (ev_move rfl) rfl rfl rfl ?_
   refine rw_skip rfl rfl rfl ?_
   refine rw_skip rfl rfl rfl ?_
   refine rw_skip rfl rfl rfl ?_
   refine rw_ev (ev_pk_f rfl rfl rfl) rfl rfl rfl ?_
   refine rw_ev (ev_move rfl) rfl rfl rfl ?_
   refine rw_skip rfl rfl rfl ?_
   refine rw_skip rfl rfl rfl ?_
   refine rw_skip rfl rfl rfl ?_
   refine rw_ev (ev_pk_f rfl rfl rfl) rfl rfl rfl ?_
   refine rw_ev (ev_assign rfl) rfl rfl rfl ?_
   refine rw_nil ?_
   refine nw_seq ?_
   refine cw_ret ?_
   refine ret_post (rs := [.tmp 2]) (vs := [.bool false]) rfl (.tmp rfl .nil) ?_
   refine ⟨?_, K0⟩
   · show (.bool false : Value) = _
     simp [inC, *]

theorem c_has (w : World) (v : Value) (l : List Cell) (hv : Sl w (fun b => b < w.heap.size) v 2 (l.map encC)) (c : Cell) : Fn Try.prog 55 [v, .agg #[.int .i64 c.1, .int .i64 c.2]] w (fun v w' =>  v = .bool (hasC l c) ∧ Ex w w') := by
  have K0 : Ex w w := Kp.refl _ _
  refine fn_enter (n := 18) Try.func55 rfl rfl (Nat.le_of_ble_eq_true rfl) ?_
  show CW _ _ _ _ _ _ [(0, v), (1, .agg #[.int .i64 c.1, .int .i64 c.2])] _
  have hlv_ := hv.lenm
  refine cw_seq ?_
  refine cw_region ?_
  refine rw_op (op_box (v := .agg #[.int .i64 c.1, .int .i64 c.2]) (cs := #[.int .i64 c.1, .int .i64 c.2]) rfl rfl) rfl rfl rfl ?_
  rintro _ w2 ⟨g1, rfl, hg3, k4, b5⟩
  replace K0 := Ex.trans K0 k4
  replace hv := hv.ex k4
  have zw2 := k4.size
  have lg1 := b5.lt
  refine rw_ev (ev_assign rfl) rfl rfl rfl ?_
  refine rw_nil ?_
  refine nw_seq ?_
  refine cw_seq ?_
  refine cw_seq ?_
  refine cw_region ?_
  refine rw_ev (ev_assign rfl) rfl rfl rfl ?_
  refine rw_nil ?_
  refine nw_seq ?_
  refine cw_block ?_
  refine cw_loop (σ := Nat) (fun i => [(0, v), (3, .pointer (some ⟨g1, 0, none⟩)), (4, .bool false), (5, .int .i64 (i : Int))]) (fun i wr => Ex w wr ∧ w2.heap.size ≤ wr.heap.size ∧ Sl wr (fun b => b < w.heap.size) v 2 (l.map encC) ∧ Bx wr g1 55 #[.int .i64 c.1, .int .i64 c.2] ∧ hasC (l.take i) c = false) (fun i => l.length - i) 0 (Sub.cons rfl (Sub.cons rfl (Sub.cons rfl (Sub.int (b := (0 : Int)) rfl (by omega) Sub.nil)))) ⟨K0, (Nat.le_refl _), hv, b5, (by simp [hasC])⟩ ?_
  rintro i w6 ⟨K0, z7, f8, f9, pr10⟩
  show CW _ _ _ _ _ _ [(0, v), (3, .pointer (some ⟨g1, 0, none⟩)), (4, .bool false), (5, .int .i64 (i : Int))] _
  refine cw_seq ?_
  refine cw_seq ?_
  refine cw_region ?_
  refine rw_ev (ev_move rfl) rfl rfl rfl ?_
  refine rw_ev (ev_move rfl) rfl rfl rfl ?_
  refine rw_ev (v := .int .i64 (l.length : Int)) (ev_lenm (l := l) ⟨_, f8⟩ rfl el_46 rfl) rfl rfl rfl ?_
  refine rw_ev (ev_lss rfl rfl) rfl rfl rfl ?_
  refine rw_nil ?_
  refine nw_seq ?_
  by_cases h11 : (i : Int) < (l.length : Int)
  ·
   refine cw_t (b := decide ((i : Int) < (l.length : Int))) rfl (dec_t h11) ?_
   refine cw_skip ?_
   refine nw_seq ?_
   refine cw_seq ?_
   refine cw_block ?_
   refine cw_seq ?_
   refine cw_drawn (fun w12 w_ => Ex w12 w_) [] (.take 0 (.take 1 (.take 2 (.take 3 (.take 4 (.take 5 .done)))))) mixed (by kernel_rfl) (by kernel_rfl) (Nat.le_of_ble_eq_true (by kernel_rfl)) ?_; intro w12 k13 hs_
   replace K0 := Ex.trans K0 k13
   replace f8 := f8.ex k13
   replace f9 := f9.ex k13
   have zw12 := k13.size
   have hS : (fun w_ => Ex w12 w_) w12 := Kp.refl _ _
   refine rp_take hs_ hS rfl rfl (ev_move rfl) rfl rfl rfl ?_
   refine rp_take hs_ hS rfl rfl (ev_move rfl) rfl rfl rfl ?_
   obtain ⟨c14, hc15⟩ := get_of (l := l) (i := i) (by omega)
   refine rp_take (v := elemPtr v i 2 0) hs_ hS rfl rfl (ev_slAt (i := (i : Int)) ⟨_, (f8.ex hS)⟩ rfl rfl el_46 (idx_ok (i := (i : Int)) hc15 (by omega))) rfl rfl rfl ?_
   refine rp_take (v := .agg #[.int .i64 c14.1, .int .i64 c14.2]) hs_ hS rfl rfl (ev_elLoadk (us := [.int .i64 c14.1, .int .i64 c14.2]) (fun _ h => (f8.ex h)) ⟨_, hS⟩ rfl (get_enc hc15) agg_55 (by decide) rfl rfl) rfl rfl rfl ?_
   refine rp_take (v := .agg #[.int .i64 c.1, .int .i64 c.2]) hs_ hS rfl rfl (ev_lbk (off := 0) (vs := [.int .i64 c.1, .int .i64 c.2]) (fun _ h => f9.ex h) rfl agg_55 rfl rfl) rfl rfl rfl ?_
   refine rp_take hs_ hS rfl rfl (ev_eql_55 rfl rfl) rfl rfl rfl ?_
   refine rp_done ?_
   clear hs_
   refine nw_seq ?_
   by_cases h16 : (c14 : Cell) = c
   ·
    refine cw_t (b := decide ((c14 : Cell) = c)) rfl (dec_t h16) ?_
    refine cw_seq ?_
    refine cw_region ?_
    refine rw_ev (ev_assign rfl) rfl rfl rfl ?_
    refine rw_nil ?_
    refine nw_seq ?_
    refine cw_ret ?_
    refine ret_post (rs := [.tmp 4]) (vs := [.bool true]) rfl (.tmp rfl .nil) ?_
    refine ⟨?_, K0⟩
    · show (.bool true : Value) = _
      exact congrArg Value.bool (Eq.symm (any_stop (by assumption : l[i]? = some _) (by simp [*])))
   ·
    refine cw_f (b := decide ((c14 : Cell) = c)) rfl (dec_f h16) ?_
    refine cw_skip ?_
    refine nw_block ?_
    refine nw_seq ?_
    refine cw_region ?_
    refine rw_ev (ev_move rfl) rfl rfl rfl ?_
    refine rw_ev (ev_add rfl rfl (by omega)) rfl rfl rfl ?_
    refine rw_ev (ev_assign rfl) rfl rfl rfl ?_
    refine rw_nil ?_
    exact nw_round (i + 1) (Sub.cons rfl (Sub.cons rfl (Sub.cons rfl (Sub.int (b := ((i + 1) : Int)) rfl (by omega) Sub.nil)))) ⟨K0, (Nat.le_trans z7 zw12), f8, f9, (by have hs := any_succ (p := fun x => decide (x = c)) (by assumption : l[i]? = some _); simp_all [hasC])⟩ (by first | omega | (dsimp only; omega))
  ·
   refine cw_f (b := decide ((i : Int) < (l.length : Int))) rfl (dec_f h11) ?_
   refine cw_exit ?_
   refine xw_seq ?_
   refine xw_goal ?_
   refine xw_hit ?_
   refine nw_seq ?_
   refine cw_seq ?_
   refine cw_region ?_
   refine rw_ev (ev_assign rfl) rfl rfl rfl ?_
   refine rw_nil ?_
   refine nw_seq ?_
   refine cw_ret ?_
   refine ret_post (rs := [.tmp 4]) (vs := [.bool false]) rfl (.tmp rfl .nil) ?_
   refine ⟨?_, K0⟩
   · show (.bool false : Value) = _
     have ht := take_all (by assumption : ¬ (i : Int) < l.length); simp_all

theorem c_same (w : World) (v : Value) (l : List Cell) (hv : Sl w (fun b => b < w.heap.size) v 2 (l.map encC)) (u : Value) (m : List Cell) (hu : Sl w (fun b => b < w.heap.size) u 2 (m.map encC)) : Fn Try.prog 37 [v, u] w (fun v w' =>  v = .bool (sameC l m) ∧ Ex w w') := by
  have K0 : Ex w w := Kp.refl _ _
  refine fn_enter (n := 26) Try.func37 rfl rfl (Nat.le_of_ble_eq_true rfl) ?_
  show CW _ _ _ _ _ _ [(0, v), (1, u)] _
  have hlv_ := hv.lenm
  have hlu_ := hu.lenm
  refine cw_seq ?_
  refine cw_region ?_
  refine rw_ev (ev_assign rfl) rfl rfl rfl ?_
  refine rw_nil ?_
  refine nw_seq ?_
  refine cw_seq ?_
  refine cw_seq ?_
  refine cw_region ?_
  refine rw_ev (ev_move rfl) rfl rfl rfl ?_
  refine rw_ev (v := .int .i64 (l.length : Int)) (ev_lenm (l := l) ⟨_, hv⟩ rfl el_46 rfl) rfl rfl rfl ?_
  refine rw_ev (ev_move rfl) rfl rfl rfl ?_
  refine rw_ev (v := .int .i64 (m.length : Int)) (ev_lenm (l := m) ⟨_, hu⟩ rfl el_46 rfl) rfl rfl rfl ?_
  refine rw_ev (ev_ne rfl rfl) rfl rfl rfl ?_
  refine rw_nil ?_
  refine nw_seq ?_
  by_cases h1 : (l.length : Int) ≠ (m.length : Int)
  ·
   refine cw_t (b := decide ((l.length : Int) ≠ (m.length : Int))) rfl (dec_t h1) ?_
   refine cw_seq ?_
   refine cw_region ?_
   refine rw_ev (ev_assign rfl) rfl rfl rfl ?_
   refine rw_nil ?_
   refine nw_seq ?_
   refine cw_ret ?_
   refine ret_post (rs := [.tmp 4]) (vs := [.bool false]) rfl (.tmp rfl .nil) ?_
   refine ⟨?_, K0⟩
   · show (.bool false : Value) = _
     refine congrArg Value.bool (Eq.symm (decide_eq_false ?_)); rintro rfl; simp_all
  ·
   refine cw_f (b := decide ((l.length : Int) ≠ (m.length : Int))) rfl (dec_f h1) ?_
   refine cw_skip ?_
   refine nw_seq ?_
   refine cw_seq ?_
   refine cw_seq ?_
   refine cw_region ?_
   refine rw_ev (ev_assign rfl) rfl rfl rfl ?_
   refine rw_nil ?_
   refine nw_seq ?_
   refine cw_block ?_
   refine cw_loop (σ := Nat) (fun i => [(0, v), (1, u), (4, .bool false), (5, .int .i64 (i : Int))]) (fun i wr => Ex w wr ∧ w.heap.size ≤ wr.heap.size ∧ Sl wr (fun b => b < w.heap.size) v 2 (l.map encC) ∧ Sl wr (fun b => b < w.heap.size) u 2 (m.map encC) ∧ l.take i = m.take i) (fun i => l.length - i) 0 (Sub.cons rfl (Sub.cons rfl (Sub.cons rfl (Sub.int (b := (0 : Int)) rfl (by omega) Sub.nil)))) ⟨K0, (Nat.le_refl _), hv, hu, (by simp)⟩ ?_
   rintro i w2 ⟨K0, z3, f4, f5, pr6⟩
   show CW _ _ _ _ _ _ [(0, v), (1, u), (4, .bool false), (5, .int .i64 (i : Int))] _
   refine cw_seq ?_
   refine cw_seq ?_
   refine cw_region ?_
   refine rw_ev (ev_move rfl) rfl rfl rfl ?_
   refine rw_ev (ev_move rfl) rfl rfl rfl ?_
   refine rw_ev (v := .int .i64 (l.length : Int)) (ev_lenm (l := l) ⟨_, f4⟩ rfl el_46 rfl) rfl rfl rfl ?_
   refine rw_ev (ev_lss rfl rfl) rfl rfl rfl ?_
   refine rw_nil ?_
   refine nw_seq ?_
   by_cases h7 : (i : Int) < (l.length : Int)
   ·
    refine cw_t (b := decide ((i : Int) < (l.length : Int))) rfl (dec_t h7) ?_
    refine cw_skip ?_
    refine nw_seq ?_
    refine cw_seq ?_
    refine cw_block ?_
    refine cw_seq ?_
    refine cw_drawn (fun w8 w_ => Ex w8 w_) [] (.take 0 (.take 1 (.take 2 (.take 3 (.take 4 (.take 5 (.take 6 (.take 7 (.take 8 .done))))))))) mixed (by kernel_rfl) (by kernel_rfl) (Nat.le_of_ble_eq_true (by kernel_rfl)) ?_; intro w8 k9 hs_
    replace K0 := Ex.trans K0 k9
    replace f4 := f4.ex k9
    replace f5 := f5.ex k9
    have zw8 := k9.size
    have hS : (fun w_ => Ex w8 w_) w8 := Kp.refl _ _
    refine rp_take hs_ hS rfl rfl (ev_move rfl) rfl rfl rfl ?_
    refine rp_take hs_ hS rfl rfl (ev_move rfl) rfl rfl rfl ?_
    obtain ⟨c10, hc11⟩ := get_of (l := l) (i := i) (by omega)
    refine rp_take (v := elemPtr v i 2 0) hs_ hS rfl rfl (ev_slAt (i := (i : Int)) ⟨_, (f4.ex hS)⟩ rfl rfl el_46 (idx_ok (i := (i : Int)) hc11 (by omega))) rfl rfl rfl ?_
    refine rp_take (v := .agg #[.int .i64 c10.1, .int .i64 c10.2]) hs_ hS rfl rfl (ev_elLoadk (us := [.int .i64 c10.1, .int .i64 c10.2]) (fun _ h => (f4.ex h)) ⟨_, hS⟩ rfl (get_enc hc11) agg_55 (by decide) rfl rfl) rfl rfl rfl ?_
    refine rp_take hs_ hS rfl rfl (ev_move rfl) rfl rfl rfl ?_
    refine rp_take hs_ hS rfl rfl (ev_move rfl) rfl rfl rfl ?_
    obtain ⟨c12, hc13⟩ := get_of (l := m) (i := i) (by omega)
    refine rp_take (v := elemPtr u i 2 0) hs_ hS rfl rfl (ev_slAt (i := (i : Int)) ⟨_, (f5.ex hS)⟩ rfl rfl el_46 (idx_ok (i := (i : Int)) hc13 (by omega))) rfl rfl rfl ?_
    refine rp_take (v := .agg #[.int .i64 c12.1, .int .i64 c12.2]) hs_ hS rfl rfl (ev_elLoadk (us := [.int .i64 c12.1, .int .i64 c12.2]) (fun _ h => (f5.ex h)) ⟨_, hS⟩ rfl (get_enc hc13) agg_55 (by decide) rfl rfl) rfl rfl rfl ?_
    refine rp_take hs_ hS rfl rfl (ev_neq_55 rfl rfl) rfl rfl rfl ?_
    refine rp_done ?_
    clear hs_
    refine nw_seq ?_
    by_cases h14 : (c10 : Cell) ≠ c12
    ·
     refine cw_t (b := decide ((c10 : Cell) ≠ c12)) rfl (dec_t h14) ?_
     refine cw_seq ?_
     refine cw_region ?_
     refine rw_ev (ev_assign rfl) rfl rfl rfl ?_
     refine rw_nil ?_
     refine nw_seq ?_
     refine cw_ret ?_
     refine ret_post (rs := [.tmp 4]) (vs := [.bool false]) rfl (.tmp rfl .nil) ?_
     refine ⟨?_, K0⟩
     · show (.bool false : Value) = _
       refine congrArg Value.bool (Eq.symm (decide_eq_false ?_)); rintro rfl; simp_all
    ·
     refine cw_f (b := decide ((c10 : Cell) ≠ c12)) rfl (dec_f h14) ?_
     refine cw_skip ?_
     refine nw_block ?_
     refine nw_seq ?_
     refine cw_region ?_
     refine rw_ev (ev_move rfl) rfl rfl rfl ?_
     refine rw_ev (ev_add rfl rfl (by omega)) rfl rfl rfl ?_
     refine rw_ev (ev_assign rfl) rfl rfl rfl ?_
     refine rw_nil ?_
     exact nw_round (i + 1) (Sub.cons rfl (Sub.cons rfl (Sub.cons rfl (Sub.int (b := ((i + 1) : Int)) rfl (by omega) Sub.nil)))) ⟨K0, (Nat.le_trans z3 zw8), f4, f5, (by rw [List.take_add_one, List.take_add_one]; simp_all)⟩ (by first | omega | (dsimp only; omega))
   ·
    refine cw_f (b := decide ((i : Int) < (l.length : Int))) rfl (dec_f h7) ?_
    refine cw_exit ?_
    refine xw_seq ?_
    refine xw_goal ?_
    refine xw_hit ?_
    refine nw_seq ?_
    refine cw_seq ?_
    refine cw_region ?_
    refine rw_ev (ev_assign rfl) rfl rfl rfl ?_
    refine rw_nil ?_
    refine nw_seq ?_
    refine cw_ret ?_
    refine ret_post (rs := [.tmp 4]) (vs := [.bool true]) rfl (.tmp rfl .nil) ?_
    refine ⟨?_, K0⟩
    · show (.bool true : Value) = _
      have ht := take_all (by assumption : ¬ (i : Int) < l.length); have ht2 := take_all (l := m) (i := i) (by omega); simp_all [sameC]

theorem c_right (w : World) (v : Value) (l : List Cell) (hv : Sl w (fun b => b < w.heap.size) v 2 (l.map encC)) : Fn Try.prog 54 [v] w (fun v w' =>  v = .bool (rightC l) ∧ Ex w w') := by
  have K0 : Ex w w := Kp.refl _ _
  refine fn_enter (n := 36) Try.func54 rfl rfl (Nat.le_of_ble_eq_true rfl) ?_
  show CW _ _ _ _ _ _ [(0, v)] _
  have hlv_ := hv.lenm
  refine cw_seq ?_
  refine cw_region ?_
  refine rw_ev (ev_assign rfl) rfl rfl rfl ?_
  refine rw_nil ?_
  refine nw_seq ?_
  refine cw_seq ?_
  refine cw_seq ?_
  refine cw_region ?_
  refine rw_ev (ev_assign rfl) rfl rfl rfl ?_
  refine rw_nil ?_
  refine nw_seq ?_
  refine cw_block ?_
  refine cw_loop (σ := Nat) (fun i => [(0, v), (2, .bool false), (3, .int .i64 (i : Int))]) (fun i wr => Ex w wr ∧ w.heap.size ≤ wr.heap.size ∧ Sl wr (fun b => b < w.heap.size) v 2 (l.map encC) ∧ (List.range i).all (okAt l) = true ∧ i ≤ l.length) (fun i => l.length - i) 0 (Sub.cons rfl (Sub.cons rfl (Sub.int (b := (0 : Int)) rfl (by omega) Sub.nil))) ⟨K0, (Nat.le_refl _), hv, (by first | omega | rfl), (by first | omega | rfl)⟩ ?_
  rintro i w1 ⟨K0, z2, f3, pr4, pr5⟩
  show CW _ _ _ _ _ _ [(0, v), (2, .bool false), (3, .int .i64 (i : Int))] _
  refine cw_seq ?_
  refine cw_seq ?_
  refine cw_region ?_
  refine rw_ev (ev_move rfl) rfl rfl rfl ?_
  refine rw_ev (ev_move rfl) rfl rfl rfl ?_
  refine rw_ev (v := .int .i64 (l.length : Int)) (ev_lenm (l := l) ⟨_, f3⟩ rfl el_46 rfl) rfl rfl rfl ?_
  refine rw_ev (ev_lss rfl rfl) rfl rfl rfl ?_
  refine rw_nil ?_
  refine nw_seq ?_
  by_cases h6 : (i : Int) < (l.length : Int)
  ·
   refine cw_t (b := decide ((i : Int) < (l.length : Int))) rfl (dec_t h6) ?_
   refine cw_skip ?_
   refine nw_seq ?_
   refine cw_seq ?_
   refine cw_block ?_
   refine cw_seq ?_
   refine cw_drawn (fun w7 w_ => Ex w7 w_) [] (.take 0 (.take 1 (.take 2 (.take 3 (.one 4 (.take 5 (.take 6 (.take 7 (.take 8 (.take 9 (.take 10 (.take 11 (.take 12 (.take 13 (.take 14 (.take 15 (.take 16 (.take 17 (.take 18 (.one 19 (.take 20 (.take 21 (.take 22 .done))))))))))))))))))))))) mixed (by kernel_rfl) (by kernel_rfl) (Nat.le_of_ble_eq_true (by kernel_rfl)) ?_; intro w7 k8 hs_
   replace K0 := Ex.trans K0 k8
   replace f3 := f3.ex k8
   have zw7 := k8.size
   have hS : (fun w_ => Ex w7 w_) w7 := Kp.refl _ _
   refine rp_take hs_ hS rfl rfl (ev_move rfl) rfl rfl rfl ?_
   refine rp_take hs_ hS rfl rfl (ev_move rfl) rfl rfl rfl ?_
   obtain ⟨c9, hc10⟩ := get_of (l := l) (i := i) (by omega)
   refine rp_take (v := elemPtr v i 2 0) hs_ hS rfl rfl (ev_slAt (i := (i : Int)) ⟨_, (f3.ex hS)⟩ rfl rfl el_46 (idx_ok (i := (i : Int)) hc10 (by omega))) rfl rfl rfl ?_
   refine rp_take (v := .agg #[.int .i64 c9.1, .int .i64 c9.2]) hs_ hS rfl rfl (ev_elLoadk (us := [.int .i64 c9.1, .int .i64 c9.2]) (fun _ h => (f3.ex h)) ⟨_, hS⟩ rfl (get_enc hc10) agg_55 (by decide) rfl rfl) rfl rfl rfl ?_
   refine rp_up (up_op rfl (op_fn (xs := [.tmp 13]) ent_89 rfl (c_in w7 c9)) rfl rfl rfl ?_)
   rintro _ w11 ⟨rfl, k12⟩
   replace K0 := Ex.trans K0 k12
   replace hS := Ex.trans hS k12
   have zw11 := k12.size
   refine ⟨(fun _ => hS), ?_⟩
   refine rp_take hs_ hS rfl rfl (ev_not rfl rfl) rfl rfl rfl ?_
   refine rp_take hs_ hS rfl rfl (ev_move rfl) rfl rfl rfl ?_
   rcases Bool.eq_false_or_eq_true (inC c9) with h13 | h13
   ·
    refine rp_take hs_ hS rfl rfl (ev_move rfl) (gd_ff rfl (not_f h13)) rfl rfl ?_
    refine rp_take hs_ hS rfl rfl (ev_gtr rfl rfl) (gd_ff rfl (not_f h13)) rfl rfl ?_
    refine rp_take hs_ hS rfl rfl (ev_move rfl) (gd_ff rfl (not_f h13)) rfl rfl ?_
    by_cases h14 : (0 : Int) < (i : Int)
    ·
     refine rp_take hs_ hS rfl rfl (ev_move rfl) (gd_tt rfl (dec_t h14)) rfl rfl ?_
     refine rp_take hs_ hS rfl rfl (ev_move rfl) (gd_tt rfl (dec_t h14)) rfl rfl ?_
     refine rp_take hs_ hS rfl rfl (ev_sub rfl rfl (by omega)) (gd_tt rfl (dec_t h14)) rfl rfl ?_
     obtain ⟨c15, hc16⟩ := get_of (l := l) (i := ((i : Int) - 1).toNat) (by omega)
     refine rp_take (v := elemPtr v (((i : Int) - 1).toNat) 2 0) hs_ hS rfl rfl (ev_slAt (i := (i : Int) - 1) ⟨_, (f3.ex hS)⟩ rfl rfl el_46 (idx_ok (i := (i : Int) - 1) hc16 (by omega))) (gd_tt rfl (dec_t h14)) rfl rfl ?_
     refine rp_take (v := .agg #[.int .i64 c15.1, .int .i64 c15.2]) hs_ hS rfl rfl (ev_elLoadk (us := [.int .i64 c15.1, .int .i64 c15.2]) (fun _ h => (f3.ex h)) ⟨_, hS⟩ rfl (get_enc hc16) agg_55 (by decide) rfl rfl) (gd_tt rfl (dec_t h14)) rfl rfl ?_
     refine rp_take hs_ hS rfl rfl (ev_move rfl) (gd_tt rfl (dec_t h14)) rfl rfl ?_
     refine rp_take hs_ hS rfl rfl (ev_move rfl) (gd_tt rfl (dec_t h14)) rfl rfl ?_
     refine rp_take (v := elemPtr v i 2 0) hs_ hS rfl rfl (ev_slAt (i := (i : Int)) ⟨_, (f3.ex hS)⟩ rfl rfl el_46 (idx_ok (i := (i : Int)) hc10 (by omega))) (gd_tt rfl (dec_t h14)) rfl rfl ?_
     refine rp_take (v := .agg #[.int .i64 c9.1, .int .i64 c9.2]) hs_ hS rfl rfl (ev_elLoadk (us := [.int .i64 c9.1, .int .i64 c9.2]) (fun _ h => (f3.ex h)) ⟨_, hS⟩ rfl (get_enc hc10) agg_55 (by decide) rfl rfl) (gd_tt rfl (dec_t h14)) rfl rfl ?_
     refine rp_up (up_op rfl (op_fn (xs := [.tmp 24, .tmp 28]) ent_91 rfl (c_less w11 c15 c9)) (gd_tt rfl (dec_t h14)) rfl rfl ?_)
     rintro _ w17 ⟨rfl, k18⟩
     replace K0 := Ex.trans K0 k18
     replace hS := Ex.trans hS k18
     have zw17 := k18.size
     refine ⟨(fun _ => hS), ?_⟩
     refine rp_take hs_ hS rfl rfl (ev_not rfl rfl) (gd_tt rfl (dec_t h14)) rfl rfl ?_
     refine rp_take hs_ hS rfl rfl (ev_pk_t rfl (dec_t h14) rfl) (gd_ff rfl (not_f h13)) rfl rfl ?_
     refine rp_take hs_ hS rfl rfl (ev_pk_f rfl (not_f h13) rfl) rfl rfl rfl ?_
     refine rp_done ?_
     clear hs_
     replace f3 := f3.ex hS
     refine nw_seq ?_
     rcases Bool.eq_false_or_eq_true (ltC c15 c9) with h19 | h19
     ·
      refine cw_f (b := !(ltC c15 c9)) rfl (not_f h19) ?_
      refine cw_skip ?_
      refine nw_block ?_
      refine nw_seq ?_
      refine cw_region ?_
      refine rw_ev (ev_move rfl) rfl rfl rfl ?_
      refine rw_ev (ev_add rfl rfl (by omega)) rfl rfl rfl ?_
      refine rw_ev (ev_assign rfl) rfl rfl rfl ?_
      refine rw_nil ?_
      exact nw_round (i + 1) (Sub.cons rfl (Sub.cons rfl (Sub.int (b := ((i + 1) : Int)) rfl (by omega) Sub.nil))) ⟨K0, (Nat.le_trans z2 (Nat.le_trans zw7 (Nat.le_trans zw11 zw17))), f3, (by first | omega | (rw [range_all_succ]; have hz : ((i : Int) - 1).toNat = i - 1 := (by omega); simp_all [okAt])), (by first | omega | (rw [range_all_succ]; have hz : ((i : Int) - 1).toNat = i - 1 := (by omega); simp_all [okAt]))⟩ (by first | omega | (dsimp only; omega))
     ·
      refine cw_t (b := !(ltC c15 c9)) rfl (not_t h19) ?_
      refine cw_seq ?_
      refine cw_region ?_
      refine rw_ev (ev_assign rfl) rfl rfl rfl ?_
      refine rw_nil ?_
      refine nw_seq ?_
      refine cw_ret ?_
      refine ret_post (rs := [.tmp 2]) (vs := [.bool false]) rfl (.tmp rfl .nil) ?_
      refine ⟨?_, K0⟩
      · show (.bool false : Value) = _
        have hz : ((i : Int) - 1).toNat = i - 1 := (by omega)
        refine congrArg Value.bool (Eq.symm ?_); unfold rightC; rw [range_stop (i := i) (by omega) (by simp_all [okAt] <;> omega)]; rfl
    ·
     refine rp_skip hs_ hS rfl rfl (gd_tf rfl (dec_f h14)) rfl rfl ?_
     refine rp_skip hs_ hS rfl rfl (gd_tf rfl (dec_f h14)) rfl rfl ?_
     refine rp_skip hs_ hS rfl rfl (gd_tf rfl (dec_f h14)) rfl rfl ?_
     refine rp_skip hs_ hS rfl rfl (gd_tf rfl (dec_f h14)) rfl rfl ?_
     refine rp_skip hs_ hS rfl rfl (gd_tf rfl (dec_f h14)) rfl rfl ?_
     refine rp_skip hs_ hS rfl rfl (gd_tf rfl (dec_f h14)) rfl rfl ?_
     refine rp_skip hs_ hS rfl rfl (gd_tf rfl (dec_f h14)) rfl rfl ?_
     refine rp_skip hs_ hS rfl rfl (gd_tf rfl (dec_f h14)) rfl rfl ?_
     refine rp_skip hs_ hS rfl rfl (gd_tf rfl (dec_f h14)) rfl rfl ?_
     refine rp_up (up_skip rfl (gd_tf rfl (dec_f h14)) rfl rfl (fun _ => hS) ?_)
     refine rp_skip hs_ hS rfl rfl (gd_tf rfl (dec_f h14)) rfl rfl ?_
     refine rp_take hs_ hS rfl rfl (ev_pk_f rfl (dec_f h14) rfl) (gd_ff rfl (not_f h13)) rfl rfl ?_
     refine rp_take hs_ hS rfl rfl (ev_pk_f rfl (not_f h13) rfl) rfl rfl rfl ?_
     refine rp_done ?_
     clear hs_
     replace f3 := f3.ex hS
     refine nw_seq ?_
     refine cw_f (b := false) rfl rfl ?_
     refine cw_skip ?_
     refine nw_block ?_
     refine nw_seq ?_
     refine cw_region ?_
     refine rw_ev (ev_move rfl) rfl rfl rfl ?_
     refine rw_ev (ev_add rfl rfl (by omega)) rfl rfl rfl ?_
     refine rw_ev (ev_assign rfl) rfl rfl rfl ?_
     refine rw_nil ?_
     exact nw_round (i + 1) (Sub.cons rfl (Sub.cons rfl (Sub.int (b := ((i + 1) : Int)) rfl (by omega) Sub.nil))) ⟨K0, (Nat.le_trans z2 (Nat.le_trans zw7 zw11)), f3, (by first | omega | (rw [range_all_succ]; have hz : ((i : Int) - 1).toNat = i - 1 := (by omega); simp_all [okAt])), (by first | omega | (rw [range_all_succ]; have hz : ((i : Int) - 1).toNat = i - 1 := (by omega); simp_all [okAt]))⟩ (by first | omega | (dsimp only; omega))
   ·
    refine rp_skip hs_ hS rfl rfl (gd_ft rfl (not_t h13)) rfl rfl ?_
    refine rp_skip hs_ hS rfl rfl (gd_ft rfl (not_t h13)) rfl rfl ?_
    refine rp_skip hs_ hS rfl rfl (gd_ft rfl (not_t h13)) rfl rfl ?_
    refine rp_skip hs_ hS rfl rfl rfl rfl rfl ?_
    refine rp_skip hs_ hS rfl rfl rfl rfl rfl ?_
    refine rp_skip hs_ hS rfl rfl rfl rfl rfl ?_
    refine rp_skip hs_ hS rfl rfl rfl rfl rfl ?_
    refine rp_skip hs_ hS rfl rfl rfl rfl rfl ?_
    refine rp_skip hs_ hS rfl rfl rfl rfl rfl ?_
    refine rp_skip hs_ hS rfl rfl rfl rfl rfl ?_
    refine rp_skip hs_ hS rfl rfl rfl rfl rfl ?_
    refine rp_skip hs_ hS rfl rfl rfl rfl rfl ?_
    refine rp_up (up_skip rfl rfl rfl rfl (fun _ => hS) ?_)
    refine rp_skip hs_ hS rfl rfl rfl rfl rfl ?_
    refine rp_skip hs_ hS rfl rfl (gd_ft rfl (not_t h13)) rfl rfl ?_
    refine rp_take hs_ hS rfl rfl (ev_pk_t rfl (not_t h13) rfl) rfl rfl rfl ?_
    refine rp_done ?_
    clear hs_
    replace f3 := f3.ex hS
    refine nw_seq ?_
    refine cw_t (b := true) rfl rfl ?_
    refine cw_seq ?_
    refine cw_region ?_
    refine rw_ev (ev_assign rfl) rfl rfl rfl ?_
    refine rw_nil ?_
    refine nw_seq ?_
    refine cw_ret ?_
    refine ret_post (rs := [.tmp 2]) (vs := [.bool false]) rfl (.tmp rfl .nil) ?_
    refine ⟨?_, K0⟩
    · show (.bool false : Value) = _
      have hz : ((i : Int) - 1).toNat = i - 1 := (by omega)
      refine congrArg Value.bool (Eq.symm ?_); unfold rightC; rw [range_stop (i := i) (by omega) (by simp_all [okAt] <;> omega)]; rfl
  ·
   refine cw_f (b := decide ((i : Int) < (l.length : Int))) rfl (dec_f h6) ?_
   refine cw_exit ?_
   refine xw_seq ?_
   refine xw_goal ?_
   refine xw_hit ?_
   refine nw_seq ?_
   refine cw_seq ?_
   refine cw_region ?_
   refine rw_ev (ev_move rfl) rfl rfl rfl ?_
   refine rw_ev (v := .int .i64 (l.length : Int)) (ev_lenm (l := l) ⟨_, f3⟩ rfl el_46 rfl) rfl rfl rfl ?_
   refine rw_ev (ev_leq rfl rfl) rfl rfl rfl ?_
   refine rw_ev (ev_assign rfl) rfl rfl rfl ?_
   refine rw_nil ?_
   refine nw_seq ?_
   refine cw_ret ?_
   refine ret_post (rs := [.tmp 2]) (vs := [.bool (decide ((l.length : Int) ≤ 2000))]) rfl (.tmp rfl .nil) ?_
   refine ⟨?_, K0⟩
   · show (.bool (decide ((l.length : Int) ≤ 2000)) : Value) = _
     have ht : (List.range l.length).all (okAt l) = true := by
       have hz := (show i = l.length from Nat.le_antisymm (by assumption) (by omega)); exact hz ▸ (by assumption)
     unfold rightC; rw [ht, Bool.true_and]; exact congrArg Value.bool (decide_eq_decide.2 (by omega))

theorem c_put (w : World) (v : Value) (l : List Cell) (hv : Sl w (fun b => b < w.heap.size) v 2 (l.map encC)) (c : Cell) (hn : l.length ≤ 1000000) : Fn Try.prog 41 [v, .agg #[.int .i64 c.1, .int .i64 c.2]] w (fun v w' => ∃ u : Value, v = u ∧ Ex w w' ∧ Sl w' (fun b => w.heap.size ≤ b ∧ b < w'.heap.size) u 2 ((putC l c).map encC)) := by
  have K0 : Ex w w := Kp.refl _ _
  refine fn_enter (n := 56) Try.func41 rfl rfl (Nat.le_of_ble_eq_true rfl) ?_
  show CW _ _ _ _ _ _ [(0, v), (1, .agg #[.int .i64 c.1, .int .i64 c.2])] _
  have hlv_ := hv.lenm
  refine cw_seq ?_
  refine cw_region ?_
  refine rw_op (op_box (v := .agg #[.int .i64 c.1, .int .i64 c.2]) (cs := #[.int .i64 c.1, .int .i64 c.2]) rfl rfl) rfl rfl rfl ?_
  rintro _ w2 ⟨g1, rfl, hg3, k4, b5⟩
  replace K0 := Ex.trans K0 k4
  replace hv := hv.ex k4
  have zw2 := k4.size
  have lg1 := b5.lt
  refine rw_ev (ev_assign rfl) rfl rfl rfl ?_
  refine rw_nil ?_
  refine nw_seq ?_
  refine cw_seq ?_
  refine cw_region ?_
  refine rw_ev (ev_assign rfl) rfl rfl rfl ?_
  refine rw_nil ?_
  refine nw_seq ?_
  refine cw_seq ?_
  refine cw_region ?_
  refine rw_ev (ev_assign rfl) rfl rfl rfl ?_
  refine rw_nil ?_
  refine nw_seq ?_
  refine cw_seq ?_
  refine cw_seq ?_
  refine cw_region ?_
  refine rw_ev (ev_assign rfl) rfl rfl rfl ?_
  refine rw_nil ?_
  refine nw_seq ?_
  refine cw_block ?_
  refine cw_loop (σ := Nat × Value × List Cell × Bool) (fun s_ => match s_ with | (i, x, st) => [(0, v), (3, .pointer (some ⟨g1, 0, none⟩)), (4, .slice none 0 0), (5, x), (6, .bool st.2), (7, .int .i64 (i : Int))]) (fun s_ wr => match s_ with | (i, x, st) => Ex w wr ∧ w2.heap.size ≤ wr.heap.size ∧ Sl wr (fun b => b < w.heap.size) v 2 (l.map encC) ∧ Bx wr g1 55 #[.int .i64 c.1, .int .i64 c.2] ∧ Ow wr w2.heap.size 55 x 2 (st.1.map encC) ∧ st = (l.take i).foldl (putStep c) ([], false) ∧ st.1.length ≤ 2 * i ∧ i ≤ l.length) (fun s_ => match s_ with | (i, x, st) => l.length - i) (0, .slice none 0 0, ([], false)) (Sub.cons rfl (Sub.cons rfl (Sub.cons rfl (Sub.cons rfl (Sub.val (v := .bool (([], false).2)) rfl (by rfl) (Sub.int (b := (0 : Int)) rfl (by omega) Sub.nil)))))) ⟨K0, (Nat.le_refl _), hv, b5, (Ow.nil _ _ _ _), (by simp), (by simp), (by simp)⟩ ?_
  rintro ⟨i, x, st⟩ w6 ⟨K0, z7, f8, f9, f10, pr11, pr12, pr13⟩
  show CW _ _ _ _ _ _ [(0, v), (3, .pointer (some ⟨g1, 0, none⟩)), (4, .slice none 0 0), (5, x), (6, .bool st.2), (7, .int .i64 (i : Int))] _
  refine cw_seq ?_
  refine cw_seq ?_
  refine cw_region ?_
  refine rw_ev (ev_move rfl) rfl rfl rfl ?_
  refine rw_ev (ev_move rfl) rfl rfl rfl ?_
  refine rw_ev (v := .int .i64 (l.length : Int)) (ev_lenm (l := l) ⟨_, f8⟩ rfl el_46 rfl) rfl rfl rfl ?_
  refine rw_ev (ev_lss rfl rfl) rfl rfl rfl ?_
  refine rw_nil ?_
  refine nw_seq ?_
  by_cases h14 : (i : Int) < (l.length : Int)
  ·
   refine cw_t (b := decide ((i : Int) < (l.length : Int))) rfl (dec_t h14) ?_
   refine cw_skip ?_
   refine nw_seq ?_
   refine cw_seq ?_
   refine cw_block ?_
   refine cw_seq ?_
   refine cw_seq ?_
   refine cw_drawn (fun w15 w_ => Ex w15 w_) [] (.take 0 (.take 1 (.take 2 (.take 3 (.take 4 (.take 5 (.take 6 (.take 7 (.take 8 (.take 9 (.take 10 (.take 11 (.take 12 (.take 13 (.take 14 (.one 15 (.take 16 (.take 17 .done)))))))))))))))))) mixed (by kernel_rfl) (by kernel_rfl) (Nat.le_of_ble_eq_true (by kernel_rfl)) ?_; intro w15 k16 hs_
   replace K0 := Ex.trans K0 k16
   replace f8 := f8.ex k16
   replace f9 := f9.ex k16
   replace f10 := f10.ex k16
   have zw15 := k16.size
   have hS : (fun w_ => Ex w15 w_) w15 := Kp.refl _ _
   refine rp_take hs_ hS rfl rfl (ev_move rfl) rfl rfl rfl ?_
   refine rp_take hs_ hS rfl rfl (ev_not rfl rfl) rfl rfl rfl ?_
   refine rp_take hs_ hS rfl rfl (ev_move rfl) rfl rfl rfl ?_
   rcases Bool.eq_false_or_eq_true (st.2) with h17 | h17
   ·
    refine rp_skip hs_ hS rfl rfl (gd_tf rfl (not_f h17)) rfl rfl ?_
    refine rp_skip hs_ hS rfl rfl (gd_tf rfl (not_f h17)) rfl rfl ?_
    refine rp_skip hs_ hS rfl rfl (gd_tf rfl (not_f h17)) rfl rfl ?_
    refine rp_skip hs_ hS rfl rfl (gd_tf rfl (not_f h17)) rfl rfl ?_
    refine rp_skip hs_ hS rfl rfl (gd_tf rfl (not_f h17)) rfl rfl ?_
    refine rp_skip hs_ hS rfl rfl (gd_tf rfl (not_f h17)) rfl rfl ?_
    refine rp_skip hs_ hS rfl rfl (gd_tf rfl (not_f h17)) rfl rfl ?_
    refine rp_skip hs_ hS rfl rfl rfl rfl rfl ?_
    refine rp_skip hs_ hS rfl rfl rfl rfl rfl ?_
    refine rp_skip hs_ hS rfl rfl rfl rfl rfl ?_
    refine rp_skip hs_ hS rfl rfl rfl rfl rfl ?_
    refine rp_skip hs_ hS rfl rfl rfl rfl rfl ?_
    refine rp_up (up_skip rfl rfl rfl rfl (fun _ => hS) ?_)
    refine rp_skip hs_ hS rfl rfl (gd_tf rfl (not_f h17)) rfl rfl ?_
    refine rp_take hs_ hS rfl rfl (ev_pk_f rfl (not_f h17) rfl) rfl rfl rfl ?_
    refine rp_done ?_
    clear hs_
    refine nw_seq ?_
    refine cw_f (b := false) rfl rfl ?_
    refine cw_skip ?_
    refine nw_seq ?_
    refine cw_seq ?_
    refine cw_drawn (fun w18 w_ => Ex w18 w_) [] (.take 0 (.take 1 (.take 2 (.take 3 (.take 4 (.take 5 .done)))))) mixed (by kernel_rfl) (by kernel_rfl) (Nat.le_of_ble_eq_true (by kernel_rfl)) ?_; intro w18 k19 hs_
    replace K0 := Ex.trans K0 k19
    replace f8 := f8.ex k19
    replace f9 := f9.ex k19
    replace f10 := f10.ex k19
    have zw18 := k19.size
    have hS : (fun w_ => Ex w18 w_) w18 := Kp.refl _ _
    refine rp_take hs_ hS rfl rfl (ev_move rfl) rfl rfl rfl ?_
    refine rp_take hs_ hS rfl rfl (ev_move rfl) rfl rfl rfl ?_
    obtain ⟨c20, hc21⟩ := get_of (l := l) (i := i) (by omega)
    refine rp_take (v := elemPtr v i 2 0) hs_ hS rfl rfl (ev_slAt (i := (i : Int)) ⟨_, (f8.ex hS)⟩ rfl rfl el_46 (idx_ok (i := (i : Int)) hc21 (by omega))) rfl rfl rfl ?_
    refine rp_take (v := .agg #[.int .i64 c20.1, .int .i64 c20.2]) hs_ hS rfl rfl (ev_elLoadk (us := [.int .i64 c20.1, .int .i64 c20.2]) (fun _ h => (f8.ex h)) ⟨_, hS⟩ rfl (get_enc hc21) agg_55 (by decide) rfl rfl) rfl rfl rfl ?_
    refine rp_take (v := .agg #[.int .i64 c.1, .int .i64 c.2]) hs_ hS rfl rfl (ev_lbk (off := 0) (vs := [.int .i64 c.1, .int .i64 c.2]) (fun _ h => f9.ex h) rfl agg_55 rfl rfl) rfl rfl rfl ?_
    refine rp_take hs_ hS rfl rfl (ev_neq_55 rfl rfl) rfl rfl rfl ?_
    refine rp_done ?_
    clear hs_
    refine nw_seq ?_
    by_cases h22 : (c20 : Cell) ≠ c
    ·
     refine cw_t (b := decide ((c20 : Cell) ≠ c)) rfl (dec_t h22) ?_
     refine cw_region ?_
     refine rw_ev (ev_move rfl) rfl rfl rfl ?_
     refine rw_ev (ev_move rfl) rfl rfl rfl ?_
     refine rw_ev (ev_move rfl) rfl rfl rfl ?_
     refine rw_ev (v := elemPtr v i 2 0) (ev_slAt (i := (i : Int)) ⟨_, f8⟩ rfl rfl el_46 (idx_ok (i := (i : Int)) hc21 (by omega))) rfl rfl rfl ?_
     refine rw_ev (v := .agg #[.int .i64 c20.1, .int .i64 c20.2]) (ev_elLoadk (us := [.int .i64 c20.1, .int .i64 c20.2]) (fun _ h => h ▸ f8) ⟨_, rfl⟩ rfl (get_enc hc21) agg_55 (by decide) rfl rfl) rfl rfl rfl ?_
     refine rw_op (op_buildSlice (E := 55) (m := 1) (pv := #[(0, .agg #[.int .i64 c20.1, .int .i64 c20.2])]) (cs := #[.int .i64 c20.1, .int .i64 c20.2]) rfl (fun _ => by kernel_rfl)) rfl rfl rfl ?_
     rintro _ w24 ⟨g23, rfl, hg25, k26, b27⟩
     have rw28 : ∀ b, (x : Value).ownBlock = some b → b < g23 := fun b h => Nat.lt_of_lt_of_le (f10.lt b h).2 hg25
     replace K0 := Ex.trans K0 k26
     replace f8 := f8.ex k26
     replace f9 := f9.ex k26
     replace f10 := f10.ex k26
     have zw24 := k26.size
     have lg23 := b27.lt
     refine rw_op (op_app1 (f := encC) (l := st.1) (c := c20) (B := w2.heap.size) row_46 plainC f10 b27 rfl rfl rfl (by decide) (by unfold maxLen; first | omega | (simp only [List.length_append, List.length_cons, List.length_nil]; omega)) (by first | omega | (simp only [List.length_append, List.length_cons, List.length_nil]; omega)) (Nat.le_trans z7 (Nat.le_trans zw15 (Nat.le_trans zw18 zw24)))) rfl rfl rfl ?_
     rintro v29 w30 ⟨k31, ow32⟩
     replace K0 := Ex.kp_new K0 k31 (fun b h => Nat.le_trans zw2 (f10.lt b h).1)
     replace f8 := f8.kp k31 (fun b h e => Nat.lt_irrefl _ (Nat.lt_of_lt_of_le (show b < _ from h) (Nat.le_trans zw2 (f10.lt b e).1)))
     replace f9 := f9.kp k31 (fun h => Nat.lt_irrefl _ (Nat.lt_of_lt_of_le lg1 (Nat.le_trans (Nat.le_refl _) (f10.lt _ h).1)))
     replace b27 := b27.kp k31 (fun h => Nat.lt_irrefl _ (rw28 _ h))
     have zw30 := k31.size
     refine rw_ev (ev_assign rfl) rfl rfl rfl ?_
     refine rw_nil ?_
     refine nw_block ?_
     refine nw_seq ?_
     refine cw_region ?_
     refine rw_ev (ev_move rfl) rfl rfl rfl ?_
     refine rw_ev (ev_add rfl rfl (by omega)) rfl rfl rfl ?_
     refine rw_ev (ev_assign rfl) rfl rfl rfl ?_
     refine rw_nil ?_
     exact nw_round ((i + 1), v29, ((st.1 ++ [c20]), st.2)) (Sub.cons rfl (Sub.cons rfl (Sub.cons rfl (Sub.cons rfl (Sub.val (v := .bool (((st.1 ++ [c20]), st.2).2)) rfl (by rfl) (Sub.int (b := ((i + 1) : Int)) rfl (by omega) Sub.nil)))))) ⟨K0, (Nat.le_trans z7 (Nat.le_trans zw15 (Nat.le_trans zw18 (Nat.le_trans zw24 zw30)))), f8, f9, (by exact ow32), (by first | omega | (simp only [List.length_append, List.length_cons, List.length_nil]; omega) | (rw [take_succ_fold (by assumption : l[i]? = some _)]; simp_all [putStep])), (by first | omega | (simp only [List.length_append, List.length_cons, List.length_nil]; omega) | (rw [take_succ_fold (by assumption : l[i]? = some _)]; simp_all [putStep])), (by first | omega | (simp only [List.length_append, List.length_cons, List.length_nil]; omega) | (rw [take_succ_fold (by assumption : l[i]? = some _)]; simp_all [putStep]))⟩ (by first | omega | (dsimp only; omega))
    ·
     refine cw_f (b := decide ((c20 : Cell) ≠ c)) rfl (dec_f h22) ?_
     refine cw_skip ?_
     refine nw_block ?_
     refine nw_seq ?_
     refine cw_region ?_
     refine rw_ev (ev_move rfl) rfl rfl rfl ?_
     refine rw_ev (ev_add rfl rfl (by omega)) rfl rfl rfl ?_
     refine rw_ev (ev_assign rfl) rfl rfl rfl ?_
     refine rw_nil ?_
     exact nw_round ((i + 1), x, (st.1, st.2)) (Sub.cons rfl (Sub.cons rfl (Sub.cons rfl (Sub.cons rfl (Sub.val (v := .bool ((st.1, st.2).2)) rfl (by rfl) (Sub.int (b := ((i + 1) : Int)) rfl (by omega) Sub.nil)))))) ⟨K0, (Nat.le_trans z7 (Nat.le_trans zw15 zw18)), f8, f9, (by exact f10), (by first | omega | (simp only [List.length_append, List.length_cons, List.length_nil]; omega) | (rw [take_succ_fold (by assumption : l[i]? = some _)]; simp_all [putStep])), (by first | omega | (simp only [List.length_append, List.length_cons, List.length_nil]; omega) | (rw [take_succ_fold (by assumption : l[i]? = some _)]; simp_all [putStep])), (by first | omega | (simp only [List.length_append, List.length_cons, List.length_nil]; omega) | (rw [take_succ_fold (by assumption : l[i]? = some _)]; simp_all [putStep]))⟩ (by first | omega | (dsimp only; omega))
   ·
    refine rp_take hs_ hS rfl rfl (ev_move rfl) (gd_tt rfl (not_t h17)) rfl rfl ?_
    refine rp_take hs_ hS rfl rfl (ev_move rfl) (gd_tt rfl (not_t h17)) rfl rfl ?_
    obtain ⟨c33, hc34⟩ := get_of (l := l) (i := i) (by omega)
    refine rp_take (v := elemPtr v i 2 0) hs_ hS rfl rfl (ev_slAt (i := (i : Int)) ⟨_, (f8.ex hS)⟩ rfl rfl el_46 (idx_ok (i := (i : Int)) hc34 (by omega))) (gd_tt rfl (not_t h17)) rfl rfl ?_
    refine rp_take (v := .agg #[.int .i64 c33.1, .int .i64 c33.2]) hs_ hS rfl rfl (ev_elLoadk (us := [.int .i64 c33.1, .int .i64 c33.2]) (fun _ h => (f8.ex h)) ⟨_, hS⟩ rfl (get_enc hc34) agg_55 (by decide) rfl rfl) (gd_tt rfl (not_t h17)) rfl rfl ?_
    refine rp_take (v := .agg #[.int .i64 c.1, .int .i64 c.2]) hs_ hS rfl rfl (ev_lbk (off := 0) (vs := [.int .i64 c.1, .int .i64 c.2]) (fun _ h => f9.ex h) rfl agg_55 rfl rfl) (gd_tt rfl (not_t h17)) rfl rfl ?_
    refine rp_take hs_ hS rfl rfl (ev_eql_55 rfl rfl) (gd_tt rfl (not_t h17)) rfl rfl ?_
    refine rp_take hs_ hS rfl rfl (ev_move rfl) (gd_tt rfl (not_t h17)) rfl rfl ?_
    by_cases h35 : (c33 : Cell) = c
    ·
     refine rp_skip hs_ hS rfl rfl (gd_ft rfl (dec_t h35)) rfl rfl ?_
     refine rp_skip hs_ hS rfl rfl (gd_ft rfl (dec_t h35)) rfl rfl ?_
     refine rp_skip hs_ hS rfl rfl (gd_ft rfl (dec_t h35)) rfl rfl ?_
     refine rp_skip hs_ hS rfl rfl (gd_ft rfl (dec_t h35)) rfl rfl ?_
     refine rp_skip hs_ hS rfl rfl (gd_ft rfl (dec_t h35)) rfl rfl ?_
     refine rp_up (up_skip rfl (gd_ft rfl (dec_t h35)) rfl rfl (fun _ => hS) ?_)
     refine rp_take hs_ hS rfl rfl (ev_pk_t rfl (dec_t h35) rfl) (gd_tt rfl (not_t h17)) rfl rfl ?_
     refine rp_take hs_ hS rfl rfl (ev_pk_t rfl (not_t h17) rfl) rfl rfl rfl ?_
     refine rp_done ?_
     clear hs_
     refine nw_seq ?_
     refine cw_t (b := true) rfl rfl ?_
     refine cw_seq ?_
     refine cw_region ?_
     refine rw_ev (ev_move rfl) rfl rfl rfl ?_
     refine rw_ev (v := .agg #[.int .i64 c.1, .int .i64 c.2]) (ev_lbk (off := 0) (vs := [.int .i64 c.1, .int .i64 c.2]) (fun _ h => h ▸ f9) rfl agg_55 rfl rfl) rfl rfl rfl ?_
     refine rw_op (op_buildSlice (E := 55) (m := 1) (pv := #[(0, .agg #[.int .i64 c.1, .int .i64 c.2])]) (cs := #[.int .i64 c.1, .int .i64 c.2]) rfl (fun _ => by kernel_rfl)) rfl rfl rfl ?_
     rintro _ w37 ⟨g36, rfl, hg38, k39, b40⟩
     have rw41 : ∀ b, (x : Value).ownBlock = some b → b < g36 := fun b h => Nat.lt_of_lt_of_le (f10.lt b h).2 hg38
     replace K0 := Ex.trans K0 k39
     replace f8 := f8.ex k39
     replace f9 := f9.ex k39
     replace f10 := f10.ex k39
     have zw37 := k39.size
     have lg36 := b40.lt
     refine rw_op (op_app1 (f := encC) (l := st.1) (c := c) (B := w2.heap.size) row_46 plainC f10 b40 rfl rfl rfl (by decide) (by unfold maxLen; first | omega | (simp only [List.length_append, List.length_cons, List.length_nil]; omega)) (by first | omega | (simp only [List.length_append, List.length_cons, List.length_nil]; omega)) (Nat.le_trans z7 (Nat.le_trans zw15 zw37))) rfl rfl rfl ?_
     rintro v42 w43 ⟨k44, ow45⟩
     replace K0 := Ex.kp_new K0 k44 (fun b h => Nat.le_trans zw2 (f10.lt b h).1)
     replace f8 := f8.kp k44 (fun b h e => Nat.lt_irrefl _ (Nat.lt_of_lt_of_le (show b < _ from h) (Nat.le_trans zw2 (f10.lt b e).1)))
     replace f9 := f9.kp k44 (fun h => Nat.lt_irrefl _ (Nat.lt_of_lt_of_le lg1 (Nat.le_trans (Nat.le_refl _) (f10.lt _ h).1)))
     replace b40 := b40.kp k44 (fun h => Nat.lt_irrefl _ (rw41 _ h))
     have zw43 := k44.size
     refine rw_ev (ev_assign rfl) rfl rfl rfl ?_
     refine rw_nil ?_
     refine nw_seq ?_
     refine cw_region ?_
     refine rw_ev (ev_assign rfl) rfl rfl rfl ?_
     refine rw_nil ?_
     refine nw_seq ?_
     refine cw_seq ?_
     refine cw_drawn (fun w46 w_ => Ex w46 w_) [] (.take 0 (.take 1 (.take 2 (.take 3 (.take 4 (.take 5 .done)))))) mixed (by kernel_rfl) (by kernel_rfl) (Nat.le_of_ble_eq_true (by kernel_rfl)) ?_; intro w46 k47 hs_
     replace K0 := Ex.trans K0 k47
     replace f8 := f8.ex k47
     replace f9 := f9.ex k47
     replace b40 := b40.ex k47
     replace ow45 := ow45.ex k47
     have zw46 := k47.size
     have hS : (fun w_ => Ex w46 w_) w46 := Kp.refl _ _
     refine rp_take hs_ hS rfl rfl (ev_move rfl) rfl rfl rfl ?_
     refine rp_take hs_ hS rfl rfl (ev_move rfl) rfl rfl rfl ?_
     refine rp_take (v := elemPtr v i 2 0) hs_ hS rfl rfl (ev_slAt (i := (i : Int)) ⟨_, (f8.ex hS)⟩ rfl rfl el_46 (idx_ok (i := (i : Int)) hc34 (by omega))) rfl rfl rfl ?_
     refine rp_take (v := .agg #[.int .i64 c33.1, .int .i64 c33.2]) hs_ hS rfl rfl (ev_elLoadk (us := [.int .i64 c33.1, .int .i64 c33.2]) (fun _ h => (f8.ex h)) ⟨_, hS⟩ rfl (get_enc hc34) agg_55 (by decide) rfl rfl) rfl rfl rfl ?_
     refine rp_take (v := .agg #[.int .i64 c.1, .int .i64 c.2]) hs_ hS rfl rfl (ev_lbk (off := 0) (vs := [.int .i64 c.1, .int .i64 c.2]) (fun _ h => f9.ex h) rfl agg_55 rfl rfl) rfl rfl rfl ?_
     refine rp_take hs_ hS rfl rfl (ev_neq_55 rfl rfl) rfl rfl rfl ?_
     refine rp_done ?_
     clear hs_
     refine nw_seq ?_
     by_cases h48 : (c33 : Cell) ≠ c
     ·
      refine cw_t (b := decide ((c33 : Cell) ≠ c)) rfl (dec_t h48) ?_
      refine cw_region ?_
      refine rw_ev (ev_move rfl) rfl rfl rfl ?_
      refine rw_ev (ev_move rfl) rfl rfl rfl ?_
      refine rw_ev (ev_move rfl) rfl rfl rfl ?_
      refine rw_ev (v := elemPtr v i 2 0) (ev_slAt (i := (i : Int)) ⟨_, f8⟩ rfl rfl el_46 (idx_ok (i := (i : Int)) hc34 (by omega))) rfl rfl rfl ?_
      refine rw_ev (v := .agg #[.int .i64 c33.1, .int .i64 c33.2]) (ev_elLoadk (us := [.int .i64 c33.1, .int .i64 c33.2]) (fun _ h => h ▸ f8) ⟨_, rfl⟩ rfl (get_enc hc34) agg_55 (by decide) rfl rfl) rfl rfl rfl ?_
      refine rw_op (op_buildSlice (E := 55) (m := 1) (pv := #[(0, .agg #[.int .i64 c33.1, .int .i64 c33.2])]) (cs := #[.int .i64 c33.1, .int .i64 c33.2]) rfl (fun _ => by kernel_rfl)) rfl rfl rfl ?_
      rintro _ w50 ⟨g49, rfl, hg51, k52, b53⟩
      have rw54 : ∀ b, (v42 : Value).ownBlock = some b → b < g49 := fun b h => Nat.lt_of_lt_of_le (ow45.lt b h).2 hg51
      replace K0 := Ex.trans K0 k52
      replace f8 := f8.ex k52
      replace f9 := f9.ex k52
      replace b40 := b40.ex k52
      replace ow45 := ow45.ex k52
      have zw50 := k52.size
      have lg49 := b53.lt
      refine rw_op (op_app1 (f := encC) (l := (st.1 ++ [c])) (c := c33) (B := w2.heap.size) row_46 plainC ow45 b53 rfl rfl rfl (by decide) (by unfold maxLen; first | omega | (simp only [List.length_append, List.length_cons, List.length_nil]; omega)) (by first | omega | (simp only [List.length_append, List.length_cons, List.length_nil]; omega)) (Nat.le_trans z7 (Nat.le_trans zw15 (Nat.le_trans zw37 (Nat.le_trans zw43 (Nat.le_trans zw46 zw50)))))) rfl rfl rfl ?_
      rintro v55 w56 ⟨k57, ow58⟩
      replace K0 := Ex.kp_new K0 k57 (fun b h => Nat.le_trans zw2 (ow45.lt b h).1)
      replace f8 := f8.kp k57 (fun b h e => Nat.lt_irrefl _ (Nat.lt_of_lt_of_le (show b < _ from h) (Nat.le_trans zw2 (ow45.lt b e).1)))
      replace f9 := f9.kp k57 (fun h => Nat.lt_irrefl _ (Nat.lt_of_lt_of_le lg1 (Nat.le_trans (Nat.le_refl _) (ow45.lt _ h).1)))
      replace b53 := b53.kp k57 (fun h => Nat.lt_irrefl _ (rw54 _ h))
      have zw56 := k57.size
      refine rw_ev (ev_assign rfl) rfl rfl rfl ?_
      refine rw_nil ?_
      refine nw_block ?_
      refine nw_seq ?_
      refine cw_region ?_
      refine rw_ev (ev_move rfl) rfl rfl rfl ?_
      refine rw_ev (ev_add rfl rfl (by omega)) rfl rfl rfl ?_
      refine rw_ev (ev_assign rfl) rfl rfl rfl ?_
      refine rw_nil ?_
      exact nw_round ((i + 1), v55, (((st.1 ++ [c]) ++ [c33]), true)) (Sub.cons rfl (Sub.cons rfl (Sub.cons rfl (Sub.cons rfl (Sub.val (v := .bool ((((st.1 ++ [c]) ++ [c33]), true).2)) rfl (by rfl) (Sub.int (b := ((i + 1) : Int)) rfl (by omega) Sub.nil)))))) ⟨K0, (Nat.le_trans z7 (Nat.le_trans zw15 (Nat.le_trans zw37 (Nat.le_trans zw43 (Nat.le_trans zw46 (Nat.le_trans zw50 zw56)))))), f8, f9, (by exact ow58), (by first | omega | (simp only [List.length_append, List.length_cons, List.length_nil]; omega) | (rw [take_succ_fold (by assumption : l[i]? = some _)]; simp_all [putStep])), (by first | omega | (simp only [List.length_append, List.length_cons, List.length_nil]; omega) | (rw [take_succ_fold (by assumption : l[i]? = some _)]; simp_all [putStep])), (by first | omega | (simp only [List.length_append, List.length_cons, List.length_nil]; omega) | (rw [take_succ_fold (by assumption : l[i]? = some _)]; simp_all [putStep]))⟩ (by first | omega | (dsimp only; omega))
     ·
      refine cw_f (b := decide ((c33 : Cell) ≠ c)) rfl (dec_f h48) ?_
      refine cw_skip ?_
      refine nw_block ?_
      refine nw_seq ?_
      refine cw_region ?_
      refine rw_ev (ev_move rfl) rfl rfl rfl ?_
      refine rw_ev (ev_add rfl rfl (by omega)) rfl rfl rfl ?_
      refine rw_ev (ev_assign rfl) rfl rfl rfl ?_
      refine rw_nil ?_
      exact nw_round ((i + 1), v42, ((st.1 ++ [c]), true)) (Sub.cons rfl (Sub.cons rfl (Sub.cons rfl (Sub.cons rfl (Sub.val (v := .bool (((st.1 ++ [c]), true).2)) rfl (by rfl) (Sub.int (b := ((i + 1) : Int)) rfl (by omega) Sub.nil)))))) ⟨K0, (Nat.le_trans z7 (Nat.le_trans zw15 (Nat.le_trans zw37 (Nat.le_trans zw43 zw46)))), f8, f9, (by exact ow45), (by first | omega | (simp only [List.length_append, List.length_cons, List.length_nil]; omega) | (rw [take_succ_fold (by assumption : l[i]? = some _)]; simp_all [putStep])), (by first | omega | (simp only [List.length_append, List.length_cons, List.length_nil]; omega) | (rw [take_succ_fold (by assumption : l[i]? = some _)]; simp_all [putStep])), (by first | omega | (simp only [List.length_append, List.length_cons, List.length_nil]; omega) | (rw [take_succ_fold (by assumption : l[i]? = some _)]; simp_all [putStep]))⟩ (by first | omega | (dsimp only; omega))
    ·
     refine rp_take (v := .agg #[.int .i64 c.1, .int .i64 c.2]) hs_ hS rfl rfl (ev_lbk (off := 0) (vs := [.int .i64 c.1, .int .i64 c.2]) (fun _ h => f9.ex h) rfl agg_55 rfl rfl) (gd_ff rfl (dec_f h35)) rfl rfl ?_
     refine rp_take hs_ hS rfl rfl (ev_move rfl) (gd_ff rfl (dec_f h35)) rfl rfl ?_
     refine rp_take hs_ hS rfl rfl (ev_move rfl) (gd_ff rfl (dec_f h35)) rfl rfl ?_
     refine rp_take (v := elemPtr v i 2 0) hs_ hS rfl rfl (ev_slAt (i := (i : Int)) ⟨_, (f8.ex hS)⟩ rfl rfl el_46 (idx_ok (i := (i : Int)) hc34 (by omega))) (gd_ff rfl (dec_f h35)) rfl rfl ?_
     refine rp_take (v := .agg #[.int .i64 c33.1, .int .i64 c33.2]) hs_ hS rfl rfl (ev_elLoadk (us := [.int .i64 c33.1, .int .i64 c33.2]) (fun _ h => (f8.ex h)) ⟨_, hS⟩ rfl (get_enc hc34) agg_55 (by decide) rfl rfl) (gd_ff rfl (dec_f h35)) rfl rfl ?_
     refine rp_up (up_op rfl (op_fn (xs := [.tmp 24, .tmp 28]) ent_91 rfl (c_less w15 c c33)) (gd_ff rfl (dec_f h35)) rfl rfl ?_)
     rintro _ w59 ⟨rfl, k60⟩
     replace K0 := Ex.trans K0 k60
     replace hS := Ex.trans hS k60
     have zw59 := k60.size
     refine ⟨(fun _ => hS), ?_⟩
     refine rp_take hs_ hS rfl rfl (ev_pk_f rfl (dec_f h35) rfl) (gd_tt rfl (not_t h17)) rfl rfl ?_
     refine rp_take hs_ hS rfl rfl (ev_pk_t rfl (not_t h17) rfl) rfl rfl rfl ?_
     refine rp_done ?_
     clear hs_
     replace f8 := f8.ex hS
     replace f9 := f9.ex hS
     replace f10 := f10.ex hS
     refine nw_seq ?_
     rcases Bool.eq_false_or_eq_true (ltC c c33) with h61 | h61
     ·
      refine cw_t (b := ltC c c33) rfl h61 ?_
      refine cw_seq ?_
      refine cw_region ?_
      refine rw_ev (ev_move rfl) rfl rfl rfl ?_
      refine rw_ev (v := .agg #[.int .i64 c.1, .int .i64 c.2]) (ev_lbk (off := 0) (vs := [.int .i64 c.1, .int .i64 c.2]) (fun _ h => h ▸ f9) rfl agg_55 rfl rfl) rfl rfl rfl ?_
      refine rw_op (op_buildSlice (E := 55) (m := 1) (pv := #[(0, .agg #[.int .i64 c.1, .int .i64 c.2])]) (cs := #[.int .i64 c.1, .int .i64 c.2]) rfl (fun _ => by kernel_rfl)) rfl rfl rfl ?_
      rintro _ w63 ⟨g62, rfl, hg64, k65, b66⟩
      have rw67 : ∀ b, (x : Value).ownBlock = some b → b < g62 := fun b h => Nat.lt_of_lt_of_le (f10.lt b h).2 hg64
      replace K0 := Ex.trans K0 k65
      replace f8 := f8.ex k65
      replace f9 := f9.ex k65
      replace f10 := f10.ex k65
      have zw63 := k65.size
      have lg62 := b66.lt
      refine rw_op (op_app1 (f := encC) (l := st.1) (c := c) (B := w2.heap.size) row_46 plainC f10 b66 rfl rfl rfl (by decide) (by unfold maxLen; first | omega | (simp only [List.length_append, List.length_cons, List.length_nil]; omega)) (by first | omega | (simp only [List.length_append, List.length_cons, List.length_nil]; omega)) (Nat.le_trans z7 (Nat.le_trans zw15 (Nat.le_trans zw59 zw63)))) rfl rfl rfl ?_
      rintro v68 w69 ⟨k70, ow71⟩
      replace K0 := Ex.kp_new K0 k70 (fun b h => Nat.le_trans zw2 (f10.lt b h).1)
      replace f8 := f8.kp k70 (fun b h e => Nat.lt_irrefl _ (Nat.lt_of_lt_of_le (show b < _ from h) (Nat.le_trans zw2 (f10.lt b e).1)))
      replace f9 := f9.kp k70 (fun h => Nat.lt_irrefl _ (Nat.lt_of_lt_of_le lg1 (Nat.le_trans (Nat.le_refl _) (f10.lt _ h).1)))
      replace b66 := b66.kp k70 (fun h => Nat.lt_irrefl _ (rw67 _ h))
      have zw69 := k70.size
      refine rw_ev (ev_assign rfl) rfl rfl rfl ?_
      refine rw_nil ?_
      refine nw_seq ?_
      refine cw_region ?_
      refine rw_ev (ev_assign rfl) rfl rfl rfl ?_
      refine rw_nil ?_
      refine nw_seq ?_
      refine cw_seq ?_
      refine cw_drawn (fun w72 w_ => Ex w72 w_) [] (.take 0 (.take 1 (.take 2 (.take 3 (.take 4 (.take 5 .done)))))) mixed (by kernel_rfl) (by kernel_rfl) (Nat.le_of_ble_eq_true (by kernel_rfl)) ?_; intro w72 k73 hs_
      replace K0 := Ex.trans K0 k73
      replace f8 := f8.ex k73
      replace f9 := f9.ex k73
      replace b66 := b66.ex k73
      replace ow71 := ow71.ex k73
      have zw72 := k73.size
      have hS : (fun w_ => Ex w72 w_) w72 := Kp.refl _ _
      refine rp_take hs_ hS rfl rfl (ev_move rfl) rfl rfl rfl ?_
      refine rp_take hs_ hS rfl rfl (ev_move rfl) rfl rfl rfl ?_
      refine rp_take (v := elemPtr v i 2 0) hs_ hS rfl rfl (ev_slAt (i := (i : Int)) ⟨_, (f8.ex hS)⟩ rfl rfl el_46 (idx_ok (i := (i : Int)) hc34 (by omega))) rfl rfl rfl ?_
      refine rp_take (v := .agg #[.int .i64 c33.1, .int .i64 c33.2]) hs_ hS rfl rfl (ev_elLoadk (us := [.int .i64 c33.1, .int .i64 c33.2]) (fun _ h => (f8.ex h)) ⟨_, hS⟩ rfl (get_enc hc34) agg_55 (by decide) rfl rfl) rfl rfl rfl ?_
      refine rp_take (v := .agg #[.int .i64 c.1, .int .i64 c.2]) hs_ hS rfl rfl (ev_lbk (off := 0) (vs := [.int .i64 c.1, .int .i64 c.2]) (fun _ h => f9.ex h) rfl agg_55 rfl rfl) rfl rfl rfl ?_
      refine rp_take hs_ hS rfl rfl (ev_neq_55 rfl rfl) rfl rfl rfl ?_
      refine rp_done ?_
      clear hs_
      refine nw_seq ?_
      by_cases h74 : (c33 : Cell) ≠ c
      ·
       refine cw_t (b := decide ((c33 : Cell) ≠ c)) rfl (dec_t h74) ?_
       refine cw_region ?_
       refine rw_ev (ev_move rfl) rfl rfl rfl ?_
       refine rw_ev (ev_move rfl) rfl rfl rfl ?_
       refine rw_ev (ev_move rfl) rfl rfl rfl ?_
       refine rw_ev (v := elemPtr v i 2 0) (ev_slAt (i := (i : Int)) ⟨_, f8⟩ rfl rfl el_46 (idx_ok (i := (i : Int)) hc34 (by omega))) rfl rfl rfl ?_
       refine rw_ev (v := .agg #[.int .i64 c33.1, .int .i64 c33.2]) (ev_elLoadk (us := [.int .i64 c33.1, .int .i64 c33.2]) (fun _ h => h ▸ f8) ⟨_, rfl⟩ rfl (get_enc hc34) agg_55 (by decide) rfl rfl) rfl rfl rfl ?_
       refine rw_op (op_buildSlice (E := 55) (m := 1) (pv := #[(0, .agg #[.int .i64 c33.1, .int .i64 c33.2])]) (cs := #[.int .i64 c33.1, .int .i64 c33.2]) rfl (fun _ => by kernel_rfl)) rfl rfl rfl ?_
       rintro _ w76 ⟨g75, rfl, hg77, k78, b79⟩
       have rw80 : ∀ b, (v68 : Value).ownBlock = some b → b < g75 := fun b h => Nat.lt_of_lt_of_le (ow71.lt b h).2 hg77
       replace K0 := Ex.trans K0 k78
       replace f8 := f8.ex k78
       replace f9 := f9.ex k78
       replace b66 := b66.ex k78
       replace ow71 := ow71.ex k78
       have zw76 := k78.size
       have lg75 := b79.lt
       refine rw_op (op_app1 (f := encC) (l := (st.1 ++ [c])) (c := c33) (B := w2.heap.size) row_46 plainC ow71 b79 rfl rfl rfl (by decide) (by unfold maxLen; first | omega | (simp only [List.length_append, List.length_cons, List.length_nil]; omega)) (by first | omega | (simp only [List.length_append, List.length_cons, List.length_nil]; omega)) (Nat.le_trans z7 (Nat.le_trans zw15 (Nat.le_trans zw59 (Nat.le_trans zw63 (Nat.le_trans zw69 (Nat.le_trans zw72 zw76))))))) rfl rfl rfl ?_
       rintro v81 w82 ⟨k83, ow84⟩
       replace K0 := Ex.kp_new K0 k83 (fun b h => Nat.le_trans zw2 (ow71.lt b h).1)
       replace f8 := f8.kp k83 (fun b h e => Nat.lt_irrefl _ (Nat.lt_of_lt_of_le (show b < _ from h) (Nat.le_trans zw2 (ow71.lt b e).1)))
       replace f9 := f9.kp k83 (fun h => Nat.lt_irrefl _ (Nat.lt_of_lt_of_le lg1 (Nat.le_trans (Nat.le_refl _) (ow71.lt _ h).1)))
       replace b79 := b79.kp k83 (fun h => Nat.lt_irrefl _ (rw80 _ h))
       have zw82 := k83.size
       refine rw_ev (ev_assign rfl) rfl rfl rfl ?_
       refine rw_nil ?_
       refine nw_block ?_
       refine nw_seq ?_
       refine cw_region ?_
       refine rw_ev (ev_move rfl) rfl rfl rfl ?_
       refine rw_ev (ev_add rfl rfl (by omega)) rfl rfl rfl ?_
       refine rw_ev (ev_assign rfl) rfl rfl rfl ?_
       refine rw_nil ?_
       exact nw_round ((i + 1), v81, (((st.1 ++ [c]) ++ [c33]), true)) (Sub.cons rfl (Sub.cons rfl (Sub.cons rfl (Sub.cons rfl (Sub.val (v := .bool ((((st.1 ++ [c]) ++ [c33]), true).2)) rfl (by rfl) (Sub.int (b := ((i + 1) : Int)) rfl (by omega) Sub.nil)))))) ⟨K0, (Nat.le_trans z7 (Nat.le_trans zw15 (Nat.le_trans zw59 (Nat.le_trans zw63 (Nat.le_trans zw69 (Nat.le_trans zw72 (Nat.le_trans zw76 zw82))))))), f8, f9, (by exact ow84), (by first | omega | (simp only [List.length_append, List.length_cons, List.length_nil]; omega) | (rw [take_succ_fold (by assumption : l[i]? = some _)]; simp_all [putStep])), (by first | omega | (simp only [List.length_append, List.length_cons, List.length_nil]; omega) | (rw [take_succ_fold (by assumption : l[i]? = some _)]; simp_all [putStep])), (by first | omega | (simp only [List.length_append, List.length_cons, List.length_nil]; omega) | (rw [take_succ_fold (by assumption : l[i]? = some _)]; simp_all [putStep]))⟩ (by first | omega | (dsimp only; omega))
      ·
       refine cw_f (b := decide ((c33 : Cell) ≠ c)) rfl (dec_f h74) ?_
       refine cw_skip ?_
       refine nw_block ?_
       refine nw_seq ?_
       refine cw_region ?_
       refine rw_ev (ev_move rfl) rfl rfl rfl ?_
       refine rw_ev (ev_add rfl rfl (by omega)) rfl rfl rfl ?_
       refine rw_ev (ev_assign rfl) rfl rfl rfl ?_
       refine rw_nil ?_
       exact nw_round ((i + 1), v68, ((st.1 ++ [c]), true)) (Sub.cons rfl (Sub.cons rfl (Sub.cons rfl (Sub.cons rfl (Sub.val (v := .bool (((st.1 ++ [c]), true).2)) rfl (by rfl) (Sub.int (b := ((i + 1) : Int)) rfl (by omega) Sub.nil)))))) ⟨K0, (Nat.le_trans z7 (Nat.le_trans zw15 (Nat.le_trans zw59 (Nat.le_trans zw63 (Nat.le_trans zw69 zw72))))), f8, f9, (by exact ow71), (by first | omega | (simp only [List.length_append, List.length_cons, List.length_nil]; omega) | (rw [take_succ_fold (by assumption : l[i]? = some _)]; simp_all [putStep])), (by first | omega | (simp only [List.length_append, List.length_cons, List.length_nil]; omega) | (rw [take_succ_fold (by assumption : l[i]? = some _)]; simp_all [putStep])), (by first | omega | (simp only [List.length_append, List.length_cons, List.length_nil]; omega) | (rw [take_succ_fold (by assumption : l[i]? = some _)]; simp_all [putStep]))⟩ (by first | omega | (dsimp only; omega))
     ·
      refine cw_f (b := ltC c c33) rfl h61 ?_
      refine cw_skip ?_
      refine nw_seq ?_
      refine cw_seq ?_
      refine cw_drawn (fun w85 w_ => Ex w85 w_) [] (.take 0 (.take 1 (.take 2 (.take 3 (.take 4 (.take 5 .done)))))) mixed (by kernel_rfl) (by kernel_rfl) (Nat.le_of_ble_eq_true (by kernel_rfl)) ?_; intro w85 k86 hs_
      replace K0 := Ex.trans K0 k86
      replace f8 := f8.ex k86
      replace f9 := f9.ex k86
      replace f10 := f10.ex k86
      have zw85 := k86.size
      have hS : (fun w_ => Ex w85 w_) w85 := Kp.refl _ _
      refine rp_take hs_ hS rfl rfl (ev_move rfl) rfl rfl rfl ?_
      refine rp_take hs_ hS rfl rfl (ev_move rfl) rfl rfl rfl ?_
      refine rp_take (v := elemPtr v i 2 0) hs_ hS rfl rfl (ev_slAt (i := (i : Int)) ⟨_, (f8.ex hS)⟩ rfl rfl el_46 (idx_ok (i := (i : Int)) hc34 (by omega))) rfl rfl rfl ?_
      refine rp_take (v := .agg #[.int .i64 c33.1, .int .i64 c33.2]) hs_ hS rfl rfl (ev_elLoadk (us := [.int .i64 c33.1, .int .i64 c33.2]) (fun _ h => (f8.ex h)) ⟨_, hS⟩ rfl (get_enc hc34) agg_55 (by decide) rfl rfl) rfl rfl rfl ?_
      refine rp_take (v := .agg #[.int .i64 c.1, .int .i64 c.2]) hs_ hS rfl rfl (ev_lbk (off := 0) (vs := [.int .i64 c.1, .int .i64 c.2]) (fun _ h => f9.ex h) rfl agg_55 rfl rfl) rfl rfl rfl ?_
      refine rp_take hs_ hS rfl rfl (ev_neq_55 rfl rfl) rfl rfl rfl ?_
      refine rp_done ?_
      clear hs_
      refine nw_seq ?_
      by_cases h87 : (c33 : Cell) ≠ c
      ·
       refine cw_t (b := decide ((c33 : Cell) ≠ c)) rfl (dec_t h87) ?_
       refine cw_region ?_
       refine rw_ev (ev_move rfl) rfl rfl rfl ?_
       refine rw_ev (ev_move rfl) rfl rfl rfl ?_
       refine rw_ev (ev_move rfl) rfl rfl rfl ?_
       refine rw_ev (v := elemPtr v i 2 0) (ev_slAt (i := (i : Int)) ⟨_, f8⟩ rfl rfl el_46 (idx_ok (i := (i : Int)) hc34 (by omega))) rfl rfl rfl ?_
       refine rw_ev (v := .agg #[.int .i64 c33.1, .int .i64 c33.2]) (ev_elLoadk (us := [.int .i64 c33.1, .int .i64 c33.2]) (fun _ h => h ▸ f8) ⟨_, rfl⟩ rfl (get_enc hc34) agg_55 (by decide) rfl rfl) rfl rfl rfl ?_
       refine rw_op (op_buildSlice (E := 55) (m := 1) (pv := #[(0, .agg #[.int .i64 c33.1, .int .i64 c33.2])]) (cs := #[.int .i64 c33.1, .int .i64 c33.2]) rfl (fun _ => by kernel_rfl)) rfl rfl rfl ?_
       rintro _ w89 ⟨g88, rfl, hg90, k91, b92⟩
       have rw93 : ∀ b, (x : Value).ownBlock = some b → b < g88 := fun b h => Nat.lt_of_lt_of_le (f10.lt b h).2 hg90
       replace K0 := Ex.trans K0 k91
       replace f8 := f8.ex k91
       replace f9 := f9.ex k91
       replace f10 := f10.ex k91
       have zw89 := k91.size
       have lg88 := b92.lt
       refine rw_op (op_app1 (f := encC) (l := st.1) (c := c33) (B := w2.heap.size) row_46 plainC f10 b92 rfl rfl rfl (by decide) (by unfold maxLen; first | omega | (simp only [List.length_append, List.length_cons, List.length_nil]; omega)) (by first | omega | (simp only [List.length_append, List.length_cons, List.length_nil]; omega)) (Nat.le_trans z7 (Nat.le_trans zw15 (Nat.le_trans zw59 (Nat.le_trans zw85 zw89))))) rfl rfl rfl ?_
       rintro v94 w95 ⟨k96, ow97⟩
       replace K0 := Ex.kp_new K0 k96 (fun b h => Nat.le_trans zw2 (f10.lt b h).1)
       replace f8 := f8.kp k96 (fun b h e => Nat.lt_irrefl _ (Nat.lt_of_lt_of_le (show b < _ from h) (Nat.le_trans zw2 (f10.lt b e).1)))
       replace f9 := f9.kp k96 (fun h => Nat.lt_irrefl _ (Nat.lt_of_lt_of_le lg1 (Nat.le_trans (Nat.le_refl _) (f10.lt _ h).1)))
       replace b92 := b92.kp k96 (fun h => Nat.lt_irrefl _ (rw93 _ h))
       have zw95 := k96.size
       refine rw_ev (ev_assign rfl) rfl rfl rfl ?_
       refine rw_nil ?_
       refine nw_block ?_
       refine nw_seq ?_
       refine cw_region ?_
       refine rw_ev (ev_move rfl) rfl rfl rfl ?_
       refine rw_ev (ev_add rfl rfl (by omega)) rfl rfl rfl ?_
       refine rw_ev (ev_assign rfl) rfl rfl rfl ?_
       refine rw_nil ?_
       exact nw_round ((i + 1), v94, ((st.1 ++ [c33]), st.2)) (Sub.cons rfl (Sub.cons rfl (Sub.cons rfl (Sub.cons rfl (Sub.val (v := .bool (((st.1 ++ [c33]), st.2).2)) rfl (by rfl) (Sub.int (b := ((i + 1) : Int)) rfl (by omega) Sub.nil)))))) ⟨K0, (Nat.le_trans z7 (Nat.le_trans zw15 (Nat.le_trans zw59 (Nat.le_trans zw85 (Nat.le_trans zw89 zw95))))), f8, f9, (by exact ow97), (by first | omega | (simp only [List.length_append, List.length_cons, List.length_nil]; omega) | (rw [take_succ_fold (by assumption : l[i]? = some _)]; simp_all [putStep])), (by first | omega | (simp only [List.length_append, List.length_cons, List.length_nil]; omega) | (rw [take_succ_fold (by assumption : l[i]? = some _)]; simp_all [putStep])), (by first | omega | (simp only [List.length_append, List.length_cons, List.length_nil]; omega) | (rw [take_succ_fold (by assumption : l[i]? = some _)]; simp_all [putStep]))⟩ (by first | omega | (dsimp only; omega))
      ·
       refine cw_f (b := decide ((c33 : Cell) ≠ c)) rfl (dec_f h87) ?_
       refine cw_skip ?_
       refine nw_block ?_
       refine nw_seq ?_
       refine cw_region ?_
       refine rw_ev (ev_move rfl) rfl rfl rfl ?_
       refine rw_ev (ev_add rfl rfl (by omega)) rfl rfl rfl ?_
       refine rw_ev (ev_assign rfl) rfl rfl rfl ?_
       refine rw_nil ?_
       exact nw_round ((i + 1), x, (st.1, st.2)) (Sub.cons rfl (Sub.cons rfl (Sub.cons rfl (Sub.cons rfl (Sub.val (v := .bool ((st.1, st.2).2)) rfl (by rfl) (Sub.int (b := ((i + 1) : Int)) rfl (by omega) Sub.nil)))))) ⟨K0, (Nat.le_trans z7 (Nat.le_trans zw15 (Nat.le_trans zw59 zw85))), f8, f9, (by exact f10), (by first | omega | (simp only [List.length_append, List.length_cons, List.length_nil]; omega) | (rw [take_succ_fold (by assumption : l[i]? = some _)]; simp_all [putStep])), (by first | omega | (simp only [List.length_append, List.length_cons, List.length_nil]; omega) | (rw [take_succ_fold (by assumption : l[i]? = some _)]; simp_all [putStep])), (by first | omega | (simp only [List.length_append, List.length_cons, List.length_nil]; omega) | (rw [take_succ_fold (by assumption : l[i]? = some _)]; simp_all [putStep]))⟩ (by first | omega | (dsimp only; omega))
  ·
   refine cw_f (b := decide ((i : Int) < (l.length : Int))) rfl (dec_f h14) ?_
   refine cw_exit ?_
   refine xw_seq ?_
   refine xw_goal ?_
   refine xw_hit ?_
   refine nw_seq ?_
   refine cw_seq ?_
   refine cw_seq ?_
   refine cw_region ?_
   refine rw_ev (ev_move rfl) rfl rfl rfl ?_
   refine rw_ev (ev_not rfl rfl) rfl rfl rfl ?_
   refine rw_nil ?_
   refine nw_seq ?_
   rcases Bool.eq_false_or_eq_true (st.2) with h98 | h98
   ·
    refine cw_f (b := !st.2) rfl (not_f h98) ?_
    refine cw_skip ?_
    refine nw_seq ?_
    refine cw_seq ?_
    refine cw_region ?_
    refine rw_ev (ev_move rfl) rfl rfl rfl ?_
    refine rw_ev (ev_assign rfl) rfl rfl rfl ?_
    refine rw_nil ?_
    refine nw_seq ?_
    refine cw_ret ?_
    refine ret_post (rs := [.tmp 4]) (vs := [x]) rfl (.tmp rfl .nil) ?_
    refine ⟨x, ?_, K0, ?_⟩
    · show (x : Value) = _
      first | rfl | simp
    · have hl_ : st.1 = putC l c := by have ht := take_all (by assumption : ¬ (i : Int) < l.length); simp_all [putC, putFin]
      rw [← hl_]; exact f10.sl.since (fun _ hb => Nat.le_trans zw2 hb.1)
   ·
    refine cw_t (b := !st.2) rfl (not_t h98) ?_
    refine cw_region ?_
    refine rw_ev (ev_move rfl) rfl rfl rfl ?_
    refine rw_ev (v := .agg #[.int .i64 c.1, .int .i64 c.2]) (ev_lbk (off := 0) (vs := [.int .i64 c.1, .int .i64 c.2]) (fun _ h => h ▸ f9) rfl agg_55 rfl rfl) rfl rfl rfl ?_
    refine rw_op (op_buildSlice (E := 55) (m := 1) (pv := #[(0, .agg #[.int .i64 c.1, .int .i64 c.2])]) (cs := #[.int .i64 c.1, .int .i64 c.2]) rfl (fun _ => by kernel_rfl)) rfl rfl rfl ?_
    rintro _ w100 ⟨g99, rfl, hg101, k102, b103⟩
    have rw104 : ∀ b, (x : Value).ownBlock = some b → b < g99 := fun b h => Nat.lt_of_lt_of_le (f10.lt b h).2 hg101
    replace K0 := Ex.trans K0 k102
    replace f8 := f8.ex k102
    replace f9 := f9.ex k102
    replace f10 := f10.ex k102
    have zw100 := k102.size
    have lg99 := b103.lt
    refine rw_op (op_app1 (f := encC) (l := st.1) (c := c) (B := w2.heap.size) row_46 plainC f10 b103 rfl rfl rfl (by decide) (by unfold maxLen; first | omega | (simp only [List.length_append, List.length_cons, List.length_nil]; omega)) (by first | omega | (simp only [List.length_append, List.length_cons, List.length_nil]; omega)) (Nat.le_trans z7 zw100)) rfl rfl rfl ?_
    rintro v105 w106 ⟨k107, ow108⟩
    replace K0 := Ex.kp_new K0 k107 (fun b h => Nat.le_trans zw2 (f10.lt b h).1)
    replace f8 := f8.kp k107 (fun b h e => Nat.lt_irrefl _ (Nat.lt_of_lt_of_le (show b < _ from h) (Nat.le_trans zw2 (f10.lt b e).1)))
    replace f9 := f9.kp k107 (fun h => Nat.lt_irrefl _ (Nat.lt_of_lt_of_le lg1 (Nat.le_trans (Nat.le_refl _) (f10.lt _ h).1)))
    replace b103 := b103.kp k107 (fun h => Nat.lt_irrefl _ (rw104 _ h))
    have zw106 := k107.size
    refine rw_ev (ev_assign rfl) rfl rfl rfl ?_
    refine rw_nil ?_
    refine nw_seq ?_
    refine cw_seq ?_
    refine cw_region ?_
    refine rw_ev (ev_move rfl) rfl rfl rfl ?_
    refine rw_ev (ev_assign rfl) rfl rfl rfl ?_
    refine rw_nil ?_
    refine nw_seq ?_
    refine cw_ret ?_
    refine ret_post (rs := [.tmp 4]) (vs := [v105]) rfl (.tmp rfl .nil) ?_
    refine ⟨v105, ?_, K0, ?_⟩
    · show (v105 : Value) = _
      first | rfl | simp
    · have hl_ : (st.1 ++ [c]) = putC l c := by have ht := take_all (by assumption : ¬ (i : Int) < l.length); simp_all [putC, putFin]
      rw [← hl_]; exact ow108.sl.since (fun _ hb => Nat.le_trans zw2 hb.1)

end Go.Proofs.Ythpaadmpgdglnaa
