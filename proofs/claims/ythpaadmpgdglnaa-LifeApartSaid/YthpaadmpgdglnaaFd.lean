/- A search by halves at cells, what compares, a row that grows at its end. Each theorem names its conditions. -/
import Derived.Test.YthpaadmpgdglnaaFa
import Derived.Test.YthpaadmpgdglnaaKd
import Derived.Test.YthpaadmpgdglnaaD6
namespace Go.Proofs.Ythpaadmpgdglnaa
open Go Go.RowKit
set_option linter.unusedVariables false
set_option linter.unusedSimpArgs false
set_option maxRecDepth 100000
set_option maxHeartbeats 4000000

theorem c_by (w : World)  : Fn Try.prog 102 [.func (.func 103) #[] #[]] w (fun v w' => ∃ g : Nat, v = .func (.func 144) #[] #[.pointer (some ⟨g, 0, none⟩)] ∧ Ex w w' ∧ (w.heap.size ≤ g ∧ Bx w' g 140 #[.func (.func 103) #[] #[]])) := by
  have K0 : Ex w w := Kp.refl _ _
  refine fn_enter (n := 4) Try.func102 rfl rfl (Nat.le_of_ble_eq_true rfl) ?_
  show CW _ _ _ _ _ _ [(0, .func (.func 103) #[] #[])] _
  refine cw_seq ?_
  refine cw_region ?_
  refine rw_op (op_box (v := .func (.func 103) #[] #[]) (cs := #[.func (.func 103) #[] #[]]) rfl rfl) rfl rfl rfl ?_
  rintro _ w2 ⟨g1, rfl, hg3, k4, b5⟩
  replace K0 := Ex.trans K0 k4
  have zw2 := k4.size
  have lg1 := b5.lt
  refine rw_ev (ev_assign rfl) rfl rfl rfl ?_
  refine rw_nil ?_
  refine nw_seq ?_
  refine cw_seq ?_
  refine cw_region ?_
  refine rw_ev (v := .func (.func 144) #[] #[.pointer (some ⟨g1, 0, none⟩)]) (ev_makeFunc1 (us := []) (vs := [.pointer (some ⟨g1, 0, none⟩)]) rfl rfl) rfl rfl rfl ?_
  refine rw_ev (ev_assign rfl) rfl rfl rfl ?_
  refine rw_nil ?_
  refine nw_seq ?_
  refine cw_ret ?_
  refine ret_post (rs := [.tmp 2]) (vs := [.func (.func 144) #[] #[.pointer (some ⟨g1, 0, none⟩)]]) rfl (.tmp rfl .nil) ?_
  refine ⟨g1, ?_, K0, ?_⟩
  · show (.func (.func 144) #[] #[.pointer (some ⟨g1, 0, none⟩)] : Value) = _
    rfl
  · exact ⟨Nat.le_trans (Nat.le_refl _) hg3, b5⟩

theorem c_bin (w : World) (v : Value) (l : List Cell) (hv : Sl w (fun b => b < w.heap.size) v 2 (l.map encC)) (c : Cell) (g : Nat) (hg : Bx w g 140 #[.func (.func 103) #[] #[]]) (hu : UpC l) (hn : l.length ≤ 1000000) : Fn Try.prog 106 [v, .agg #[.int .i64 c.1, .int .i64 c.2], .func (.func 144) #[] #[.pointer (some ⟨g, 0, none⟩)]] w (fun v w' =>  v = .tuple #[.int .i64 (lowC l c : Int), .bool (hasC l c)] ∧ Ex w w') := by
  have K0 : Ex w w := Kp.refl _ _
  refine fn_enter (n := 49) Try.func106 rfl rfl (Nat.le_of_ble_eq_true rfl) ?_
  show CW _ _ _ _ _ _ [(0, v), (1, .agg #[.int .i64 c.1, .int .i64 c.2]), (2, .func (.func 144) #[] #[.pointer (some ⟨g, 0, none⟩)])] _
  have hlv_ := hv.lenm
  have lbg := hg.lt
  have hlow_ := lowC_le l c
  refine cw_seq ?_
  refine cw_region ?_
  refine rw_op (op_box (v := .agg #[.int .i64 c.1, .int .i64 c.2]) (cs := #[.int .i64 c.1, .int .i64 c.2]) rfl rfl) rfl rfl rfl ?_
  rintro _ w2 ⟨g1, rfl, hg3, k4, b5⟩
  replace K0 := Ex.trans K0 k4
  replace hv := hv.ex k4
  replace hg := hg.ex k4
  have zw2 := k4.size
  have lg1 := b5.lt
  refine rw_ev (ev_assign rfl) rfl rfl rfl ?_
  refine rw_ev (ev_assign rfl) rfl rfl rfl ?_
  refine rw_nil ?_
  refine nw_seq ?_
  refine cw_seq ?_
  refine cw_region ?_
  refine rw_ev (ev_move rfl) rfl rfl rfl ?_
  refine rw_ev (v := .int .i64 (l.length : Int)) (ev_lenm (l := l) ⟨_, hv⟩ rfl el_46 rfl) rfl rfl rfl ?_
  refine rw_ev (ev_assign rfl) rfl rfl rfl ?_
  refine rw_nil ?_
  refine nw_seq ?_
  refine cw_seq ?_
  refine cw_region ?_
  refine rw_ev (ev_move rfl) rfl rfl rfl ?_
  refine rw_ev (ev_assign rfl) rfl rfl rfl ?_
  refine rw_ev (ev_assign rfl) rfl rfl rfl ?_
  refine rw_nil ?_
  refine nw_seq ?_
  refine cw_seq ?_
  refine cw_block ?_
  refine cw_loop (σ := Nat × Nat) (fun s_ => match s_ with | (i, j) => [(0, v), (2, .func (.func 144) #[] #[.pointer (some ⟨g, 0, none⟩)]), (4, .pointer (some ⟨g1, 0, none⟩)), (6, .int .i64 0), (7, .bool false), (8, .int .i64 (l.length : Int)), (9, .int .i64 (i : Int)), (10, .int .i64 (j : Int))]) (fun s_ wr => match s_ with | (i, j) => Ex w wr ∧ w2.heap.size ≤ wr.heap.size ∧ Sl wr (fun b => b < w.heap.size) v 2 (l.map encC) ∧ Bx wr g 140 #[.func (.func 103) #[] #[]] ∧ Bx wr g1 55 #[.int .i64 c.1, .int .i64 c.2] ∧ i ≤ j ∧ j ≤ l.length ∧ (∀ k x, l[k]? = some x → k < i → ltC x c = true) ∧ (∀ k x, l[k]? = some x → j ≤ k → ltC x c = false)) (fun s_ => match s_ with | (i, j) => j - i) (0, l.length) (Sub.cons rfl (Sub.cons rfl (Sub.cons rfl (Sub.cons rfl (Sub.cons rfl (Sub.cons rfl (Sub.int (b := (0 : Int)) rfl (by omega) (Sub.cons rfl Sub.nil)))))))) ⟨K0, (Nat.le_refl _), hv, hg, b5, (by first | omega | (intro k x hk hlt; omega) | (intro k x hk hle; have := (List.getElem?_eq_some_iff.1 hk).1; omega)), (by first | omega | (intro k x hk hlt; omega) | (intro k x hk hle; have := (List.getElem?_eq_some_iff.1 hk).1; omega)), (by first | omega | (intro k x hk hlt; omega) | (intro k x hk hle; have := (List.getElem?_eq_some_iff.1 hk).1; omega)), (by first | omega | (intro k x hk hlt; omega) | (intro k x hk hle; have := (List.getElem?_eq_some_iff.1 hk).1; omega))⟩ ?_
  rintro ⟨i, j⟩ w6 ⟨K0, z7, f8, f9, f10, pr11, pr12, pr13, pr14⟩
  show CW _ _ _ _ _ _ [(0, v), (2, .func (.func 144) #[] #[.pointer (some ⟨g, 0, none⟩)]), (4, .pointer (some ⟨g1, 0, none⟩)), (6, .int .i64 0), (7, .bool false), (8, .int .i64 (l.length : Int)), (9, .int .i64 (i : Int)), (10, .int .i64 (j : Int))] _
  refine cw_seq ?_
  refine cw_seq ?_
  refine cw_region ?_
  refine rw_ev (ev_move rfl) rfl rfl rfl ?_
  refine rw_ev (ev_move rfl) rfl rfl rfl ?_
  refine rw_ev (ev_lss rfl rfl) rfl rfl rfl ?_
  refine rw_nil ?_
  refine nw_seq ?_
  by_cases h15 : (i : Int) < (j : Int)
  ·
   refine cw_t (b := decide ((i : Int) < (j : Int))) rfl (dec_t h15) ?_
   refine cw_skip ?_
   refine nw_seq ?_
   refine cw_block ?_
   refine cw_seq ?_
   refine cw_region ?_
   refine rw_ev (ev_move rfl) rfl rfl rfl ?_
   refine rw_ev (ev_move rfl) rfl rfl rfl ?_
   refine rw_ev (ev_add rfl rfl (by omega)) rfl rfl rfl ?_
   refine rw_ev (v := .int .u64 ((i : Int) + (j : Int))) (ev_i2u (p := (i : Int) + (j : Int)) rfl some_3 und_int_155 (by omega)) rfl rfl rfl ?_
   refine rw_ev (v := .int .u64 (((i : Int) + (j : Int)) / 2)) (ev_ushr1 (p := (i : Int) + (j : Int)) rfl rfl) rfl rfl rfl ?_
   refine rw_ev (v := .int .i64 (((i : Int) + (j : Int)) / 2)) (ev_u2i (p := ((i : Int) + (j : Int)) / 2) rfl some_155 und_int_3 (by omega)) rfl rfl rfl ?_
   refine rw_ev (ev_assign rfl) rfl rfl rfl ?_
   refine rw_nil ?_
   refine nw_seq ?_
   refine cw_seq ?_
   refine cw_drawn (fun w16 w_ => Ex w16 w_) [] (.take 0 (.take 1 (.take 2 (.take 3 (.take 4 (.take 5 (.one 6 (.take 7 .done)))))))) mixed (by kernel_rfl) (by kernel_rfl) (Nat.le_of_ble_eq_true (by kernel_rfl)) ?_; intro w16 k17 hs_
   replace K0 := Ex.trans K0 k17
   replace f8 := f8.ex k17
   replace f9 := f9.ex k17
   replace f10 := f10.ex k17
   have zw16 := k17.size
   have hS : (fun w_ => Ex w16 w_) w16 := Kp.refl _ _
   refine rp_take hs_ hS rfl rfl (ev_move rfl) rfl rfl rfl ?_
   refine rp_take hs_ hS rfl rfl (ev_move rfl) rfl rfl rfl ?_
   refine rp_take hs_ hS rfl rfl (ev_move rfl) rfl rfl rfl ?_
   obtain ⟨c18, hc19⟩ := get_of (l := l) (i := ((i + j) / 2)) (by omega)
   refine rp_take (v := elemPtr v ((i + j) / 2) 2 0) hs_ hS rfl rfl (ev_slAt (i := ((i : Int) + (j : Int)) / 2) ⟨_, (f8.ex hS)⟩ rfl rfl el_46 (idx_ok (i := ((i : Int) + (j : Int)) / 2) hc19 (by omega))) rfl rfl rfl ?_
   refine rp_take (v := .agg #[.int .i64 c18.1, .int .i64 c18.2]) hs_ hS rfl rfl (ev_elLoadk (us := [.int .i64 c18.1, .int .i64 c18.2]) (fun _ h => (f8.ex h)) ⟨_, hS⟩ rfl (get_enc hc19) agg_55 (by decide) rfl rfl) rfl rfl rfl ?_
   refine rp_take (v := .agg #[.int .i64 c.1, .int .i64 c.2]) hs_ hS rfl rfl (ev_lbk (off := 0) (vs := [.int .i64 c.1, .int .i64 c.2]) (fun _ h => f10.ex h) rfl agg_55 rfl rfl) rfl rfl rfl ?_
   refine rp_up (up_op rfl (op_fnv (xs := [.tmp 28, .tmp 29]) (us := []) (cs := [.pointer (some ⟨g, 0, none⟩)]) ent_144 rfl rfl (c_by1 w16 c18 c g (f9.ex hS))) rfl rfl rfl ?_)
   rintro _ w20 ⟨rfl, k21⟩
   replace K0 := Ex.trans K0 k21
   replace hS := Ex.trans hS k21
   have zw20 := k21.size
   refine ⟨(fun _ => hS), ?_⟩
   refine rp_take hs_ hS rfl rfl (ev_lss rfl rfl) rfl rfl rfl ?_
   refine rp_done ?_
   clear hs_
   replace f8 := f8.ex hS
   replace f9 := f9.ex hS
   replace f10 := f10.ex hS
   refine nw_seq ?_
   by_cases h22 : (ordC c18 c) < 0
   ·
    refine cw_t (b := decide ((ordC c18 c) < 0)) rfl (dec_t h22) ?_
    refine cw_region ?_
    refine rw_ev (ev_move rfl) rfl rfl rfl ?_
    refine rw_ev (ev_add rfl rfl (by omega)) rfl rfl rfl ?_
    refine rw_ev (ev_assign rfl) rfl rfl rfl ?_
    refine rw_nil ?_
    refine nw_block ?_
    exact nw_round ((((i + j) / 2) + 1), j) (Sub.cons rfl (Sub.cons rfl (Sub.cons rfl (Sub.cons rfl (Sub.cons rfl (Sub.cons rfl (Sub.int (b := ((((i + j) / 2) + 1) : Int)) rfl (by omega) (Sub.cons rfl Sub.nil)))))))) ⟨K0, (Nat.le_trans z7 (Nat.le_trans zw16 zw20)), f8, f9, f10, (by first | omega | assumption | exact bin_lo hu (by assumption) (by assumption) | exact bin_hi hu (by assumption) (by assumption)), (by first | omega | assumption | exact bin_lo hu (by assumption) (by assumption) | exact bin_hi hu (by assumption) (by assumption)), (by first | omega | assumption | exact bin_lo hu (by assumption) (by assumption) | exact bin_hi hu (by assumption) (by assumption)), (by first | omega | assumption | exact bin_lo hu (by assumption) (by assumption) | exact bin_hi hu (by assumption) (by assumption))⟩ (by first | omega | (dsimp only; omega))
   ·
    refine cw_f (b := decide ((ordC c18 c) < 0)) rfl (dec_f h22) ?_
    refine cw_region ?_
    refine rw_ev (ev_move rfl) rfl rfl rfl ?_
    refine rw_ev (ev_assign rfl) rfl rfl rfl ?_
    refine rw_nil ?_
    refine nw_block ?_
    exact nw_round (i, ((i + j) / 2)) (Sub.cons rfl (Sub.cons rfl (Sub.cons rfl (Sub.cons rfl (Sub.cons rfl (Sub.cons rfl (Sub.cons rfl (Sub.int (b := (((i + j) / 2) : Int)) rfl (by omega) Sub.nil)))))))) ⟨K0, (Nat.le_trans z7 (Nat.le_trans zw16 zw20)), f8, f9, f10, (by first | omega | assumption | exact bin_lo hu (by assumption) (by assumption) | exact bin_hi hu (by assumption) (by assumption)), (by first | omega | assumption | exact bin_lo hu (by assumption) (by assumption) | exact bin_hi hu (by assumption) (by assumption)), (by first | omega | assumption | exact bin_lo hu (by assumption) (by assumption) | exact bin_hi hu (by assumption) (by assumption)), (by first | omega | assumption | exact bin_lo hu (by assumption) (by assumption) | exact bin_hi hu (by assumption) (by assumption))⟩ (by first | omega | (dsimp only; omega))
  ·
   refine cw_f (b := decide ((i : Int) < (j : Int))) rfl (dec_f h15) ?_
   refine cw_exit ?_
   refine xw_seq ?_
   refine xw_goal ?_
   refine xw_hit ?_
   refine nw_seq ?_
   refine cw_seq ?_
   refine cw_drawn (fun w23 w_ => Ex w23 w_) [] (.take 0 (.take 1 (.take 2 (.take 3 (.take 4 (.take 5 (.take 6 (.take 7 (.take 8 (.take 9 (.take 10 (.one 11 (.take 12 (.take 13 (.take 14 (.take 15 .done)))))))))))))))) mixed (by kernel_rfl) (by kernel_rfl) (Nat.le_of_ble_eq_true (by kernel_rfl)) ?_; intro w23 k24 hs_
   replace K0 := Ex.trans K0 k24
   replace f8 := f8.ex k24
   replace f9 := f9.ex k24
   replace f10 := f10.ex k24
   have zw23 := k24.size
   have hS : (fun w_ => Ex w23 w_) w23 := Kp.refl _ _
   refine rp_take hs_ hS rfl rfl (ev_move rfl) rfl rfl rfl ?_
   refine rp_take hs_ hS rfl rfl (ev_move rfl) rfl rfl rfl ?_
   refine rp_take hs_ hS rfl rfl (ev_move rfl) rfl rfl rfl ?_
   refine rp_take hs_ hS rfl rfl (ev_lss rfl rfl) rfl rfl rfl ?_
   refine rp_take hs_ hS rfl rfl (ev_move rfl) rfl rfl rfl ?_
   by_cases h25 : (i : Int) < (l.length : Int)
   ·
    refine rp_take hs_ hS rfl rfl (ev_move rfl) (gd_tt rfl (dec_t h25)) rfl rfl ?_
    refine rp_take hs_ hS rfl rfl (ev_move rfl) (gd_tt rfl (dec_t h25)) rfl rfl ?_
    refine rp_take hs_ hS rfl rfl (ev_move rfl) (gd_tt rfl (dec_t h25)) rfl rfl ?_
    obtain ⟨c26, hc27⟩ := get_of (l := l) (i := i) (by omega)
    refine rp_take (v := elemPtr v i 2 0) hs_ hS rfl rfl (ev_slAt (i := (i : Int)) ⟨_, (f8.ex hS)⟩ rfl rfl el_46 (idx_ok (i := (i : Int)) hc27 (by omega))) (gd_tt rfl (dec_t h25)) rfl rfl ?_
    refine rp_take (v := .agg #[.int .i64 c26.1, .int .i64 c26.2]) hs_ hS rfl rfl (ev_elLoadk (us := [.int .i64 c26.1, .int .i64 c26.2]) (fun _ h => (f8.ex h)) ⟨_, hS⟩ rfl (get_enc hc27) agg_55 (by decide) rfl rfl) (gd_tt rfl (dec_t h25)) rfl rfl ?_
    refine rp_take (v := .agg #[.int .i64 c.1, .int .i64 c.2]) hs_ hS rfl rfl (ev_lbk (off := 0) (vs := [.int .i64 c.1, .int .i64 c.2]) (fun _ h => f10.ex h) rfl agg_55 rfl rfl) (gd_tt rfl (dec_t h25)) rfl rfl ?_
    refine rp_up (up_op rfl (op_fnv (xs := [.tmp 44, .tmp 45]) (us := []) (cs := [.pointer (some ⟨g, 0, none⟩)]) ent_144 rfl rfl (c_by1 w23 c26 c g (f9.ex hS))) (gd_tt rfl (dec_t h25)) rfl rfl ?_)
    rintro _ w28 ⟨rfl, k29⟩
    replace K0 := Ex.trans K0 k29
    replace hS := Ex.trans hS k29
    have zw28 := k29.size
    refine ⟨(fun _ => hS), ?_⟩
    refine rp_take hs_ hS rfl rfl (ev_eq rfl rfl) (gd_tt rfl (dec_t h25)) rfl rfl ?_
    refine rp_take hs_ hS rfl rfl (ev_pk_t rfl (dec_t h25) rfl) rfl rfl rfl ?_
    refine rp_take hs_ hS rfl rfl (ev_assign rfl) rfl rfl rfl ?_
    refine rp_take hs_ hS rfl rfl (ev_assign rfl) rfl rfl rfl ?_
    refine rp_done ?_
    clear hs_
    replace f8 := f8.ex hS
    replace f9 := f9.ex hS
    replace f10 := f10.ex hS
    refine nw_seq ?_
    refine cw_ret ?_
    refine ret_post (rs := [.tmp 6, .tmp 7]) (vs := [.int .i64 (i : Int), .bool (decide ((ordC c26 c) = 0))]) rfl (.tmp rfl (.tmp rfl .nil)) ?_
    have hi_ : lowC l c = i := lowC_eq (by omega) (by assumption) (by intro k x hk hle; exact (by assumption : ∀ k x, l[k]? = some x → j ≤ k → ltC x c = false) k x hk (by omega))
    refine ⟨?_, K0⟩
    · show (.tuple #[.int .i64 (i : Int), .bool (decide ((ordC c26 c) = 0))] : Value) = _
      rw [bin_has hu hi_ (by assumption), hi_]
   ·
    refine rp_skip hs_ hS rfl rfl (gd_tf rfl (dec_f h25)) rfl rfl ?_
    refine rp_skip hs_ hS rfl rfl (gd_tf rfl (dec_f h25)) rfl rfl ?_
    refine rp_skip hs_ hS rfl rfl (gd_tf rfl (dec_f h25)) rfl rfl ?_
    refine rp_skip hs_ hS rfl rfl (gd_tf rfl (dec_f h25)) rfl rfl ?_
    refine rp_skip hs_ hS rfl rfl (gd_tf rfl (dec_f h25)) rfl rfl ?_
    refine rp_skip hs_ hS rfl rfl (gd_tf rfl (dec_f h25)) rfl rfl ?_
    refine rp_up (up_skip rfl (gd_tf rfl (dec_f h25)) rfl rfl (fun _ => hS) ?_)
    refine rp_skip hs_ hS rfl rfl (gd_tf rfl (dec_f h25)) rfl rfl ?_
    refine rp_take hs_ hS rfl rfl (ev_pk_f rfl (dec_f h25) rfl) rfl rfl rfl ?_
    refine rp_take hs_ hS rfl rfl (ev_assign rfl) rfl rfl rfl ?_
    refine rp_take hs_ hS rfl rfl (ev_assign rfl) rfl rfl rfl ?_
    refine rp_done ?_
    clear hs_
    refine nw_seq ?_
    refine cw_ret ?_
    refine ret_post (rs := [.tmp 6, .tmp 7]) (vs := [.int .i64 (i : Int), .bool false]) rfl (.tmp rfl (.tmp rfl .nil)) ?_
    have hi_ : lowC l c = i := lowC_eq (by omega) (by assumption) (by intro k x hk hle; exact (by assumption : ∀ k x, l[k]? = some x → j ≤ k → ltC x c = false) k x hk (by omega))
    refine ⟨?_, K0⟩
    · show (.tuple #[.int .i64 (i : Int), .bool false] : Value) = _
      rw [bin_none hu hi_ (by omega), hi_]

theorem c_compactN (w : World)  : Fn Try.prog 105 [.slice none 0 0] w (fun v w' =>  v = .slice none 0 0 ∧ Ex w w') := by
  have K0 : Ex w w := Kp.refl _ _
  refine fn_enter (n := 61) Try.func105 rfl rfl (Nat.le_of_ble_eq_true rfl) ?_
  show CW _ _ _ _ _ _ [(0, .slice none 0 0)] _
  refine cw_seq ?_
  refine cw_region ?_
  refine rw_ev (ev_assign rfl) rfl rfl rfl ?_
  refine rw_nil ?_
  refine nw_seq ?_
  refine cw_seq ?_
  refine cw_seq ?_
  refine cw_region ?_
  refine rw_ev (ev_move rfl) rfl rfl rfl ?_
  refine rw_ev (v := .int .i64 0) (ev_pure rfl rfl (fun _ => by kernel_rfl)) rfl rfl rfl ?_
  refine rw_ev (v := .bool true) (ev_lss (p := 0) (q := 2) rfl rfl) rfl rfl rfl ?_
  refine rw_nil ?_
  refine nw_seq ?_
  refine cw_t (b := true) rfl rfl ?_
  refine cw_seq ?_
  refine cw_region ?_
  refine rw_ev (ev_move rfl) rfl rfl rfl ?_
  refine rw_ev (ev_assign rfl) rfl rfl rfl ?_
  refine rw_nil ?_
  refine nw_seq ?_
  refine cw_ret ?_
  refine ret_post (rs := [.tmp 2]) (vs := [.slice none 0 0]) rfl (.tmp rfl .nil) ?_
  refine ⟨?_, K0⟩
  · show (.slice none 0 0 : Value) = _
    rfl

theorem c_insertE (w : World) (B : Nat) (rv : Value) (l : List Cell) (hrv : Ow w B 55 rv 2 (l.map encC)) (xB : B ≤ w.heap.size)  (gu : Nat) (c : Cell) (hgu : Bx w gu 55 #[.int .i64 c.1, .int .i64 c.2]) (hn : l.length ≤ 1000000) (hgv : ∀ b, rv.ownBlock = some b → ¬ gu = b) : Fn Try.prog 107 [rv, .int .i64 (l.length : Int), .slice (some ⟨gu, 0, none⟩) 1 1] w (fun v w' => ∃ u : Value, v = u ∧ Kp (fun b => (rv : Value).ownBlock = some b) w w' ∧ Ow w' B 55 u 2 ((l ++ [c]).map encC)) := by
  have K0 : Kp (fun b => (rv : Value).ownBlock = some b) w w := Kp.refl _ _
  refine fn_enter (n := 95) Try.func107 rfl rfl (Nat.le_of_ble_eq_true rfl) ?_
  show CW _ _ _ _ _ _ [(0, rv), (1, .int .i64 (l.length : Int)), (2, .slice (some ⟨gu, 0, none⟩) 1 1)] _
  have lbgu := hgu.lt
  have yB := fun b h => (hrv.lt b h).2
  have hl_ := hrv.sl.lenm
  refine cw_seq ?_
  refine cw_region ?_
  refine rw_ev (ev_assign rfl) rfl rfl rfl ?_
  refine rw_nil ?_
  refine nw_seq ?_
  refine cw_seq ?_
  refine cw_region ?_
  refine rw_ev (ev_move rfl) rfl rfl rfl ?_
  refine rw_ev (ev_move rfl) rfl rfl rfl ?_
  have hs1 : 0 ≤ ((l.length : Int) : Int) ∧ ((l.length : Int) : Int) ≤ (l.length : Int) ∧ ((l.length : Int) : Int) ≤ (l.map encC).length := by rw [List.length_map]; omega
  have sl2 := sub_encs hrv.sl (lo := l.length) (hi := l.length) (by omega) (by have := hs1; rw [List.length_map] at this; omega)
  refine rw_ev (v := (subSl rv l.length l.length 2)) (ev_slice (l := (l.length : Int)) (h := (l.length : Int)) ⟨_, hrv.sl⟩ rfl el_46 (.inr ⟨_, rfl, rfl⟩) (.inl ⟨rfl, by rw [List.length_map]⟩) hs1) rfl rfl rfl ?_
  refine rw_nil ?_
  refine nw_seq ?_
  refine cw_seq ?_
  refine cw_region ?_
  refine rw_ev (ev_move rfl) rfl rfl rfl ?_
  refine rw_ev (v := .int .i64 1) (ev_pure rfl rfl (fun _ => by kernel_rfl)) rfl rfl rfl ?_
  refine rw_ev (ev_assign rfl) rfl rfl rfl ?_
  refine rw_nil ?_
  refine nw_seq ?_
  refine cw_seq ?_
  refine cw_seq ?_
  refine cw_region ?_
  refine rw_ev (ev_move rfl) rfl rfl rfl ?_
  refine rw_ev (v := .bool false) (ev_eq (p := 1) (q := 0) rfl rfl) rfl rfl rfl ?_
  refine rw_nil ?_
  refine nw_seq ?_
  refine cw_f (b := false) rfl rfl ?_
  refine cw_skip ?_
  refine nw_seq ?_
  refine cw_seq ?_
  refine cw_region ?_
  refine rw_ev (ev_move rfl) rfl rfl rfl ?_
  refine rw_ev (v := .int .i64 (l.length : Int)) (ev_lenm (l := l) ⟨_, hrv.sl⟩ rfl el_46 rfl) rfl rfl rfl ?_
  refine rw_ev (ev_assign rfl) rfl rfl rfl ?_
  refine rw_nil ?_
  refine nw_seq ?_
  refine cw_seq ?_
  refine cw_seq ?_
  refine cw_region ?_
  refine rw_ev (ev_move rfl) rfl rfl rfl ?_
  refine rw_ev (ev_move rfl) rfl rfl rfl ?_
  refine rw_ev (ev_eq rfl rfl) rfl rfl rfl ?_
  refine rw_nil ?_
  refine nw_seq ?_
  refine cw_t (b := decide ((l.length : Int) = (l.length : Int))) rfl (dec_t rfl) ?_
  refine cw_seq ?_
  refine cw_region ?_
  refine rw_ev (ev_move rfl) rfl rfl rfl ?_
  refine rw_ev (ev_move rfl) rfl rfl rfl ?_
  refine rw_op (op_app1 (f := encC) (l := l) (c := c) (B := B) row_46 plainC hrv hgu rfl rfl rfl (by decide) (by unfold maxLen; omega) (by omega) xB) rfl rfl rfl ?_
  rintro v3 w4 ⟨k5, ow6⟩
  replace K0 := Kp.trans K0 k5 (fun _ h => h) (fun _ _ h => h)
  replace hgu := hgu.kp k5 (fun h_ => hgv _ h_ rfl)
  have zw4 := k5.size
  refine rw_ev (ev_assign rfl) rfl rfl rfl ?_
  refine rw_nil ?_
  refine nw_seq ?_
  refine cw_ret ?_
  refine ret_post (rs := [.tmp 6]) (vs := [v3]) rfl (.tmp rfl .nil) ?_
  refine ⟨v3, ?_, K0, ?_⟩
  · show (v3 : Value) = _
    rfl
  · exact ow6

end Go.Proofs.Ythpaadmpgdglnaa
