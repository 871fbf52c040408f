/- What small functions of the document on squares and on life compute. Each theorem names its conditions. -/
import Derived.Test.YthpaadmpgdglnaaF1
import Derived.Test.YthpaadmpgdglnaaN3
namespace Go.Proofs.Ythpaadmpgdglnaa
open Go Go.RowKit
set_option linter.unusedVariables false
set_option linter.unusedSimpArgs false
set_option maxRecDepth 100000
set_option maxHeartbeats 4000000

theorem c_around (w : World) (v : Value) (l : List Cell) (hv : Sl w (fun b => b < w.heap.size) v 2 (l.map encC)) (c : Cell) (hc : (-2199023255552 ≤ c.1 ∧ c.1 ≤ 2199023255552) ∧ (-2199023255552 ≤ c.2 ∧ c.2 ≤ 2199023255552)) (hb : ∀ c ∈ l, (-1099511627776 ≤ c.1 ∧ c.1 ≤ 1099511627776) ∧ (-1099511627776 ≤ c.2 ∧ c.2 ≤ 1099511627776)) : Fn Try.prog 95 [v, .agg #[.int .i64 c.1, .int .i64 c.2]] w (fun v w' =>  v = .int .i64 (aroundC l c) ∧ Ex w w') := by
  have K0 : Ex w w := Kp.refl _ _
  refine fn_enter (n := 56) Try.func95 rfl rfl (Nat.le_of_ble_eq_true rfl) ?_
  show CW _ _ _ _ _ _ [(0, v), (1, .agg #[.int .i64 c.1, .int .i64 c.2])] _
  have hlv_ := hv.lenm
  refine cw_seq ?_
  refine cw_region ?_
  refine rw_op (op_box (v := .agg #[.int .i64 c.1, .int .i64 c.2]) (cs := #[.int .i64 c.1, .int .i64 c.2]) rfl rfl) rfl rfl rfl ?_
  rintro _ w2 ⟨g1, rfl, hg3, k4, b5⟩
  replace K0 := Ex.trans K0 k4
  replace hv := hv.ex k4
  have zw2 := k4.size
  have lg1 := b5.lt
  refine rw_ev (ev_assign rfl) rfl rfl rfl ?_
  refine rw_nil ?_
  refine nw_seq ?_
  refine cw_seq ?_
  refine cw_region ?_
  refine rw_ev (ev_assign rfl) rfl rfl rfl ?_
  refine rw_nil ?_
  refine nw_seq ?_
  refine cw_seq ?_
  refine cw_seq ?_
  refine cw_region ?_
  refine rw_ev (ev_assign rfl) rfl rfl rfl ?_
  refine rw_nil ?_
  refine nw_seq ?_
  refine cw_block ?_
  refine cw_loop (σ := Nat × Int) (fun s_ => match s_ with | (i, n) => [(0, v), (3, .pointer (some ⟨g1, 0, none⟩)), (4, .int .i64 0), (5, .int .i64 n), (6, .int .i64 (i : Int))]) (fun s_ wr => match s_ with | (i, n) => Ex w wr ∧ w2.heap.size ≤ wr.heap.size ∧ Sl wr (fun b => b < w.heap.size) v 2 (l.map encC) ∧ Bx wr g1 55 #[.int .i64 c.1, .int .i64 c.2] ∧ n = aroundC (l.take i) c ∧ 0 ≤ n ∧ n ≤ i) (fun s_ => match s_ with | (i, n) => l.length - i) (0, 0) (Sub.cons rfl (Sub.cons rfl (Sub.cons rfl (Sub.cons rfl (Sub.int (b := (0 : Int)) rfl (by omega) Sub.nil))))) ⟨K0, (Nat.le_refl _), hv, b5, (by first | omega | simp [aroundC]), (by first | omega | simp [aroundC]), (by first | omega | simp [aroundC])⟩ ?_
  rintro ⟨i, n⟩ w6 ⟨K0, z7, f8, f9, pr10, pr11, pr12⟩
  show CW _ _ _ _ _ _ [(0, v), (3, .pointer (some ⟨g1, 0, none⟩)), (4, .int .i64 0), (5, .int .i64 n), (6, .int .i64 (i : Int))] _
  refine cw_seq ?_
  refine cw_seq ?_
  refine cw_region ?_
  refine rw_ev (ev_move rfl) rfl rfl rfl ?_
  refine rw_ev (ev_move rfl) rfl rfl rfl ?_
  refine rw_ev (v := .int .i64 (l.length : Int)) (ev_lenm (l := l) ⟨_, f8⟩ rfl el_46 rfl) rfl rfl rfl ?_
  refine rw_ev (ev_lss rfl rfl) rfl rfl rfl ?_
  refine rw_nil ?_
  refine nw_seq ?_
  by_cases h13 : (i : Int) < (l.length : Int)
  ·
   refine cw_t (b := decide ((i : Int) < (l.length : Int))) rfl (dec_t h13) ?_
   refine cw_skip ?_
   refine nw_seq ?_
   refine cw_seq ?_
   refine cw_block ?_
   refine cw_seq ?_
   refine cw_drawn (fun w14 w_ => Ex w14 w_) [] (.take 0 (.take 1 (.take 2 (.take 3 (.take 4 (.take 5 (.take 6 (.take 7 (.take 8 .done))))))))) mixed (by kernel_rfl) (by kernel_rfl) (Nat.le_of_ble_eq_true (by kernel_rfl)) ?_; intro w14 k15 hs_
   replace K0 := Ex.trans K0 k15
   replace f8 := f8.ex k15
   replace f9 := f9.ex k15
   have zw14 := k15.size
   have hS : (fun w_ => Ex w14 w_) w14 := Kp.refl _ _
   refine rp_take hs_ hS rfl rfl (ev_move rfl) rfl rfl rfl ?_
   refine rp_take hs_ hS rfl rfl (ev_move rfl) rfl rfl rfl ?_
   obtain ⟨c16, hc17⟩ := get_of (l := l) (i := i) (by omega)
   obtain ⟨⟨_, _⟩, ⟨_, _⟩⟩ := hb _ (List.mem_of_getElem? hc17)
   refine rp_take (v := elemPtr v i 2 0) hs_ hS rfl rfl (ev_slAt (i := (i : Int)) ⟨_, (f8.ex hS)⟩ rfl rfl el_46 (idx_ok (i := (i : Int)) hc17 (by omega))) rfl rfl rfl ?_
   refine rp_take (v := elemPtr v i 2 0) hs_ hS rfl rfl (ev_elField (o := 0) ⟨_, (f8.ex hS)⟩ (len_enc hc17) rfl foff_55_0) rfl rfl rfl ?_
   refine rp_take (v := .int .i64 c16.1) hs_ hS rfl rfl (ev_elLoad1 (u := .int .i64 c16.1) (fun _ h => (f8.ex h)) ⟨_, hS⟩ rfl (get_enc hc17) one_3 (by decide) rfl) rfl rfl rfl ?_
   refine rp_take (v := .pointer (some ⟨g1, 0, none⟩)) hs_ hS rfl rfl (ev_field (o := 0) rfl foff_55_0) rfl rfl rfl ?_
   refine rp_take (v := .int .i64 c.1) hs_ hS rfl rfl (ev_lb1 (off := 0) (fun _ h => f9.ex h) rfl one_3 rfl) rfl rfl rfl ?_
   refine rp_take hs_ hS rfl rfl (ev_sub rfl rfl (by omega)) rfl rfl rfl ?_
   refine rp_take hs_ hS rfl rfl (ev_assign rfl) rfl rfl rfl ?_
   refine rp_done ?_
   clear hs_
   refine nw_seq ?_
   refine cw_seq ?_
   refine cw_drawn (fun w18 w_ => Ex w18 w_) [] (.take 0 (.take 1 (.take 2 (.take 3 (.take 4 (.take 5 (.take 6 (.take 7 (.take 8 .done))))))))) mixed (by kernel_rfl) (by kernel_rfl) (Nat.le_of_ble_eq_true (by kernel_rfl)) ?_; intro w18 k19 hs_
   replace K0 := Ex.trans K0 k19
   replace f8 := f8.ex k19
   replace f9 := f9.ex k19
   have zw18 := k19.size
   have hS : (fun w_ => Ex w18 w_) w18 := Kp.refl _ _
   refine rp_take hs_ hS rfl rfl (ev_move rfl) rfl rfl rfl ?_
   refine rp_take hs_ hS rfl rfl (ev_move rfl) rfl rfl rfl ?_
   refine rp_take (v := elemPtr v i 2 0) hs_ hS rfl rfl (ev_slAt (i := (i : Int)) ⟨_, (f8.ex hS)⟩ rfl rfl el_46 (idx_ok (i := (i : Int)) hc17 (by omega))) rfl rfl rfl ?_
   refine rp_take (v := elemPtr v i 2 1) hs_ hS rfl rfl (ev_elField (o := 1) ⟨_, (f8.ex hS)⟩ (len_enc hc17) rfl foff_55_1) rfl rfl rfl ?_
   refine rp_take (v := .int .i64 c16.2) hs_ hS rfl rfl (ev_elLoad1 (u := .int .i64 c16.2) (fun _ h => (f8.ex h)) ⟨_, hS⟩ rfl (get_enc hc17) one_3 (by decide) rfl) rfl rfl rfl ?_
   refine rp_take (v := .pointer (some ⟨g1, 1, none⟩)) hs_ hS rfl rfl (ev_field (o := 1) rfl foff_55_1) rfl rfl rfl ?_
   refine rp_take (v := .int .i64 c.2) hs_ hS rfl rfl (ev_lb1 (off := 1) (fun _ h => f9.ex h) rfl one_3 rfl) rfl rfl rfl ?_
   refine rp_take hs_ hS rfl rfl (ev_sub rfl rfl (by omega)) rfl rfl rfl ?_
   refine rp_take hs_ hS rfl rfl (ev_assign rfl) rfl rfl rfl ?_
   refine rp_done ?_
   clear hs_
   refine nw_seq ?_
   refine cw_seq ?_
   refine cw_drawn (fun w20 w_ => Ex w20 w_) [] (.take 0 (.take 1 (.take 2 (.take 3 (.take 4 (.take 5 (.take 6 (.take 7 (.take 8 (.take 9 (.take 10 (.take 11 (.take 12 (.take 13 (.take 14 (.take 15 (.take 16 (.take 17 (.take 18 (.take 19 (.take 20 (.take 21 .done)))))))))))))))))))))) mixed (by kernel_rfl) (by kernel_rfl) (Nat.le_of_ble_eq_true (by kernel_rfl)) ?_; intro w20 k21 hs_
   replace K0 := Ex.trans K0 k21
   replace f8 := f8.ex k21
   replace f9 := f9.ex k21
   have zw20 := k21.size
   have hS : (fun w_ => Ex w20 w_) w20 := Kp.refl _ _
   refine rp_take hs_ hS rfl rfl (ev_move rfl) rfl rfl rfl ?_
   refine rp_take hs_ hS rfl rfl (ev_geq rfl rfl) rfl rfl rfl ?_
   refine rp_take hs_ hS rfl rfl (ev_move rfl) rfl rfl rfl ?_
   by_cases h22 : (-1) ≤ (c16.1 - c.1)
   ·
    refine rp_take hs_ hS rfl rfl (ev_move rfl) (gd_tt rfl (dec_t h22)) rfl rfl ?_
    refine rp_take hs_ hS rfl rfl (ev_leq rfl rfl) (gd_tt rfl (dec_t h22)) rfl rfl ?_
    refine rp_take hs_ hS rfl rfl (ev_pk_t rfl (dec_t h22) rfl) rfl rfl rfl ?_
    refine rp_take hs_ hS rfl rfl (ev_move rfl) rfl rfl rfl ?_
    by_cases h23 : (c16.1 - c.1) ≤ 1
    ·
     refine rp_take hs_ hS rfl rfl (ev_move rfl) (gd_tt rfl (dec_t h23)) rfl rfl ?_
     refine rp_take hs_ hS rfl rfl (ev_geq rfl rfl) (gd_tt rfl (dec_t h23)) rfl rfl ?_
     refine rp_take hs_ hS rfl rfl (ev_pk_t rfl (dec_t h23) rfl) rfl rfl rfl ?_
     refine rp_take hs_ hS rfl rfl (ev_move rfl) rfl rfl rfl ?_
     by_cases h24 : (-1) ≤ (c16.2 - c.2)
     ·
      refine rp_take hs_ hS rfl rfl (ev_move rfl) (gd_tt rfl (dec_t h24)) rfl rfl ?_
      refine rp_take hs_ hS rfl rfl (ev_leq rfl rfl) (gd_tt rfl (dec_t h24)) rfl rfl ?_
      refine rp_take hs_ hS rfl rfl (ev_pk_t rfl (dec_t h24) rfl) rfl rfl rfl ?_
      refine rp_take hs_ hS rfl rfl (ev_move rfl) rfl rfl rfl ?_
      by_cases h25 : (c16.2 - c.2) ≤ 1
      ·
       refine rp_take hs_ hS rfl rfl (ev_move rfl) (gd_tt rfl (dec_t h25)) rfl rfl ?_
       refine rp_take hs_ hS rfl rfl (ev_move rfl) (gd_tt rfl (dec_t h25)) rfl rfl ?_
       refine rp_take (v := elemPtr v i 2 0) hs_ hS rfl rfl (ev_slAt (i := (i : Int)) ⟨_, (f8.ex hS)⟩ rfl rfl el_46 (idx_ok (i := (i : Int)) hc17 (by omega))) (gd_tt rfl (dec_t h25)) rfl rfl ?_
       refine rp_take (v := .agg #[.int .i64 c16.1, .int .i64 c16.2]) hs_ hS rfl rfl (ev_elLoadk (us := [.int .i64 c16.1, .int .i64 c16.2]) (fun _ h => (f8.ex h)) ⟨_, hS⟩ rfl (get_enc hc17) agg_55 (by decide) rfl rfl) (gd_tt rfl (dec_t h25)) rfl rfl ?_
       refine rp_take (v := .agg #[.int .i64 c.1, .int .i64 c.2]) hs_ hS rfl rfl (ev_lbk (off := 0) (vs := [.int .i64 c.1, .int .i64 c.2]) (fun _ h => f9.ex h) rfl agg_55 rfl rfl) (gd_tt rfl (dec_t h25)) rfl rfl ?_
       refine rp_take hs_ hS rfl rfl (ev_neq_55 rfl rfl) (gd_tt rfl (dec_t h25)) rfl rfl ?_
       refine rp_take hs_ hS rfl rfl (ev_pk_t rfl (dec_t h25) rfl) rfl rfl rfl ?_
       refine rp_done ?_
       clear hs_
       refine nw_seq ?_
       by_cases h26 : (c16 : Cell) ≠ c
       ·
        refine cw_t (b := decide ((c16 : Cell) ≠ c)) rfl (dec_t h26) ?_
        refine cw_region ?_
        refine rw_ev (ev_move rfl) rfl rfl rfl ?_
        refine rw_ev (ev_add rfl rfl (by omega)) rfl rfl rfl ?_
        refine rw_ev (ev_assign rfl) rfl rfl rfl ?_
        refine rw_nil ?_
        refine nw_block ?_
        refine nw_seq ?_
        refine cw_region ?_
        refine rw_ev (ev_move rfl) rfl rfl rfl ?_
        refine rw_ev (ev_add rfl rfl (by omega)) rfl rfl rfl ?_
        refine rw_ev (ev_assign rfl) rfl rfl rfl ?_
        refine rw_nil ?_
        exact nw_round ((i + 1), n + 1) (Sub.cons rfl (Sub.cons rfl (Sub.cons rfl (Sub.cons rfl (Sub.int (b := ((i + 1) : Int)) rfl (by omega) Sub.nil))))) ⟨K0, (Nat.le_trans z7 (Nat.le_trans zw14 (Nat.le_trans zw18 zw20))), f8, f9, (by first | omega | exact around_yes (by assumption) (by assumption) (near_yes ⟨by omega, by omega, by omega, by omega, by assumption⟩) | exact around_no (by assumption) (by assumption) (near_no (by omega)) | exact around_no (by assumption) (by assumption) (near_same (by assumption))), (by first | omega | exact around_yes (by assumption) (by assumption) (near_yes ⟨by omega, by omega, by omega, by omega, by assumption⟩) | exact around_no (by assumption) (by assumption) (near_no (by omega)) | exact around_no (by assumption) (by assumption) (near_same (by assumption))), (by first | omega | exact around_yes (by assumption) (by assumption) (near_yes ⟨by omega, by omega, by omega, by omega, by assumption⟩) | exact around_no (by assumption) (by assumption) (near_no (by omega)) | exact around_no (by assumption) (by assumption) (near_same (by assumption)))⟩ (by first | omega | (dsimp only; omega))
       ·
        refine cw_f (b := decide ((c16 : Cell) ≠ c)) rfl (dec_f h26) ?_
        refine cw_skip ?_
        refine nw_block ?_
        refine nw_seq ?_
        refine cw_region ?_
        refine rw_ev (ev_move rfl) rfl rfl rfl ?_
        refine rw_ev (ev_add rfl rfl (by omega)) rfl rfl rfl ?_
        refine rw_ev (ev_assign rfl) rfl rfl rfl ?_
        refine rw_nil ?_
        exact nw_round ((i + 1), n) (Sub.cons rfl (Sub.cons rfl (Sub.cons rfl (Sub.cons rfl (Sub.int (b := ((i + 1) : Int)) rfl (by omega) Sub.nil))))) ⟨K0, (Nat.le_trans z7 (Nat.le_trans zw14 (Nat.le_trans zw18 zw20))), f8, f9, (by first | omega | exact around_yes (by assumption) (by assumption) (near_yes ⟨by omega, by omega, by omega, by omega, by assumption⟩) | exact around_no (by assumption) (by assumption) (near_no (by omega)) | exact around_no (by assumption) (by assumption) (near_same (by assumption))), (by first | omega | exact around_yes (by assumption) (by assumption) (near_yes ⟨by omega, by omega, by omega, by omega, by assumption⟩) | exact around_no (by assumption) (by assumption) (near_no (by omega)) | exact around_no (by assumption) (by assumption) (near_same (by assumption))), (by first | omega | exact around_yes (by assumption) (by assumption) (near_yes ⟨by omega, by omega, by omega, by omega, by assumption⟩) | exact around_no (by assumption) (by assumption) (near_no (by omega)) | exact around_no (by assumption) (by assumption) (near_same (by assumption)))⟩ (by first | omega | (dsimp only; omega))
      ·
       refine rp_skip hs_ hS rfl rfl (gd_tf rfl (dec_f h25)) rfl rfl ?_
       refine rp_skip hs_ hS rfl rfl (gd_tf rfl (dec_f h25)) rfl rfl ?_
       refine rp_skip hs_ hS rfl rfl (gd_tf rfl (dec_f h25)) rfl rfl ?_
       refine rp_skip hs_ hS rfl rfl (gd_tf rfl (dec_f h25)) rfl rfl ?_
       refine rp_skip hs_ hS rfl rfl (gd_tf rfl (dec_f h25)) rfl rfl ?_
       refine rp_skip hs_ hS rfl rfl (gd_tf rfl (dec_f h25)) rfl rfl ?_
       refine rp_take hs_ hS rfl rfl (ev_pk_f rfl (dec_f h25) rfl) rfl rfl rfl ?_
       refine rp_done ?_
       clear hs_
       refine nw_seq ?_
       refine cw_f (b := false) rfl rfl ?_
       refine cw_skip ?_
       refine nw_block ?_
       refine nw_seq ?_
       refine cw_region ?_
       refine rw_ev (ev_move rfl) rfl rfl rfl ?_
       refine rw_ev (ev_add rfl rfl (by omega)) rfl rfl rfl ?_
       refine rw_ev (ev_assign rfl) rfl rfl rfl ?_
       refine rw_nil ?_
       exact nw_round ((i + 1), n) (Sub.cons rfl (Sub.cons rfl (Sub.cons rfl (Sub.cons rfl (Sub.int (b := ((i + 1) : Int)) rfl (by omega) Sub.nil))))) ⟨K0, (Nat.le_trans z7 (Nat.le_trans zw14 (Nat.le_trans zw18 zw20))), f8, f9, (by first | omega | exact around_yes (by assumption) (by assumption) (near_yes ⟨by omega, by omega, by omega, by omega, by assumption⟩) | exact around_no (by assumption) (by assumption) (near_no (by omega)) | exact around_no (by assumption) (by assumption) (near_same (by assumption))), (by first | omega | exact around_yes (by assumption) (by assumption) (near_yes ⟨by omega, by omega, by omega, by omega, by assumption⟩) | exact around_no (by assumption) (by assumption) (near_no (by omega)) | exact around_no (by assumption) (by assumption) (near_same (by assumption))), (by first | omega | exact around_yes (by assumption) (by assumption) (near_yes ⟨by omega, by omega, by omega, by omega, by assumption⟩) | exact around_no (by assumption) (by assumption) (near_no (by omega)) | exact around_no (by assumption) (by assumption) (near_same (by assumption)))⟩ (by first | omega | (dsimp only; omega))
     ·
      refine rp_skip hs_ hS rfl rfl (gd_tf rfl (dec_f h24)) rfl rfl ?_
      refine rp_skip hs_ hS rfl rfl (gd_tf rfl (dec_f h24)) rfl rfl ?_
      refine rp_take hs_ hS rfl rfl (ev_pk_f rfl (dec_f h24) rfl) rfl rfl rfl ?_
      refine rp_take hs_ hS rfl rfl (ev_move rfl) rfl rfl rfl ?_
      refine rp_skip hs_ hS rfl rfl rfl rfl rfl ?_
      refine rp_skip hs_ hS rfl rfl rfl rfl rfl ?_
      refine rp_skip hs_ hS rfl rfl rfl rfl rfl ?_
      refine rp_skip hs_ hS rfl rfl rfl rfl rfl ?_
      refine rp_skip hs_ hS rfl rfl rfl rfl rfl ?_
      refine rp_skip hs_ hS rfl rfl rfl rfl rfl ?_
      refine rp_take hs_ hS rfl rfl (ev_pk_f rfl rfl rfl) rfl rfl rfl ?_
      refine rp_done ?_
      clear hs_
      refine nw_seq ?_
      refine cw_f (b := false) rfl rfl ?_
      refine cw_skip ?_
      refine nw_block ?_
      refine nw_seq ?_
      refine cw_region ?_
      refine rw_ev (ev_move rfl) rfl rfl rfl ?_
      refine rw_ev (ev_add rfl rfl (by omega)) rfl rfl rfl ?_
      refine rw_ev (ev_assign rfl) rfl rfl rfl ?_
      refine rw_nil ?_
      exact nw_round ((i + 1), n) (Sub.cons rfl (Sub.cons rfl (Sub.cons rfl (Sub.cons rfl (Sub.int (b := ((i + 1) : Int)) rfl (by omega) Sub.nil))))) ⟨K0, (Nat.le_trans z7 (Nat.le_trans zw14 (Nat.le_trans zw18 zw20))), f8, f9, (by first | omega | exact around_yes (by assumption) (by assumption) (near_yes ⟨by omega, by omega, by omega, by omega, by assumption⟩) | exact around_no (by assumption) (by assumption) (near_no (by omega)) | exact around_no (by assumption) (by assumption) (near_same (by assumption))), (by first | omega | exact around_yes (by assumption) (by assumption) (near_yes ⟨by omega, by omega, by omega, by omega, by assumption⟩) | exact around_no (by assumption) (by assumption) (near_no (by omega)) | exact around_no (by assumption) (by assumption) (near_same (by assumption))), (by first | omega | exact around_yes (by assumption) (by assumption) (near_yes ⟨by omega, by omega, by omega, by omega, by assumption⟩) | exact around_no (by assumption) (by assumption) (near_no (by omega)) | exact around_no (by assumption) (by assumption) (near_same (by assumption)))⟩ (by first | omega | (dsimp only; omega))
    ·
     refine rp_skip hs_ hS rfl rfl (gd_tf rfl (dec_f h23)) rfl rfl ?_
     refine rp_skip hs_ hS rfl rfl (gd_tf rfl (dec_f h23)) rfl rfl ?_
     refine rp_take hs_ hS rfl rfl (ev_pk_f rfl (dec_f h23) rfl) rfl rfl rfl ?_
     refine rp_take hs_ hS rfl rfl (ev_move rfl) rfl rfl rfl ?_
     refine rp_skip hs_ hS rfl rfl rfl rfl rfl ?_
     refine rp_skip hs_ hS rfl rfl rfl rfl rfl ?_
     refine rp_take hs_ hS rfl rfl (ev_pk_f rfl rfl rfl) rfl rfl rfl ?_
     refine rp_take hs_ hS rfl rfl (ev_move rfl) rfl rfl rfl ?_
     refine rp_skip hs_ hS rfl rfl rfl rfl rfl ?_
     refine rp_skip hs_ hS rfl rfl rfl rfl rfl ?_
     refine rp_skip hs_ hS rfl rfl rfl rfl rfl ?_
     refine rp_skip hs_ hS rfl rfl rfl rfl rfl ?_
     refine rp_skip hs_ hS rfl rfl rfl rfl rfl ?_
     refine rp_skip hs_ hS rfl rfl rfl rfl rfl ?_
     refine rp_take hs_ hS rfl rfl (ev_pk_f rfl rfl rfl) rfl rfl rfl ?_
     refine rp_done ?_
     clear hs_
     refine nw_seq ?_
     refine cw_f (b := false) rfl rfl ?_
     refine cw_skip ?_
     refine nw_block ?_
     refine nw_seq ?_
     refine cw_region ?_
     refine rw_ev (ev_move rfl) rfl rfl rfl ?_
     refine rw_ev (ev_add rfl rfl (by omega)) rfl rfl rfl ?_
     refine rw_ev (ev_assign rfl) rfl rfl rfl ?_
     refine rw_nil ?_
     exact nw_round ((i + 1), n) (Sub.cons rfl (Sub.cons rfl (Sub.cons rfl (Sub.cons rfl (Sub.int (b := ((i + 1) : Int)) rfl (by omega) Sub.nil))))) ⟨K0, (Nat.le_trans z7 (Nat.le_trans zw14 (Nat.le_trans zw18 zw20))), f8, f9, (by first | omega | exact around_yes (by assumption) (by assumption) (near_yes ⟨by omega, by omega, by omega, by omega, by assumption⟩) | exact around_no (by assumption) (by assumption) (near_no (by omega)) | exact around_no (by assumption) (by assumption) (near_same (by assumption))), (by first | omega | exact around_yes (by assumption) (by assumption) (near_yes ⟨by omega, by omega, by omega, by omega, by assumption⟩) | exact around_no (by assumption) (by assumption) (near_no (by omega)) | exact around_no (by assumption) (by assumption) (near_same (by assumption))), (by first | omega | exact around_yes (by assumption) (by assumption) (near_yes ⟨by omega, by omega, by omega, by omega, by assumption⟩) | exact around_no (by assumption) (by assumption) (near_no (by omega)) | exact around_no (by assumption) (by assumption) (near_same (by assumption)))⟩ (by first | omega | (dsimp only; omega))
   ·
    refine rp_skip hs_ hS rfl rfl (gd_tf rfl (dec_f h22)) rfl rfl ?_
    refine rp_skip hs_ hS rfl rfl (gd_tf rfl (dec_f h22)) rfl rfl ?_
    refine rp_take hs_ hS rfl rfl (ev_pk_f rfl (dec_f h22) rfl) rfl rfl rfl ?_
    refine rp_take hs_ hS rfl rfl (ev_move rfl) rfl rfl rfl ?_
    refine rp_skip hs_ hS rfl rfl rfl rfl rfl ?_
    refine rp_skip hs_ hS rfl rfl rfl rfl rfl ?_
    refine rp_take hs_ hS rfl rfl (ev_pk_f rfl rfl rfl) rfl rfl rfl ?_
    refine rp_take hs_ hS rfl rfl (ev_move rfl) rfl rfl rfl ?_
    refine rp_skip hs_ hS rfl rfl rfl rfl rfl ?_
    refine rp_skip hs_ hS rfl rfl rfl rfl rfl ?_
    refine rp_take hs_ hS rfl rfl (ev_pk_f rfl rfl rfl) rfl rfl rfl ?_
    refine rp_take hs_ hS rfl rfl (ev_move rfl) rfl rfl rfl ?_
    refine rp_skip hs_ hS rfl rfl rfl rfl rfl ?_
    refine rp_skip hs_ hS rfl rfl rfl rfl rfl ?_
    refine rp_skip hs_ hS rfl rfl rfl rfl rfl ?_
    refine rp_skip hs_ hS rfl rfl rfl rfl rfl ?_
    refine rp_skip hs_ hS rfl rfl rfl rfl rfl ?_
    refine rp_skip hs_ hS rfl rfl rfl rfl rfl ?_
    refine rp_take hs_ hS rfl rfl (ev_pk_f rfl rfl rfl) rfl rfl rfl ?_
    refine rp_done ?_
    clear hs_
    refine nw_seq ?_
    refine cw_f (b := false) rfl rfl ?_
    refine cw_skip ?_
    refine nw_block ?_
    refine nw_seq ?_
    refine cw_region ?_
    refine rw_ev (ev_move rfl) rfl rfl rfl ?_
    refine rw_ev (ev_add rfl rfl (by omega)) rfl rfl rfl ?_
    refine rw_ev (ev_assign rfl) rfl rfl rfl ?_
    refine rw_nil ?_
    exact nw_round ((i + 1), n) (Sub.cons rfl (Sub.cons rfl (Sub.cons rfl (Sub.cons rfl (Sub.int (b := ((i + 1) : Int)) rfl (by omega) Sub.nil))))) ⟨K0, (Nat.le_trans z7 (Nat.le_trans zw14 (Nat.le_trans zw18 zw20))), f8, f9, (by first | omega | exact around_yes (by assumption) (by assumption) (near_yes ⟨by omega, by omega, by omega, by omega, by assumption⟩) | exact around_no (by assumption) (by assumption) (near_no (by omega)) | exact around_no (by assumption) (by assumption) (near_same (by assumption))), (by first | omega | exact around_yes (by assumption) (by assumption) (near_yes ⟨by omega, by omega, by omega, by omega, by assumption⟩) | exact around_no (by assumption) (by assumption) (near_no (by omega)) | exact around_no (by assumption) (by assumption) (near_same (by assumption))), (by first | omega | exact around_yes (by assumption) (by assumption) (near_yes ⟨by omega, by omega, by omega, by omega, by assumption⟩) | exact around_no (by assumption) (by assumption) (near_no (by omega)) | exact around_no (by assumption) (by assumption) (near_same (by assumption)))⟩ (by first | omega | (dsimp only; omega))
  ·
   refine cw_f (b := decide ((i : Int) < (l.length : Int))) rfl (dec_f h13) ?_
   refine cw_exit ?_
   refine xw_seq ?_
   refine xw_goal ?_
   refine xw_hit ?_
   refine nw_seq ?_
   refine cw_seq ?_
   refine cw_region ?_
   refine rw_ev (ev_move rfl) rfl rfl rfl ?_
   refine rw_ev (ev_assign rfl) rfl rfl rfl ?_
   refine rw_nil ?_
   refine nw_seq ?_
   refine cw_ret ?_
   refine ret_post (rs := [.tmp 4]) (vs := [.int .i64 n]) rfl (.tmp rfl .nil) ?_
   refine ⟨?_, K0⟩
   · show (.int .i64 n : Value) = _
     rw [← take_all (by assumption : ¬ (i : Int) < l.length)]; exact congrArg (Value.int .i64) (by assumption)

theorem c_in7 (w : World) (lv : Int) (c : Cell) (hlv : 1 ≤ lv ∧ lv ≤ 60) : Fn Try.prog 39 [.int .i64 lv, .agg #[.int .i64 c.1, .int .i64 c.2]] w (fun v w' =>  v = .bool (inSq lv c) ∧ Ex w w') := by
  have K0 : Ex w w := Kp.refl _ _
  refine fn_enter (n := 33) Try.func39 rfl rfl (Nat.le_of_ble_eq_true rfl) ?_
  show CW _ _ _ _ _ _ [(0, .int .i64 lv), (1, .agg #[.int .i64 c.1, .int .i64 c.2])] _
  have hside := pow62 (n := (lv - 1).toNat) (by omega)
  refine cw_seq ?_
  refine cw_region ?_
  refine rw_op (op_box (v := .agg #[.int .i64 c.1, .int .i64 c.2]) (cs := #[.int .i64 c.1, .int .i64 c.2]) rfl rfl) rfl rfl rfl ?_
  rintro _ w2 ⟨g1, rfl, hg3, k4, b5⟩
  replace K0 := Ex.trans K0 k4
  have zw2 := k4.size
  have lg1 := b5.lt
  refine rw_ev (ev_assign rfl) rfl rfl rfl ?_
  refine rw_nil ?_
  refine nw_seq ?_
  refine cw_seq ?_
  refine cw_region ?_
  refine rw_ev (ev_move rfl) rfl rfl rfl ?_
  refine rw_ev (ev_sub rfl rfl (by omega)) rfl rfl rfl ?_
  refine rw_ev (ev_shl rfl rfl (by omega) (by omega)) rfl rfl rfl ?_
  refine rw_ev (ev_assign rfl) rfl rfl rfl ?_
  refine rw_nil ?_
  refine nw_seq ?_
  refine cw_seq ?_
  refine cw_region ?_
  refine rw_ev (v := .pointer (some ⟨g1, 0, none⟩)) (ev_field (o := 0) rfl foff_55_0) rfl rfl rfl ?_
  refine rw_ev (v := .int .i64 c.1) (ev_lb1 (off := 0) (fun _ h => h ▸ b5) rfl one_3 rfl) rfl rfl rfl ?_
  refine rw_ev (ev_move rfl) rfl rfl rfl ?_
  refine rw_ev (ev_neg rfl (by omega)) rfl rfl rfl ?_
  refine rw_ev (ev_geq rfl rfl) rfl rfl rfl ?_
  refine rw_ev (ev_move rfl) rfl rfl rfl ?_
  by_cases h6 : (-((1 : Int) * 2 ^ ((lv - 1).toNat))) ≤ c.1
  ·
   refine rw_ev (v := .pointer (some ⟨g1, 0, none⟩)) (ev_field (o := 0) rfl foff_55_0) (gd_tt rfl (dec_t h6)) rfl rfl ?_
   refine rw_ev (v := .int .i64 c.1) (ev_lb1 (off := 0) (fun _ h => h ▸ b5) rfl one_3 rfl) (gd_tt rfl (dec_t h6)) rfl rfl ?_
   refine rw_ev (ev_move rfl) (gd_tt rfl (dec_t h6)) rfl rfl ?_
   refine rw_ev (ev_lss rfl rfl) (gd_tt rfl (dec_t h6)) rfl rfl ?_
   refine rw_ev (ev_pk_t (b := decide ((-((1 : Int) * 2 ^ ((lv - 1).toNat))) ≤ c.1)) rfl (dec_t h6) rfl) rfl rfl rfl ?_
   refine rw_ev (ev_move rfl) rfl rfl rfl ?_
   by_cases h7 : c.1 < ((1 : Int) * 2 ^ ((lv - 1).toNat))
   ·
    refine rw_ev (v := .pointer (some ⟨g1, 1, none⟩)) (ev_field (o := 1) rfl foff_55_1) (gd_tt rfl (dec_t h7)) rfl rfl ?_
    refine rw_ev (v := .int .i64 c.2) (ev_lb1 (off := 1) (fun _ h => h ▸ b5) rfl one_3 rfl) (gd_tt rfl (dec_t h7)) rfl rfl ?_
    refine rw_ev (ev_move rfl) (gd_tt rfl (dec_t h7)) rfl rfl ?_
    refine rw_ev (ev_neg rfl (by omega)) (gd_tt rfl (dec_t h7)) rfl rfl ?_
    refine rw_ev (ev_geq rfl rfl) (gd_tt rfl (dec_t h7)) rfl rfl ?_
    refine rw_ev (ev_pk_t rfl (dec_t h7) rfl) rfl rfl rfl ?_
    refine rw_ev (ev_move rfl) rfl rfl rfl ?_
    by_cases h8 : (-((1 : Int) * 2 ^ ((lv - 1).toNat))) ≤ c.2
    ·
     refine rw_ev (v := .pointer (some ⟨g1, 1, none⟩)) (ev_field (o := 1) rfl foff_55_1) (gd_tt rfl (dec_t h8)) rfl rfl ?_
     refine rw_ev (v := .int .i64 c.2) (ev_lb1 (off := 1) (fun _ h => h ▸ b5) rfl one_3 rfl) (gd_tt rfl (dec_t h8)) rfl rfl ?_
     refine rw_ev (ev_move rfl) (gd_tt rfl (dec_t h8)) rfl rfl ?_
     refine rw_ev (ev_lss rfl rfl) (gd_tt rfl (dec_t h8)) rfl rfl ?_
     refine rw_ev (ev_pk_t (b := decide ((-((1 : Int) * 2 ^ ((lv - 1).toNat))) ≤ c.2)) rfl (dec_t h8) rfl) rfl rfl rfl ?_
     refine rw_ev (ev_assign rfl) rfl rfl rfl ?_
     refine rw_nil ?_
     refine nw_seq ?_
     refine cw_ret ?_
     refine ret_post (rs := [.tmp 4]) (vs := [.bool (decide (c.2 < ((1 : Int) * 2 ^ ((lv - 1).toNat))))]) rfl (.tmp rfl .nil) ?_
     refine ⟨?_, K0⟩
     · show (.bool (decide (c.2 < ((1 : Int) * 2 ^ ((lv - 1).toNat)))) : Value) = _
       refine congrArg Value.bool ?_; rw [inSq, show sideI lv = 1 * 2 ^ (lv - 1).toNat from rfl]; generalize (1 * 2 ^ (lv - 1).toNat : Int) = s at *; first | (simp [*]; done) | (simp [*]; omega) | (simp; omega)
    ·
     refine rw_skip (gd_tf rfl (dec_f h8)) rfl rfl ?_
     refine rw_skip (gd_tf rfl (dec_f h8)) rfl rfl ?_
     refine rw_skip (gd_tf rfl (dec_f h8)) rfl rfl ?_
     refine rw_skip (gd_tf rfl (dec_f h8)) rfl rfl ?_
     refine rw_ev (ev_pk_f (b := decide ((-((1 : Int) * 2 ^ ((lv - 1).toNat))) ≤ c.2)) rfl (dec_f h8) rfl) rfl rfl rfl ?_
     refine rw_ev (ev_assign rfl) rfl rfl rfl ?_
     refine rw_nil ?_
     refine nw_seq ?_
     refine cw_ret ?_
     refine ret_post (rs := [.tmp 4]) (vs := [.bool false]) rfl (.tmp rfl .nil) ?_
     refine ⟨?_, K0⟩
     · show (.bool false : Value) = _
       refine congrArg Value.bool ?_; rw [inSq, show sideI lv = 1 * 2 ^ (lv - 1).toNat from rfl]; generalize (1 * 2 ^ (lv - 1).toNat : Int) = s at *; first | (simp [*]; done) | (simp [*]; omega) | (simp; omega)
   ·
    refine rw_skip (gd_tf rfl (dec_f h7)) rfl rfl ?_
    refine rw_skip (gd_tf rfl (dec_f h7)) rfl rfl ?_
    refine rw_skip (gd_tf rfl (dec_f h7)) rfl rfl ?_
    refine rw_skip (gd_tf rfl (dec_f h7)) rfl rfl ?_
    refine rw_skip (gd_tf rfl (dec_f h7)) rfl rfl ?_
    refine rw_ev (ev_pk_f rfl (dec_f h7) rfl) rfl rfl rfl ?_
    refine rw_ev (ev_move rfl) rfl rfl rfl ?_
    refine rw_skip rfl rfl rfl ?_
    refine rw_skip rfl rfl rfl ?_
    refine rw_skip rfl rfl rfl ?_
    refine rw_skip rfl rfl rfl ?_
    refine rw_ev (ev_pk_f rfl rfl rfl) rfl rfl rfl ?_
    refine rw_ev (ev_assign rfl) rfl rfl rfl ?_
    refine rw_nil ?_
    refine nw_seq ?_
    refine cw_ret ?_
    refine ret_post (rs := [.tmp 4]) (vs := [.bool false]) rfl (.tmp rfl .nil) ?_
    refine ⟨?_, K0⟩
    · show (.bool false : Value) = _
      refine congrArg Value.bool ?_; rw [inSq, show sideI lv = 1 * 2 ^ (lv - 1).toNat from rfl]; generalize (1 * 2 ^ (lv - 1).toNat : Int) = s at *; first | (simp [*]; done) | (simp [*]; omega) | (simp; omega)
  ·
   refine rw_skip (gd_tf rfl (dec_f h6)) rfl rfl ?_
   refine rw_skip (gd_tf rfl (dec_f h6)) rfl rfl ?_
   refine rw_skip (gd_tf rfl (dec_f h6)) rfl rfl ?_
   refine rw_skip (gd_tf rfl (dec_f h6)) rfl rfl ?_
   refine rw_ev (ev_pk_f (b := decide ((-((1 : Int) * 2 ^ ((lv - 1).toNat))) ≤ c.1)) rfl (dec_f h6) rfl) rfl rfl rfl ?_
   refine rw_ev (ev_move rfl) rfl rfl rfl ?_
   refine rw_skip rfl rfl rfl ?_
   refine rw_skip rfl rfl rfl ?_
   refine rw_skip rfl rfl rfl ?_
   refine rw_skip rfl rfl rfl ?_
   refine rw_skip rfl rfl rfl ?_
   refine rw_ev (ev_pk_f rfl rfl rfl) rfl rfl rfl ?_
   refine rw_ev (ev_move rfl) rfl rfl rfl ?_
   refine rw_skip rfl rfl rfl ?_
   refine rw_skip rfl rfl rfl ?_
   refine rw_skip rfl rfl rfl ?_
   refine rw_skip rfl rfl rfl ?_
   refine rw_ev (ev_pk_f rfl rfl rfl) rfl rfl rfl ?_
   refine rw_ev (ev_assign rfl) rfl rfl rfl ?_
   refine rw_nil ?_
   refine nw_seq ?_
   refine cw_ret ?_
   refine ret_post (rs := [.tmp 4]) (vs := [.bool false]) rfl (.tmp rfl .nil) ?_
   refine ⟨?_, K0⟩
   · show (.bool false : Value) = _
     refine congrArg Value.bool ?_; rw [inSq, show sideI lv = 1 * 2 ^ (lv - 1).toNat from rfl]; generalize (1 * 2 ^ (lv - 1).toNat : Int) = s at *; first | (simp [*]; done) | (simp [*]; omega) | (simp; omega)

theorem c_corner (w : World) (v : Value) (l : List Cell) (hv : Sl w (fun b => b < w.heap.size) v 2 (l.map encC)) (lv : Int) (hlv : 1 ≤ lv ∧ lv ≤ 60) (hb : ∀ c ∈ l, (-1099511627776 ≤ c.1 ∧ c.1 ≤ 1099511627776) ∧ (-1099511627776 ≤ c.2 ∧ c.2 ≤ 1099511627776)) (hn : l.length ≤ 1000000) : Fn Try.prog 93 [v, .int .i64 lv] w (fun v w' => ∃ u : Value, v = u ∧ Ex w w' ∧ Sl w' (fun b => w.heap.size ≤ b ∧ b < w'.heap.size) u 2 ((cornerC l lv).map encC)) := by
  have K0 : Ex w w := Kp.refl _ _
  refine fn_enter (n := 36) Try.func93 rfl rfl (Nat.le_of_ble_eq_true rfl) ?_
  show CW _ _ _ _ _ _ [(0, v), (1, .int .i64 lv)] _
  have hlv_ := hv.lenm
  have hside := pow62 (n := (lv - 1).toNat) (by omega)
  refine cw_seq ?_
  refine cw_region ?_
  refine rw_ev (ev_assign rfl) rfl rfl rfl ?_
  refine rw_nil ?_
  refine nw_seq ?_
  refine cw_seq ?_
  refine cw_region ?_
  refine rw_ev (ev_move rfl) rfl rfl rfl ?_
  refine rw_ev (ev_sub rfl rfl (by omega)) rfl rfl rfl ?_
  refine rw_ev (ev_shl rfl rfl (by omega) (by omega)) rfl rfl rfl ?_
  refine rw_ev (ev_assign rfl) rfl rfl rfl ?_
  refine rw_nil ?_
  refine nw_seq ?_
  refine cw_seq ?_
  refine cw_region ?_
  refine rw_ev (ev_assign rfl) rfl rfl rfl ?_
  refine rw_nil ?_
  refine nw_seq ?_
  refine cw_seq ?_
  refine cw_seq ?_
  refine cw_region ?_
  refine rw_ev (ev_assign rfl) rfl rfl rfl ?_
  refine rw_nil ?_
  refine nw_seq ?_
  refine cw_block ?_
  refine cw_loop (σ := Nat × Value) (fun s_ => match s_ with | (i, x) => [(0, v), (4, .slice none 0 0), (5, .int .i64 ((1 : Int) * 2 ^ ((lv - 1).toNat))), (6, x), (7, .int .i64 (i : Int))]) (fun s_ wr => match s_ with | (i, x) => Ex w wr ∧ w.heap.size ≤ wr.heap.size ∧ Sl wr (fun b => b < w.heap.size) v 2 (l.map encC) ∧ Ow wr w.heap.size 55 x 2 (((l.take i).map fun c => (c.1 + sideI lv, c.2 + sideI lv)).map encC)) (fun s_ => match s_ with | (i, x) => l.length - i) (0, .slice none 0 0) (Sub.cons rfl (Sub.cons rfl (Sub.cons rfl (Sub.cons rfl (Sub.int (b := (0 : Int)) rfl (by omega) Sub.nil))))) ⟨K0, (Nat.le_refl _), hv, (Ow.nil _ _ _ _)⟩ ?_
  rintro ⟨i, x⟩ w1 ⟨K0, z2, f3, f4⟩
  show CW _ _ _ _ _ _ [(0, v), (4, .slice none 0 0), (5, .int .i64 ((1 : Int) * 2 ^ ((lv - 1).toNat))), (6, x), (7, .int .i64 (i : Int))] _
  refine cw_seq ?_
  refine cw_seq ?_
  refine cw_region ?_
  refine rw_ev (ev_move rfl) rfl rfl rfl ?_
  refine rw_ev (ev_move rfl) rfl rfl rfl ?_
  refine rw_ev (v := .int .i64 (l.length : Int)) (ev_lenm (l := l) ⟨_, f3⟩ rfl el_46 rfl) rfl rfl rfl ?_
  refine rw_ev (ev_lss rfl rfl) rfl rfl rfl ?_
  refine rw_nil ?_
  refine nw_seq ?_
  by_cases h5 : (i : Int) < (l.length : Int)
  ·
   refine cw_t (b := decide ((i : Int) < (l.length : Int))) rfl (dec_t h5) ?_
   refine cw_skip ?_
   refine nw_seq ?_
   refine cw_seq ?_
   refine cw_block ?_
   refine cw_drawn (fun w6 w_ => Kp (fun b_ => (x : Value).ownBlock = some b_) w6 w_) [] (.take 0 (.take 1 (.take 2 (.take 3 (.take 4 (.take 5 (.take 6 (.take 7 (.take 8 (.take 9 (.take 10 (.take 11 (.take 12 (.take 13 (.take 14 (.take 15 (.one 16 (.one 17 (.take 18 .done))))))))))))))))))) mixed (by kernel_rfl) (by kernel_rfl) (Nat.le_of_ble_eq_true (by kernel_rfl)) ?_; intro w6 k7 hs_
   replace K0 := Ex.trans K0 k7
   replace f3 := f3.ex k7
   replace f4 := f4.ex k7
   have zw6 := k7.size
   have hS : (fun w_ => Kp (fun b_ => (x : Value).ownBlock = some b_) w6 w_) w6 := Kp.refl _ _
   have hE : Ex w6 w6 := Kp.refl _ _
   refine rp_take hs_ hS rfl rfl (ev_move rfl) rfl rfl rfl ?_
   refine rp_take hs_ hS rfl rfl (ev_move rfl) rfl rfl rfl ?_
   refine rp_take hs_ hS rfl rfl (ev_move rfl) rfl rfl rfl ?_
   obtain ⟨c8, hc9⟩ := get_of (l := l) (i := i) (by omega)
   obtain ⟨⟨_, _⟩, ⟨_, _⟩⟩ := hb _ (List.mem_of_getElem? hc9)
   refine rp_take (v := elemPtr v i 2 0) hs_ hS rfl rfl (ev_slAt (i := (i : Int)) ⟨_, (f3.ex hE)⟩ rfl rfl el_46 (idx_ok (i := (i : Int)) hc9 (by omega))) rfl rfl rfl ?_
   refine rp_take (v := elemPtr v i 2 0) hs_ hS rfl rfl (ev_elField (o := 0) ⟨_, (f3.ex hE)⟩ (len_enc hc9) rfl foff_55_0) rfl rfl rfl ?_
   refine rp_take (v := .int .i64 c8.1) hs_ hS rfl rfl (ev_elLoad1 (u := .int .i64 c8.1) (fun _ h => (f3.kp h (fun b h e => Nat.lt_irrefl _ (Nat.lt_of_lt_of_le (show b < _ from h) (Nat.le_trans (Nat.le_refl _) (f4.lt b e).1))))) ⟨_, hS⟩ rfl (get_enc hc9) one_3 (by decide) rfl) rfl rfl rfl ?_
   refine rp_take hs_ hS rfl rfl (ev_move rfl) rfl rfl rfl ?_
   refine rp_take hs_ hS rfl rfl (ev_add rfl rfl (by omega)) rfl rfl rfl ?_
   refine rp_take hs_ hS rfl rfl (ev_move rfl) rfl rfl rfl ?_
   refine rp_take hs_ hS rfl rfl (ev_move rfl) rfl rfl rfl ?_
   refine rp_take (v := elemPtr v i 2 0) hs_ hS rfl rfl (ev_slAt (i := (i : Int)) ⟨_, (f3.ex hE)⟩ rfl rfl el_46 (idx_ok (i := (i : Int)) hc9 (by omega))) rfl rfl rfl ?_
   refine rp_take (v := elemPtr v i 2 1) hs_ hS rfl rfl (ev_elField (o := 1) ⟨_, (f3.ex hE)⟩ (len_enc hc9) rfl foff_55_1) rfl rfl rfl ?_
   refine rp_take (v := .int .i64 c8.2) hs_ hS rfl rfl (ev_elLoad1 (u := .int .i64 c8.2) (fun _ h => (f3.kp h (fun b h e => Nat.lt_irrefl _ (Nat.lt_of_lt_of_le (show b < _ from h) (Nat.le_trans (Nat.le_refl _) (f4.lt b e).1))))) ⟨_, hS⟩ rfl (get_enc hc9) one_3 (by decide) rfl) rfl rfl rfl ?_
   refine rp_take hs_ hS rfl rfl (ev_move rfl) rfl rfl rfl ?_
   refine rp_take hs_ hS rfl rfl (ev_add rfl rfl (by omega)) rfl rfl rfl ?_
   refine rp_take (v := .agg #[.int .i64 (c8.1 + ((1 : Int) * 2 ^ ((lv - 1).toNat))), .int .i64 (c8.2 + ((1 : Int) * 2 ^ ((lv - 1).toNat)))]) hs_ hS rfl rfl (ev_pure rfl rfl (fun _ => by kernel_rfl)) rfl rfl rfl ?_
   refine rp_up (up_op rfl (op_buildSlice (E := 55) (m := 1) (pv := #[(0, .agg #[.int .i64 (c8.1 + ((1 : Int) * 2 ^ ((lv - 1).toNat))), .int .i64 (c8.2 + ((1 : Int) * 2 ^ ((lv - 1).toNat)))])]) (cs := #[.int .i64 (c8.1 + ((1 : Int) * 2 ^ ((lv - 1).toNat))), .int .i64 (c8.2 + ((1 : Int) * 2 ^ ((lv - 1).toNat)))]) rfl (fun _ => by kernel_rfl)) rfl rfl rfl ?_)
   rintro _ w11 ⟨g10, rfl, hg12, k13, b14⟩
   have rw15 : ∀ b, (x : Value).ownBlock = some b → b < g10 := fun b h => Nat.lt_of_lt_of_le (f4.lt b h).2 (Nat.le_trans (Nat.le_refl _) hg12)
   replace K0 := Ex.trans K0 k13
   replace hS := Kp.ex hS k13
   replace hE := Ex.trans hE k13
   have zw11 := k13.size
   have lg10 := b14.lt
   refine ⟨(fun _ => hS), ?_⟩
   refine rp_up (up_op rfl (op_app1 (f := encC) (l := ((l.take i).map fun c => (c.1 + sideI lv, c.2 + sideI lv))) (c := (c8.1 + ((1 : Int) * 2 ^ ((lv - 1).toNat)), c8.2 + ((1 : Int) * 2 ^ ((lv - 1).toNat)))) (B := w.heap.size) row_46 plainC (f4.ex hE) b14 rfl rfl rfl (by decide) (by unfold maxLen; simp only [List.length_map, List.length_take]; omega) (by simp only [List.length_map, List.length_take]; omega) (Nat.le_trans z2 (Nat.le_trans zw6 zw11))) rfl rfl rfl ?_)
   rintro v16 w17 ⟨k18, ow19⟩
   replace K0 := Ex.kp_new K0 k18 (fun b h => Nat.le_trans (Nat.le_refl _) (f4.lt b h).1)
   replace hS := Kp.trans hS k18 (fun _ x => x) (fun _ _ x => x)
   replace f3 := f3.kp hS (fun b h e => Nat.lt_irrefl _ (Nat.lt_of_lt_of_le (show b < _ from h) (Nat.le_trans (Nat.le_refl _) (f4.lt b e).1)))
   replace b14 := b14.kp k18 (fun h => Nat.lt_irrefl _ (rw15 _ h))
   have zw17 := k18.size
   refine ⟨(fun _ => hS), ?_⟩
   refine rp_take hs_ hS rfl rfl (ev_assign rfl) rfl rfl rfl ?_
   refine rp_done ?_
   clear hs_
   refine nw_block ?_
   refine nw_seq ?_
   refine cw_region ?_
   refine rw_ev (ev_move rfl) rfl rfl rfl ?_
   refine rw_ev (ev_add rfl rfl (by omega)) rfl rfl rfl ?_
   refine rw_ev (ev_assign rfl) rfl rfl rfl ?_
   refine rw_nil ?_
   exact nw_round ((i + 1), v16) (Sub.cons rfl (Sub.cons rfl (Sub.cons rfl (Sub.cons rfl (Sub.int (b := ((i + 1) : Int)) rfl (by omega) Sub.nil))))) ⟨K0, (Nat.le_trans z2 (Nat.le_trans zw6 (Nat.le_trans zw11 zw17))), f3, (by have hq := ow19; rw [map_take_succ (by assumption : l[i]? = some _)]; exact hq)⟩ (by first | omega | (dsimp only; omega))
  ·
   refine cw_f (b := decide ((i : Int) < (l.length : Int))) rfl (dec_f h5) ?_
   refine cw_exit ?_
   refine xw_seq ?_
   refine xw_goal ?_
   refine xw_hit ?_
   refine nw_seq ?_
   refine cw_seq ?_
   refine cw_region ?_
   refine rw_ev (ev_move rfl) rfl rfl rfl ?_
   refine rw_ev (ev_assign rfl) rfl rfl rfl ?_
   refine rw_nil ?_
   refine nw_seq ?_
   refine cw_ret ?_
   refine ret_post (rs := [.tmp 4]) (vs := [x]) rfl (.tmp rfl .nil) ?_
   refine ⟨x, ?_, K0, ?_⟩
   · show (x : Value) = _
     first | rfl | simp
   · have hl_ : ((l.take i).map fun c => (c.1 + sideI lv, c.2 + sideI lv)) = cornerC l lv := by unfold cornerC; rw [take_all (by assumption : ¬ (i : Int) < l.length)]
     rw [← hl_]; exact f4.sl

theorem c_lives2 (w : World) (b : Bool) (n : Int) : Fn Try.prog 51 [.bool b, .int .i64 n] w (fun v w' =>  v = .bool (livesB b n) ∧ Ex w w') := by
  have K0 : Ex w w := Kp.refl _ _
  refine fn_enter (n := 14) Try.func51 rfl rfl (Nat.le_of_ble_eq_true rfl) ?_
  show CW _ _ _ _ _ _ [(0, .bool b), (1, .int .i64 n)] _
  refine cw_seq ?_
  refine cw_region ?_
  refine rw_ev (ev_assign rfl) rfl rfl rfl ?_
  refine rw_nil ?_
  refine nw_seq ?_
  refine cw_seq ?_
  refine cw_region ?_
  refine rw_ev (ev_move rfl) rfl rfl rfl ?_
  refine rw_ev (ev_eq rfl rfl) rfl rfl rfl ?_
  refine rw_ev (ev_move rfl) rfl rfl rfl ?_
  by_cases h1 : n = 3
  ·
   refine rw_skip (gd_ft rfl (dec_t h1)) rfl rfl ?_
   refine rw_skip (gd_ft rfl (dec_t h1)) rfl rfl ?_
   refine rw_skip rfl rfl rfl ?_
   refine rw_skip rfl rfl rfl ?_
   refine rw_skip (gd_ft rfl (dec_t h1)) rfl rfl ?_
   refine rw_ev (ev_pk_t rfl (dec_t h1) rfl) rfl rfl rfl ?_
   refine rw_ev (ev_assign rfl) rfl rfl rfl ?_
   refine rw_nil ?_
   refine nw_seq ?_
   refine cw_ret ?_
   refine ret_post (rs := [.tmp 4]) (vs := [.bool true]) rfl (.tmp rfl .nil) ?_
   refine ⟨?_, K0⟩
   · show (.bool true : Value) = _
     simp [livesB, *]
  ·
   refine rw_ev (ev_move rfl) (gd_ff rfl (dec_f h1)) rfl rfl ?_
   refine rw_ev (ev_move rfl) (gd_ff rfl (dec_f h1)) rfl rfl ?_
   rcases Bool.eq_false_or_eq_true (b) with h2 | h2
   ·
    refine rw_ev (ev_move rfl) (gd_tt rfl h2) rfl rfl ?_
    refine rw_ev (ev_eq rfl rfl) (gd_tt rfl h2) rfl rfl ?_
    refine rw_ev (ev_pk_t rfl h2 rfl) (gd_ff rfl (dec_f h1)) rfl rfl ?_
    refine rw_ev (ev_pk_f rfl (dec_f h1) rfl) rfl rfl rfl ?_
    refine rw_ev (ev_assign rfl) rfl rfl rfl ?_
    refine rw_nil ?_
    refine nw_seq ?_
    refine cw_ret ?_
    refine ret_post (rs := [.tmp 4]) (vs := [.bool (decide (n = 2))]) rfl (.tmp rfl .nil) ?_
    refine ⟨?_, K0⟩
    · show (.bool (decide (n = 2)) : Value) = _
      simp [livesB, *]
   ·
    refine rw_skip (gd_tf rfl h2) rfl rfl ?_
    refine rw_skip (gd_tf rfl h2) rfl rfl ?_
    refine rw_ev (ev_pk_f rfl h2 rfl) (gd_ff rfl (dec_f h1)) rfl rfl ?_
    refine rw_ev (ev_pk_f rfl (dec_f h1) rfl) rfl rfl rfl ?_
    refine rw_ev (ev_assign rfl) rfl rfl rfl ?_
    refine rw_nil ?_
    refine nw_seq ?_
    refine cw_ret ?_
    refine ret_post (rs := [.tmp 4]) (vs := [.bool false]) rfl (.tmp rfl .nil) ?_
    refine ⟨?_, K0⟩
    · show (.bool false : Value) = _
      simp [livesB, *]

theorem c_lives (w : World) (b : Bool) (n : Int) : Fn Try.prog 50 [.bool b, .int .i64 n] w (fun v w' =>  v = .bool (livesB b n) ∧ Ex w w') := by
  have K0 : Ex w w := Kp.refl _ _
  refine fn_enter (n := 11) Try.func50 rfl rfl (Nat.le_of_ble_eq_true rfl) ?_
  show CW _ _ _ _ _ _ [(0, .bool b), (1, .int .i64 n)] _
  refine cw_seq ?_
  refine cw_region ?_
  refine rw_ev (ev_assign rfl) rfl rfl rfl ?_
  refine rw_nil ?_
  refine nw_seq ?_
  refine cw_seq ?_
  refine cw_seq ?_
  refine cw_region ?_
  refine rw_ev (ev_move rfl) rfl rfl rfl ?_
  refine rw_nil ?_
  refine nw_seq ?_
  refine cw_block ?_
  refine cw_seq ?_
  refine cw_region ?_
  refine rw_ev (ev_eq rfl rfl) rfl rfl rfl ?_
  refine rw_ev (ev_assign rfl) rfl rfl rfl ?_
  refine rw_nil ?_
  refine nw_seq ?_
  by_cases h1 : n = 2
  ·
   refine cw_t (b := decide (n = 2)) rfl (dec_t h1) ?_
   refine cw_seq ?_
   refine cw_region ?_
   refine rw_ev (ev_move rfl) rfl rfl rfl ?_
   refine rw_ev (ev_assign rfl) rfl rfl rfl ?_
   refine rw_nil ?_
   refine nw_seq ?_
   refine cw_ret ?_
   refine ret_post (rs := [.tmp 4]) (vs := [.bool b]) rfl (.tmp rfl .nil) ?_
   refine ⟨?_, K0⟩
   · show (.bool b : Value) = _
     first | (simp [livesB, *]; done) | (cases b <;> simp [livesB, *]; done) | (cases b <;> simp [livesB] <;> omega)
  ·
   refine cw_f (b := decide (n = 2)) rfl (dec_f h1) ?_
   refine cw_seq ?_
   refine cw_region ?_
   refine rw_ev (ev_eq rfl rfl) rfl rfl rfl ?_
   refine rw_ev (ev_assign rfl) rfl rfl rfl ?_
   refine rw_nil ?_
   refine nw_seq ?_
   by_cases h2 : n = 3
   ·
    refine cw_t (b := decide (n = 3)) rfl (dec_t h2) ?_
    refine cw_seq ?_
    refine cw_region ?_
    refine rw_ev (ev_assign rfl) rfl rfl rfl ?_
    refine rw_nil ?_
    refine nw_seq ?_
    refine cw_ret ?_
    refine ret_post (rs := [.tmp 4]) (vs := [.bool true]) rfl (.tmp rfl .nil) ?_
    refine ⟨?_, K0⟩
    · show (.bool true : Value) = _
      first | (simp [livesB, *]; done) | (cases b <;> simp [livesB, *]; done) | (cases b <;> simp [livesB] <;> omega)
   ·
    refine cw_f (b := decide (n = 3)) rfl (dec_f h2) ?_
    refine cw_skip ?_
    refine nw_block ?_
    refine nw_seq ?_
    refine cw_seq ?_
    refine cw_region ?_
    refine rw_ev (ev_assign rfl) rfl rfl rfl ?_
    refine rw_nil ?_
    refine nw_seq ?_
    refine cw_ret ?_
    refine ret_post (rs := [.tmp 4]) (vs := [.bool false]) rfl (.tmp rfl .nil) ?_
    refine ⟨?_, K0⟩
    · show (.bool false : Value) = _
      first | (simp [livesB, *]; done) | (cases b <;> simp [livesB, *]; done) | (cases b <;> simp [livesB] <;> omega)

end Go.Proofs.Ythpaadmpgdglnaa
