/- What cells.Shift and cells.Box compute. Each theorem names its conditions. -/
import Derived.Test.YthpaadmpgdglnaaWr
import Derived.Test.YthpaadmpgdglnaaD7
namespace Go.Proofs.Ythpaadmpgdglnaa
open Go Go.RowKit
set_option linter.unusedVariables false
set_option linter.unusedSimpArgs false
set_option maxRecDepth 100000
set_option maxHeartbeats 4000000

theorem c_cshift (w : World) (v : Value) (l : List Cell) (hv : Sl w (fun b => b < w.heap.size) v 2 (l.map encC)) (dx : Int) (dy : Int) (hdx64 : -9223372036854775808 ≤ dx ∧ dx ≤ 9223372036854775807) (hdy64 : -9223372036854775808 ≤ dy ∧ dy ≤ 9223372036854775807) : Fn Try.prog 64 [v, .int .i64 dx, .int .i64 dy] w (fun v w' => ∃ u : Value, v = .tuple #[u, .int .i64 ((shiftC l dx dy).2)] ∧ Ex w w' ∧ Sl w' (fun b => w.heap.size ≤ b ∧ b < w'.heap.size) u 2 (((shiftC l dx dy).1).map encC)) := by
  have K0 : Ex w w := Kp.refl _ _
  refine fn_enter (n := 68) Try.func64 rfl rfl (Nat.le_of_ble_eq_true rfl) ?_
  show CW _ _ _ _ _ _ [(0, v), (1, .int .i64 dx), (2, .int .i64 dy)] _
  have hlv_ := hv.lenm
  refine cw_seq ?_
  refine cw_region ?_
  refine rw_ev (ev_assign rfl) rfl rfl rfl ?_
  refine rw_ev (ev_assign rfl) rfl rfl rfl ?_
  refine rw_nil ?_
  refine nw_seq ?_
  refine cw_seq ?_
  refine cw_seq ?_
  refine cw_region ?_
  refine rw_ev (ev_move rfl) rfl rfl rfl ?_
  refine rw_op (op_fn (xs := [.tmp 11]) ent_58 rfl (c_cright w v l (Sl.below hv))) rfl rfl rfl ?_
  rintro _ w1 ⟨rfl, k2⟩
  replace K0 := Ex.trans K0 k2
  replace hv := hv.ex k2
  have zw1 := k2.size
  refine rw_ev (ev_not rfl rfl) rfl rfl rfl ?_
  refine rw_nil ?_
  refine nw_seq ?_
  rcases Bool.eq_false_or_eq_true (rightC l) with h3 | h3
  ·
   refine cw_f (b := !(rightC l)) rfl (not_f h3) ?_
   refine cw_skip ?_
   refine nw_seq ?_
   refine cw_seq ?_
   refine cw_seq ?_
   refine cw_region ?_
   refine rw_ev (ev_move rfl) rfl rfl rfl ?_
   refine rw_ev (v := .int .i64 (l.length : Int)) (ev_lenm (l := l) ⟨_, hv⟩ rfl el_46 rfl) rfl rfl rfl ?_
   refine rw_ev (ev_gtr rfl rfl) rfl rfl rfl ?_
   refine rw_ev (ev_move rfl) rfl rfl rfl ?_
   by_cases h4 : (0 : Int) < (l.length : Int)
   ·
    refine rw_ev (ev_move rfl) (gd_tt rfl (dec_t h4)) rfl rfl ?_
    refine rw_ev (ev_move rfl) (gd_tt rfl (dec_t h4)) rfl rfl ?_
    refine rw_ev (v := .int .i64 (wrap64 (-dx))) (ev_negw (p := dx) rfl) (gd_tt rfl (dec_t h4)) rfl rfl ?_
    refine rw_ev (ev_move rfl) (gd_tt rfl (dec_t h4)) rfl rfl ?_
    refine rw_ev (ev_move rfl) (gd_tt rfl (dec_t h4)) rfl rfl ?_
    refine rw_ev (v := .int .i64 (wrap64 (-dy))) (ev_negw (p := dy) rfl) (gd_tt rfl (dec_t h4)) rfl rfl ?_
    refine rw_ev (v := .int .i64 (max (max (max (max dx (wrap64 (-dx))) dy) (wrap64 (-dy))) 0)) (ev_max5 (p1 := dx) (p2 := wrap64 (-dx)) (p3 := dy) (p4 := wrap64 (-dy)) (p5 := 0) rfl rfl rfl rfl rfl) (gd_tt rfl (dec_t h4)) rfl rfl ?_
    refine rw_ev (ev_gtr (p := max (max (max (max dx (wrap64 (-dx))) dy) (wrap64 (-dy))) 0) (q := 2199023255552) rfl rfl) (gd_tt rfl (dec_t h4)) rfl rfl ?_
    refine rw_ev (ev_pk_t rfl (dec_t h4) rfl) rfl rfl rfl ?_
    refine rw_ev (ev_move rfl) rfl rfl rfl ?_
    by_cases h5 : (2199023255552 : Int) < (max (max (max (max dx (wrap64 (-dx))) dy) (wrap64 (-dy))) 0)
    ·
     refine rw_skip (gd_ft rfl (dec_t h5)) rfl rfl ?_
     refine rw_skip (gd_ft rfl (dec_t h5)) rfl rfl ?_
     refine rw_skip (gd_ft rfl (dec_t h5)) rfl rfl ?_
     refine rw_skip (gd_ft rfl (dec_t h5)) rfl rfl ?_
     refine rw_skip (gd_ft rfl (dec_t h5)) rfl rfl ?_
     refine rw_skip rfl rfl rfl ?_
     refine rw_skip rfl rfl rfl ?_
     refine rw_skip rfl rfl rfl ?_
     refine rw_skip (gd_ft rfl (dec_t h5)) rfl rfl ?_
     refine rw_ev (ev_pk_t (b := decide ((2199023255552 : Int) < (max (max (max (max dx (wrap64 (-dx))) dy) (wrap64 (-dy))) 0))) rfl (dec_t h5) rfl) rfl rfl rfl ?_
     refine rw_nil ?_
     refine nw_seq ?_
     refine cw_t (b := true) rfl rfl ?_
     refine cw_seq ?_
     refine cw_region ?_
     refine rw_ev (ev_assign rfl) rfl rfl rfl ?_
     refine rw_ev (ev_assign rfl) rfl rfl rfl ?_
     refine rw_nil ?_
     refine nw_seq ?_
     refine cw_ret ?_
     refine ret_post (rs := [.tmp 6, .tmp 7]) (vs := [.slice none 0 0, .int .i64 2]) rfl (.tmp rfl (.tmp rfl .nil)) ?_
     have hk_ : shiftC l dx dy = ([], 2) := by
       unfold shiftC; rw [if_pos (by assumption), if_neg (by rw [shift_far (l := l) (dx := dx) (dy := dy) (by omega) (by first | omega | (unfold wrap64 at *; omega))]; simp)]
     refine ⟨(.slice none 0 0), ?_, K0, ?_⟩
     · show (.tuple #[.slice none 0 0, .int .i64 2] : Value) = _
       rw [hk_]
     · have hl_ : ([] : List Cell) = (shiftC l dx dy).1 := by rw [hk_]
       rw [← hl_]; exact (Sl.nil _ _ 2)
    ·
     refine rw_ev (ev_move rfl) (gd_ff rfl (dec_f h5)) rfl rfl ?_
     refine rw_ev (ev_move rfl) (gd_ff rfl (dec_f h5)) rfl rfl ?_
     refine rw_ev (ev_min rfl rfl) (gd_ff rfl (dec_f h5)) rfl rfl ?_
     refine rw_ev (ev_lss rfl rfl) (gd_ff rfl (dec_f h5)) rfl rfl ?_
     refine rw_ev (ev_move rfl) (gd_ff rfl (dec_f h5)) rfl rfl ?_
     by_cases h6 : (min dx dy) < (-2199023255552)
     ·
      refine rw_ev (ev_move rfl) (gd_tt rfl (dec_t h6)) rfl rfl ?_
      refine rw_ev (v := .int .i64 (l.length : Int)) (ev_lenm (l := l) ⟨_, hv⟩ rfl el_46 rfl) (gd_tt rfl (dec_t h6)) rfl rfl ?_
      refine rw_ev (ev_gtr rfl rfl) (gd_tt rfl (dec_t h6)) rfl rfl ?_
      refine rw_ev (ev_pk_t rfl (dec_t h6) rfl) (gd_ff rfl (dec_f h5)) rfl rfl ?_
      refine rw_ev (ev_pk_f (b := decide ((2199023255552 : Int) < (max (max (max (max dx (wrap64 (-dx))) dy) (wrap64 (-dy))) 0))) rfl (dec_f h5) rfl) rfl rfl rfl ?_
      refine rw_nil ?_
      refine nw_seq ?_
      refine cw_t (b := decide ((0 : Int) < (l.length : Int))) rfl (dec_t h4) ?_
      refine cw_seq ?_
      refine cw_region ?_
      refine rw_ev (ev_assign rfl) rfl rfl rfl ?_
      refine rw_ev (ev_assign rfl) rfl rfl rfl ?_
      refine rw_nil ?_
      refine nw_seq ?_
      refine cw_ret ?_
      refine ret_post (rs := [.tmp 6, .tmp 7]) (vs := [.slice none 0 0, .int .i64 2]) rfl (.tmp rfl (.tmp rfl .nil)) ?_
      have hk_ : shiftC l dx dy = ([], 2) := by
        unfold shiftC; rw [if_pos (by assumption), if_neg (by rw [shift_far (l := l) (dx := dx) (dy := dy) (by omega) (by first | omega | (unfold wrap64 at *; omega))]; simp)]
      refine ⟨(.slice none 0 0), ?_, K0, ?_⟩
      · show (.tuple #[.slice none 0 0, .int .i64 2] : Value) = _
        rw [hk_]
      · have hl_ : ([] : List Cell) = (shiftC l dx dy).1 := by rw [hk_]
        rw [← hl_]; exact (Sl.nil _ _ 2)
     ·
      refine rw_skip (gd_tf rfl (dec_f h6)) rfl rfl ?_
      refine rw_skip (gd_tf rfl (dec_f h6)) rfl rfl ?_
      refine rw_skip (gd_tf rfl (dec_f h6)) rfl rfl ?_
      refine rw_ev (ev_pk_f rfl (dec_f h6) rfl) (gd_ff rfl (dec_f h5)) rfl rfl ?_
      refine rw_ev (ev_pk_f (b := decide ((2199023255552 : Int) < (max (max (max (max dx (wrap64 (-dx))) dy) (wrap64 (-dy))) 0))) rfl (dec_f h5) rfl) rfl rfl rfl ?_
      refine rw_nil ?_
      refine nw_seq ?_
      refine cw_f (b := false) rfl rfl ?_
      refine cw_skip ?_
      refine nw_seq ?_
      refine cw_seq ?_
      refine cw_region ?_
      refine rw_ev (ev_move rfl) rfl rfl rfl ?_
      refine rw_ev (v := .int .i64 (l.length : Int)) (ev_lenm (l := l) ⟨_, hv⟩ rfl el_46 rfl) rfl rfl rfl ?_
      refine rw_op (op_makeRow (m := l.length) (q := (l.length : Int)) row_46 zv_55 rfl rfl (by omega) (by have := right_len (by assumption : rightC l = true); omega) (by have := right_len (by assumption : rightC l = true); omega)) rfl rfl rfl ?_
      rintro _ w8 ⟨g7, rfl, hg9, k10, fr11⟩
      replace fr11 : Fr w8 g7 55 2 ((List.replicate l.length ((0 : Int), (0 : Int))).map encC ++ ([] : List (List Value))) := by
        simpa using fr11
      replace K0 := Ex.trans K0 k10
      replace hv := hv.ex k10
      have zw8 := k10.size
      have lg7 := fr11.lt
      refine rw_ev (ev_assign rfl) rfl rfl rfl ?_
      refine rw_nil ?_
      refine nw_seq ?_
      refine cw_seq ?_
      refine cw_seq ?_
      refine cw_region ?_
      refine rw_ev (ev_move rfl) rfl rfl rfl ?_
      refine rw_ev (v := .int .i64 (l.length : Int)) (ev_lenm (l := l) ⟨_, hv⟩ rfl el_46 rfl) rfl rfl rfl ?_
      refine rw_ev (ev_move rfl) rfl rfl rfl ?_
      refine rw_nil ?_
      refine nw_seq ?_
      refine cw_block ?_
      refine cw_loop (σ := Nat) (fun i => [(1, .int .i64 dx), (2, .int .i64 dy), (6, .slice none 0 0), (7, .int .i64 0), (8, .slice (some ⟨g7, 0, none⟩) l.length l.length), (41, v), (42, .int .i64 (l.length : Int)), (43, .int .i64 (i : Int))]) (fun i wr => Ex w wr ∧ w8.heap.size ≤ wr.heap.size ∧ Sl wr (fun b => b < w.heap.size) v 2 (l.map encC) ∧ Fr wr g7 55 2 ((((l.take i).map fun c => (c.1 + dx, c.2 + dy)) ++ List.replicate (l.length - i) ((0 : Int), (0 : Int))).map encC ++ ([] : List (List Value))) ∧ (l.take i).all (shOk dx dy) = true ∧ i ≤ l.length) (fun i => l.length - i) 0 (Sub.cons rfl (Sub.cons rfl (Sub.cons rfl (Sub.cons rfl (Sub.cons rfl (Sub.cons rfl (Sub.cons rfl (Sub.int (b := (0 : Int)) rfl (by omega) Sub.nil)))))))) ⟨K0, (Nat.le_refl _), hv, (by have hq := fr11; first | simpa using hq | (rw [shift_set (by assumption : l[i]? = some _)] at hq; exact hq)), (by first | omega | simp), (by first | omega | simp)⟩ ?_
      rintro i w12 ⟨K0, z13, f14, f15, pr16, pr17⟩
      show CW _ _ _ _ _ _ [(1, .int .i64 dx), (2, .int .i64 dy), (6, .slice none 0 0), (7, .int .i64 0), (8, .slice (some ⟨g7, 0, none⟩) l.length l.length), (41, v), (42, .int .i64 (l.length : Int)), (43, .int .i64 (i : Int))] _
      have hfx_ : 0 < l.length → (-2199023255552 ≤ dx ∧ dx ≤ 2199023255552 ∧ -2199023255552 ≤ dy ∧ dy ≤ 2199023255552) := by intro _; unfold wrap64 at *; omega
      refine cw_seq ?_
      refine cw_region ?_
      refine rw_ev (ev_lss rfl rfl) rfl rfl rfl ?_
      refine rw_nil ?_
      refine nw_seq ?_
      refine cw_seq ?_
      by_cases h18 : (i : Int) < (l.length : Int)
      ·
       refine cw_t (b := decide ((i : Int) < (l.length : Int))) rfl (dec_t h18) ?_
       refine cw_skip ?_
       refine nw_seq ?_
       refine cw_seq ?_
       refine cw_block ?_
       refine cw_seq ?_
       refine cw_region ?_
       refine rw_ev (ev_move rfl) rfl rfl rfl ?_
       obtain ⟨c19, hc20⟩ := get_of (l := l) (i := i) (by first | omega | (simp only [List.length_set, List.length_append, List.length_map, List.length_take, List.length_replicate]; omega))
       obtain ⟨_, _, _, _⟩ := right_in h3 hc20
       refine rw_ev (v := elemPtr v i 2 0) (ev_slAt (i := (i : Int)) ⟨_, f14⟩ rfl rfl el_46 (idx_ok (i := (i : Int)) hc20 (by first | omega | (simp only [List.length_set, List.length_append, List.length_map, List.length_take, List.length_replicate]; omega)))) rfl rfl rfl ?_
       refine rw_ev (v := .agg #[.int .i64 c19.1, .int .i64 c19.2]) (ev_elLoadk (us := [.int .i64 c19.1, .int .i64 c19.2]) (fun _ h => h ▸ f14) ⟨_, rfl⟩ rfl (get_enc hc20) agg_55 (by decide) rfl rfl) rfl rfl rfl ?_
       refine rw_op (op_alloc zero_55) rfl rfl rfl ?_
       rintro _ w22 ⟨g21, rfl, hg23, k24, b25⟩
       replace K0 := Ex.trans K0 k24
       replace f14 := f14.ex k24
       replace f15 := f15.ex k24
       have zw22 := k24.size
       have lg21 := b25.lt
       refine rw_ev (ev_assign rfl) rfl rfl rfl ?_
       refine rw_none (op_store (off := 0) (v := .agg #[.int .i64 c19.1, .int .i64 c19.2]) (cs' := #[.int .i64 c19.1, .int .i64 c19.2]) b25 rfl rfl size_55 rfl (Nat.le_of_ble_eq_true rfl) (one_cons rfl (one_cons rfl one_nil)) rfl) rfl rfl ?_
       rintro _ w26 ⟨k27, b28⟩
       replace K0 := Ex.kp_new K0 k27 (fun _ h => h ▸ Nat.le_trans (Nat.le_trans zw1 (Nat.le_trans zw8 z13)) hg23)
       replace f14 := f14.kp k27 (fun b h e => Nat.lt_irrefl _ (Nat.lt_of_lt_of_le (show g21 < _ from e ▸ (show b < _ from h)) (Nat.le_trans (Nat.le_trans zw1 (Nat.le_trans zw8 z13)) hg23)))
       replace f15 := f15.kp k27 (Nat.ne_of_lt (Nat.lt_of_lt_of_le lg7 (Nat.le_trans z13 hg23)))
       have zw26 := k27.size
       refine rw_nil ?_
       refine nw_seq ?_
       refine cw_seq ?_
       refine cw_region ?_
       refine rw_ev (ev_move rfl) rfl rfl rfl ?_
       refine rw_ev (ev_move rfl) rfl rfl rfl ?_
       refine rw_ev (v := .pointer (some ⟨g21, 0, none⟩)) (ev_field (o := 0) rfl foff_55_0) rfl rfl rfl ?_
       refine rw_ev (v := .int .i64 c19.1) (ev_lb1 (off := 0) (fun _ h => h ▸ b28) rfl one_3 rfl) rfl rfl rfl ?_
       refine rw_ev (ev_move rfl) rfl rfl rfl ?_
       refine rw_ev (ev_add rfl rfl (by omega)) rfl rfl rfl ?_
       refine rw_ev (v := .pointer (some ⟨g21, 1, none⟩)) (ev_field (o := 1) rfl foff_55_1) rfl rfl rfl ?_
       refine rw_ev (v := .int .i64 c19.2) (ev_lb1 (off := 1) (fun _ h => h ▸ b28) rfl one_3 rfl) rfl rfl rfl ?_
       refine rw_ev (ev_move rfl) rfl rfl rfl ?_
       refine rw_ev (ev_add rfl rfl (by omega)) rfl rfl rfl ?_
       refine rw_ev (v := .agg #[.int .i64 (c19.1 + dx), .int .i64 (c19.2 + dy)]) (ev_pure rfl rfl (fun _ => by kernel_rfl)) rfl rfl rfl ?_
       have sw29 := Fr.sl0 f15 (A := fun x_ => x_ = g7) rfl (n := l.length) (c := l.length) (by first | assumption | omega | (simp only [List.length_set, List.length_append, List.length_map, List.length_take, List.length_replicate]; omega) | (have := right_len (by assumption : rightC l = true); unfold maxLen; omega) | (simp; omega)) (by first | assumption | omega | (simp only [List.length_set, List.length_append, List.length_map, List.length_take, List.length_replicate]; omega) | (have := right_len (by assumption : rightC l = true); unfold maxLen; omega) | (simp; omega)) (by first | assumption | omega | (simp only [List.length_set, List.length_append, List.length_map, List.length_take, List.length_replicate]; omega) | (have := right_len (by assumption : rightC l = true); unfold maxLen; omega) | (simp; omega))
       obtain ⟨c30, hc31⟩ := get_of (l := (((l.take i).map fun c => (c.1 + dx, c.2 + dy)) ++ List.replicate (l.length - i) ((0 : Int), (0 : Int)))) (i := i) (by first | omega | (simp only [List.length_set, List.length_append, List.length_map, List.length_take, List.length_replicate]; omega))
       skip
       refine rw_ev (v := elemPtr (.slice (some ⟨g7, 0, none⟩) l.length l.length) i 2 0) (ev_slAt (i := (i : Int)) ⟨_, sw29⟩ rfl rfl el_46 (idx_ok (i := (i : Int)) hc31 (by first | omega | (simp only [List.length_set, List.length_append, List.length_map, List.length_take, List.length_replicate]; omega)))) rfl rfl rfl ?_
       refine rw_none (op_wstore (fs := (((l.take i).map fun c => (c.1 + dx, c.2 + dy)) ++ List.replicate (l.length - i) ((0 : Int), (0 : Int))).map encC ++ ([] : List (List Value))) (i := 0) (j := i) (u := .agg #[.int .i64 (c19.1 + dx), .int .i64 (c19.2 + dy)]) f15 rfl (by first | assumption | omega | (simp only [List.length_set, List.length_append, List.length_map, List.length_take, List.length_replicate]; omega) | (have := right_len (by assumption : rightC l = true); unfold maxLen; omega) | (simp; omega)) rfl size_55 rfl (by simp [Value.cells, Value.oneCell']) (by have h_ : i < ((((l.take i).map fun c => (c.1 + dx, c.2 + dy)) ++ List.replicate (l.length - i) ((0 : Int), (0 : Int)))).length := (by first | assumption | omega | (simp only [List.length_set, List.length_append, List.length_map, List.length_take, List.length_replicate]; omega) | (have := right_len (by assumption : rightC l = true); unfold maxLen; omega) | (simp; omega)); rw [List.length_append, List.length_map]; omega)) rfl rfl ?_
       rintro _ w32 ⟨k33, fr34⟩
       replace fr34 := Fr.set_enc (f := encC) (c := (c19.1 + dx, c19.2 + dy)) (j := i) fr34 (by omega) (by first | assumption | omega | (simp only [List.length_set, List.length_append, List.length_map, List.length_take, List.length_replicate]; omega) | (have := right_len (by assumption : rightC l = true); unfold maxLen; omega) | (simp; omega))
       replace K0 := Ex.kp_new K0 k33 (fun _ h => h ▸ Nat.le_trans zw1 hg9)
       replace f14 := f14.kp k33 (fun b h e => Nat.lt_irrefl _ (Nat.lt_of_lt_of_le (show g7 < _ from e ▸ (show b < _ from h)) (Nat.le_trans zw1 hg9)))
       replace b28 := b28.kp k33 (Nat.ne_of_gt (Nat.lt_of_lt_of_le lg7 (Nat.le_trans z13 hg23)))
       have zw32 := k33.size
       refine rw_nil ?_
       refine nw_seq ?_
       refine cw_seq ?_
       refine cw_region ?_
       refine rw_ev (ev_move rfl) rfl rfl rfl ?_
       refine rw_ev (ev_move rfl) rfl rfl rfl ?_
       have sw35 := Fr.sl0 fr34 (A := fun x_ => x_ = g7) rfl (n := l.length) (c := l.length) (by first | assumption | omega | (simp only [List.length_set, List.length_append, List.length_map, List.length_take, List.length_replicate]; omega) | (have := right_len (by assumption : rightC l = true); unfold maxLen; omega) | (simp; omega)) (by first | assumption | omega | (simp only [List.length_set, List.length_append, List.length_map, List.length_take, List.length_replicate]; omega) | (have := right_len (by assumption : rightC l = true); unfold maxLen; omega) | (simp; omega)) (by first | assumption | omega | (simp only [List.length_set, List.length_append, List.length_map, List.length_take, List.length_replicate]; omega) | (have := right_len (by assumption : rightC l = true); unfold maxLen; omega) | (simp; omega))
       obtain ⟨c36, hc37⟩ := get_of (l := ((((l.take i).map fun c => (c.1 + dx, c.2 + dy)) ++ List.replicate (l.length - i) ((0 : Int), (0 : Int))).set i (c19.1 + dx, c19.2 + dy))) (i := i) (by first | omega | (simp only [List.length_set, List.length_append, List.length_map, List.length_take, List.length_replicate]; omega))
       have ec36 := set_get (by simp only [List.length_set, List.length_append, List.length_map, List.length_take, List.length_replicate]; omega) hc37
       refine rw_ev (v := elemPtr (.slice (some ⟨g7, 0, none⟩) l.length l.length) i 2 0) (ev_slAt (i := (i : Int)) ⟨_, sw35⟩ rfl rfl el_46 (idx_ok (i := (i : Int)) hc37 (by first | omega | (simp only [List.length_set, List.length_append, List.length_map, List.length_take, List.length_replicate]; omega)))) rfl rfl rfl ?_
       refine rw_ev (v := .agg #[.int .i64 c36.1, .int .i64 c36.2]) (ev_elLoadk (us := [.int .i64 c36.1, .int .i64 c36.2]) (fun _ h => h ▸ sw35) ⟨_, rfl⟩ rfl (get_enc hc37) agg_55 (by decide) rfl rfl) rfl rfl rfl ?_
       refine rw_op (op_fn (xs := [.tmp 63]) ent_100 rfl (c_cin w32 c36)) rfl rfl rfl ?_
       rintro _ w38 ⟨rfl, k39⟩
       replace K0 := Ex.trans K0 k39
       replace f14 := f14.ex k39
       replace b28 := b28.ex k39
       replace fr34 := fr34.ex k39
       replace sw35 := sw35.ex k39
       have zw38 := k39.size
       refine rw_ev (ev_not rfl rfl) rfl rfl rfl ?_
       refine rw_nil ?_
       refine nw_seq ?_
       rcases Bool.eq_false_or_eq_true (inC c36) with h40 | h40
       ·
        refine cw_f (b := !(inC c36)) rfl (not_f h40) ?_
        refine cw_skip ?_
        refine nw_block ?_
        refine nw_seq ?_
        refine cw_region ?_
        refine rw_ev (ev_add rfl rfl (by omega)) rfl rfl rfl ?_
        refine rw_ev (ev_move rfl) rfl rfl rfl ?_
        refine rw_nil ?_
        exact nw_round (i + 1) (Sub.cons rfl (Sub.cons rfl (Sub.cons rfl (Sub.cons rfl (Sub.cons rfl (Sub.cons rfl (Sub.cons rfl (Sub.int (b := ((i + 1) : Int)) rfl (by omega) Sub.nil)))))))) ⟨K0, (Nat.le_trans z13 (Nat.le_trans zw22 (Nat.le_trans zw26 (Nat.le_trans zw32 zw38)))), f14, (by have hq := fr34; first | simpa using hq | (rw [shift_set (by assumption : l[i]? = some _)] at hq; exact hq)), (by first | omega | (have hf_ := hfx_ (by omega); rw [all_succ (by assumption : l[i]? = some _), Bool.and_eq_true]; refine ⟨by assumption, ?_⟩; simp only [shOk, Bool.and_eq_true, decide_eq_true_eq]; refine ⟨by omega, by omega, by omega, by omega, ?_⟩; clear hf_ hfx_; simp_all)), (by first | omega | (have hf_ := hfx_ (by omega); rw [all_succ (by assumption : l[i]? = some _), Bool.and_eq_true]; refine ⟨by assumption, ?_⟩; simp only [shOk, Bool.and_eq_true, decide_eq_true_eq]; refine ⟨by omega, by omega, by omega, by omega, ?_⟩; clear hf_ hfx_; simp_all))⟩ (by first | omega | (dsimp only; omega))
       ·
        refine cw_t (b := !(inC c36)) rfl (not_t h40) ?_
        refine cw_seq ?_
        refine cw_region ?_
        refine rw_ev (ev_assign rfl) rfl rfl rfl ?_
        refine rw_ev (ev_assign rfl) rfl rfl rfl ?_
        refine rw_nil ?_
        refine nw_seq ?_
        refine cw_ret ?_
        refine ret_post (rs := [.tmp 6, .tmp 7]) (vs := [.slice none 0 0, .int .i64 2]) rfl (.tmp rfl (.tmp rfl .nil)) ?_
        have hk_ : shiftC l dx dy = ([], 2) := by
          unfold shiftC; rw [if_pos (by assumption), if_neg (by rw [all_stop (by assumption : l[i]? = some _) (by simp [shOk]; intros; simp_all)]; simp)]
        refine ⟨(.slice none 0 0), ?_, K0, ?_⟩
        · show (.tuple #[.slice none 0 0, .int .i64 2] : Value) = _
          rw [hk_]
        · have hl_ : ([] : List Cell) = (shiftC l dx dy).1 := by rw [hk_]
          rw [← hl_]; exact (Sl.nil _ _ 2)
      ·
       refine cw_f (b := decide ((i : Int) < (l.length : Int))) rfl (dec_f h18) ?_
       refine cw_exit ?_
       refine xw_seq ?_
       refine xw_goal ?_
       refine xw_hit ?_
       refine nw_seq ?_
       refine cw_seq ?_
       refine cw_region ?_
       refine rw_ev (ev_move rfl) rfl rfl rfl ?_
       refine rw_ev (ev_assign rfl) rfl rfl rfl ?_
       refine rw_ev (ev_assign rfl) rfl rfl rfl ?_
       refine rw_nil ?_
       refine nw_seq ?_
       refine cw_ret ?_
       refine ret_post (rs := [.tmp 6, .tmp 7]) (vs := [.slice (some ⟨g7, 0, none⟩) l.length l.length, .int .i64 0]) rfl (.tmp rfl (.tmp rfl .nil)) ?_
       have hk_ : shiftC l dx dy = ((((l.take i).map fun c => (c.1 + dx, c.2 + dy)) ++ List.replicate (l.length - i) ((0 : Int), (0 : Int))), 0) := by
         have hi_ : i = l.length := by omega
         subst hi_
         unfold shiftC; rw [if_pos (by assumption), if_pos (by rw [← List.take_length (l := l)]; assumption), List.take_length, Nat.sub_self]; simp
       have sw41 := Fr.sl0 f15 (A := fun x_ => x_ = g7) rfl (n := l.length) (c := l.length) (by first | assumption | omega | (simp only [List.length_set, List.length_append, List.length_map, List.length_take, List.length_replicate]; omega) | (have := right_len (by assumption : rightC l = true); unfold maxLen; omega) | (simp; omega)) (by first | assumption | omega | (simp only [List.length_set, List.length_append, List.length_map, List.length_take, List.length_replicate]; omega) | (have := right_len (by assumption : rightC l = true); unfold maxLen; omega) | (simp; omega)) (by first | assumption | omega | (simp only [List.length_set, List.length_append, List.length_map, List.length_take, List.length_replicate]; omega) | (have := right_len (by assumption : rightC l = true); unfold maxLen; omega) | (simp; omega))
       refine ⟨(.slice (some ⟨g7, 0, none⟩) l.length l.length), ?_, K0, ?_⟩
       · show (.tuple #[.slice (some ⟨g7, 0, none⟩) l.length l.length, .int .i64 0] : Value) = _
         rw [hk_]
       · have hl_ : (((l.take i).map fun c => (c.1 + dx, c.2 + dy)) ++ List.replicate (l.length - i) ((0 : Int), (0 : Int))) = (shiftC l dx dy).1 := by rw [hk_]
         rw [← hl_]; exact (Sl.since sw41 (fun b_ e_ => (show b_ = g7 from e_).symm ▸ Nat.le_trans zw1 hg9))
   ·
    refine rw_skip (gd_tf rfl (dec_f h4)) rfl rfl ?_
    refine rw_skip (gd_tf rfl (dec_f h4)) rfl rfl ?_
    refine rw_skip (gd_tf rfl (dec_f h4)) rfl rfl ?_
    refine rw_skip (gd_tf rfl (dec_f h4)) rfl rfl ?_
    refine rw_skip (gd_tf rfl (dec_f h4)) rfl rfl ?_
    refine rw_skip (gd_tf rfl (dec_f h4)) rfl rfl ?_
    refine rw_skip (gd_tf rfl (dec_f h4)) rfl rfl ?_
    refine rw_skip (gd_tf rfl (dec_f h4)) rfl rfl ?_
    refine rw_ev (ev_pk_f rfl (dec_f h4) rfl) rfl rfl rfl ?_
    refine rw_ev (ev_move rfl) rfl rfl rfl ?_
    refine rw_ev (ev_move rfl) rfl rfl rfl ?_
    refine rw_ev (ev_move rfl) rfl rfl rfl ?_
    refine rw_ev (ev_min rfl rfl) rfl rfl rfl ?_
    refine rw_ev (ev_lss rfl rfl) rfl rfl rfl ?_
    refine rw_ev (ev_move rfl) rfl rfl rfl ?_
    by_cases h42 : (min dx dy) < (-2199023255552)
    ·
     refine rw_ev (ev_move rfl) (gd_tt rfl (dec_t h42)) rfl rfl ?_
     refine rw_ev (v := .int .i64 (l.length : Int)) (ev_lenm (l := l) ⟨_, hv⟩ rfl el_46 rfl) (gd_tt rfl (dec_t h42)) rfl rfl ?_
     refine rw_ev (ev_gtr rfl rfl) (gd_tt rfl (dec_t h42)) rfl rfl ?_
     refine rw_ev (ev_pk_t rfl (dec_t h42) rfl) rfl rfl rfl ?_
     refine rw_ev (ev_pk_f rfl rfl rfl) rfl rfl rfl ?_
     refine rw_nil ?_
     refine nw_seq ?_
     refine cw_f (b := decide ((0 : Int) < (l.length : Int))) rfl (dec_f h4) ?_
     refine cw_skip ?_
     refine nw_seq ?_
     refine cw_seq ?_
     refine cw_region ?_
     refine rw_ev (ev_move rfl) rfl rfl rfl ?_
     refine rw_ev (v := .int .i64 (l.length : Int)) (ev_lenm (l := l) ⟨_, hv⟩ rfl el_46 rfl) rfl rfl rfl ?_
     refine rw_op (op_makeRow (m := l.length) (q := (l.length : Int)) row_46 zv_55 rfl rfl (by omega) (by have := right_len (by assumption : rightC l = true); omega) (by have := right_len (by assumption : rightC l = true); omega)) rfl rfl rfl ?_
     rintro _ w44 ⟨g43, rfl, hg45, k46, fr47⟩
     replace fr47 : Fr w44 g43 55 2 ((List.replicate l.length ((0 : Int), (0 : Int))).map encC ++ ([] : List (List Value))) := by
       simpa using fr47
     replace K0 := Ex.trans K0 k46
     replace hv := hv.ex k46
     have zw44 := k46.size
     have lg43 := fr47.lt
     refine rw_ev (ev_assign rfl) rfl rfl rfl ?_
     refine rw_nil ?_
     refine nw_seq ?_
     refine cw_seq ?_
     refine cw_seq ?_
     refine cw_region ?_
     refine rw_ev (ev_move rfl) rfl rfl rfl ?_
     refine rw_ev (v := .int .i64 (l.length : Int)) (ev_lenm (l := l) ⟨_, hv⟩ rfl el_46 rfl) rfl rfl rfl ?_
     refine rw_ev (ev_move rfl) rfl rfl rfl ?_
     refine rw_nil ?_
     refine nw_seq ?_
     refine cw_block ?_
     refine cw_loop (σ := Nat) (fun i => [(1, .int .i64 dx), (2, .int .i64 dy), (6, .slice none 0 0), (7, .int .i64 0), (8, .slice (some ⟨g43, 0, none⟩) l.length l.length), (41, v), (42, .int .i64 (l.length : Int)), (43, .int .i64 (i : Int))]) (fun i wr => Ex w wr ∧ w44.heap.size ≤ wr.heap.size ∧ Sl wr (fun b => b < w.heap.size) v 2 (l.map encC) ∧ Fr wr g43 55 2 ((((l.take i).map fun c => (c.1 + dx, c.2 + dy)) ++ List.replicate (l.length - i) ((0 : Int), (0 : Int))).map encC ++ ([] : List (List Value))) ∧ (l.take i).all (shOk dx dy) = true ∧ i ≤ l.length) (fun i => l.length - i) 0 (Sub.cons rfl (Sub.cons rfl (Sub.cons rfl (Sub.cons rfl (Sub.cons rfl (Sub.cons rfl (Sub.cons rfl (Sub.int (b := (0 : Int)) rfl (by omega) Sub.nil)))))))) ⟨K0, (Nat.le_refl _), hv, (by have hq := fr47; first | simpa using hq | (rw [shift_set (by assumption : l[i]? = some _)] at hq; exact hq)), (by first | omega | simp), (by first | omega | simp)⟩ ?_
     rintro i w48 ⟨K0, z49, f50, f51, pr52, pr53⟩
     show CW _ _ _ _ _ _ [(1, .int .i64 dx), (2, .int .i64 dy), (6, .slice none 0 0), (7, .int .i64 0), (8, .slice (some ⟨g43, 0, none⟩) l.length l.length), (41, v), (42, .int .i64 (l.length : Int)), (43, .int .i64 (i : Int))] _
     have hfx_ : 0 < l.length → (-2199023255552 ≤ dx ∧ dx ≤ 2199023255552 ∧ -2199023255552 ≤ dy ∧ dy ≤ 2199023255552) := by intro _; unfold wrap64 at *; omega
     refine cw_seq ?_
     refine cw_region ?_
     refine rw_ev (ev_lss rfl rfl) rfl rfl rfl ?_
     refine rw_nil ?_
     refine nw_seq ?_
     refine cw_seq ?_
     by_cases h54 : (i : Int) < (l.length : Int)
     ·
      refine cw_t (b := decide ((i : Int) < (l.length : Int))) rfl (dec_t h54) ?_
      refine cw_skip ?_
      refine nw_seq ?_
      refine cw_seq ?_
      refine cw_block ?_
      refine cw_seq ?_
      refine cw_region ?_
      refine rw_ev (ev_move rfl) rfl rfl rfl ?_
      obtain ⟨c55, hc56⟩ := get_of (l := l) (i := i) (by first | omega | (simp only [List.length_set, List.length_append, List.length_map, List.length_take, List.length_replicate]; omega))
      obtain ⟨_, _, _, _⟩ := right_in h3 hc56
      refine rw_ev (v := elemPtr v i 2 0) (ev_slAt (i := (i : Int)) ⟨_, f50⟩ rfl rfl el_46 (idx_ok (i := (i : Int)) hc56 (by first | omega | (simp only [List.length_set, List.length_append, List.length_map, List.length_take, List.length_replicate]; omega)))) rfl rfl rfl ?_
      refine rw_ev (v := .agg #[.int .i64 c55.1, .int .i64 c55.2]) (ev_elLoadk (us := [.int .i64 c55.1, .int .i64 c55.2]) (fun _ h => h ▸ f50) ⟨_, rfl⟩ rfl (get_enc hc56) agg_55 (by decide) rfl rfl) rfl rfl rfl ?_
      refine rw_op (op_alloc zero_55) rfl rfl rfl ?_
      rintro _ w58 ⟨g57, rfl, hg59, k60, b61⟩
      replace K0 := Ex.trans K0 k60
      replace f50 := f50.ex k60
      replace f51 := f51.ex k60
      have zw58 := k60.size
      have lg57 := b61.lt
      refine rw_ev (ev_assign rfl) rfl rfl rfl ?_
      refine rw_none (op_store (off := 0) (v := .agg #[.int .i64 c55.1, .int .i64 c55.2]) (cs' := #[.int .i64 c55.1, .int .i64 c55.2]) b61 rfl rfl size_55 rfl (Nat.le_of_ble_eq_true rfl) (one_cons rfl (one_cons rfl one_nil)) rfl) rfl rfl ?_
      rintro _ w62 ⟨k63, b64⟩
      replace K0 := Ex.kp_new K0 k63 (fun _ h => h ▸ Nat.le_trans (Nat.le_trans zw1 (Nat.le_trans zw44 z49)) hg59)
      replace f50 := f50.kp k63 (fun b h e => Nat.lt_irrefl _ (Nat.lt_of_lt_of_le (show g57 < _ from e ▸ (show b < _ from h)) (Nat.le_trans (Nat.le_trans zw1 (Nat.le_trans zw44 z49)) hg59)))
      replace f51 := f51.kp k63 (Nat.ne_of_lt (Nat.lt_of_lt_of_le lg43 (Nat.le_trans z49 hg59)))
      have zw62 := k63.size
      refine rw_nil ?_
      refine nw_seq ?_
      refine cw_seq ?_
      refine cw_region ?_
      refine rw_ev (ev_move rfl) rfl rfl rfl ?_
      refine rw_ev (ev_move rfl) rfl rfl rfl ?_
      refine rw_ev (v := .pointer (some ⟨g57, 0, none⟩)) (ev_field (o := 0) rfl foff_55_0) rfl rfl rfl ?_
      refine rw_ev (v := .int .i64 c55.1) (ev_lb1 (off := 0) (fun _ h => h ▸ b64) rfl one_3 rfl) rfl rfl rfl ?_
      refine rw_ev (ev_move rfl) rfl rfl rfl ?_
      refine rw_ev (ev_add rfl rfl (by omega)) rfl rfl rfl ?_
      refine rw_ev (v := .pointer (some ⟨g57, 1, none⟩)) (ev_field (o := 1) rfl foff_55_1) rfl rfl rfl ?_
      refine rw_ev (v := .int .i64 c55.2) (ev_lb1 (off := 1) (fun _ h => h ▸ b64) rfl one_3 rfl) rfl rfl rfl ?_
      refine rw_ev (ev_move rfl) rfl rfl rfl ?_
      refine rw_ev (ev_add rfl rfl (by omega)) rfl rfl rfl ?_
      refine rw_ev (v := .agg #[.int .i64 (c55.1 + dx), .int .i64 (c55.2 + dy)]) (ev_pure rfl rfl (fun _ => by kernel_rfl)) rfl rfl rfl ?_
      have sw65 := Fr.sl0 f51 (A := fun x_ => x_ = g43) rfl (n := l.length) (c := l.length) (by first | assumption | omega | (simp only [List.length_set, List.length_append, List.length_map, List.length_take, List.length_replicate]; omega) | (have := right_len (by assumption : rightC l = true); unfold maxLen; omega) | (simp; omega)) (by first | assumption | omega | (simp only [List.length_set, List.length_append, List.length_map, List.length_take, List.length_replicate]; omega) | (have := right_len (by assumption : rightC l = true); unfold maxLen; omega) | (simp; omega)) (by first | assumption | omega | (simp only [List.length_set, List.length_append, List.length_map, List.length_take, List.length_replicate]; omega) | (have := right_len (by assumption : rightC l = true); unfold maxLen; omega) | (simp; omega))
      obtain ⟨c66, hc67⟩ := get_of (l := (((l.take i).map fun c => (c.1 + dx, c.2 + dy)) ++ List.replicate (l.length - i) ((0 : Int), (0 : Int)))) (i := i) (by first | omega | (simp only [List.length_set, List.length_append, List.length_map, List.length_take, List.length_replicate]; omega))
      skip
      refine rw_ev (v := elemPtr (.slice (some ⟨g43, 0, none⟩) l.length l.length) i 2 0) (ev_slAt (i := (i : Int)) ⟨_, sw65⟩ rfl rfl el_46 (idx_ok (i := (i : Int)) hc67 (by first | omega | (simp only [List.length_set, List.length_append, List.length_map, List.length_take, List.length_replicate]; omega)))) rfl rfl rfl ?_
      refine rw_none (op_wstore (fs := (((l.take i).map fun c => (c.1 + dx, c.2 + dy)) ++ List.replicate (l.length - i) ((0 : Int), (0 : Int))).map encC ++ ([] : List (List Value))) (i := 0) (j := i) (u := .agg #[.int .i64 (c55.1 + dx), .int .i64 (c55.2 + dy)]) f51 rfl (by first | assumption | omega | (simp only [List.length_set, List.length_append, List.length_map, List.length_take, List.length_replicate]; omega) | (have := right_len (by assumption : rightC l = true); unfold maxLen; omega) | (simp; omega)) rfl size_55 rfl (by simp [Value.cells, Value.oneCell']) (by have h_ : i < ((((l.take i).map fun c => (c.1 + dx, c.2 + dy)) ++ List.replicate (l.length - i) ((0 : Int), (0 : Int)))).length := (by first | assumption | omega | (simp only [List.length_set, List.length_append, List.length_map, List.length_take, List.length_replicate]; omega) | (have := right_len (by assumption : rightC l = true); unfold maxLen; omega) | (simp; omega)); rw [List.length_append, List.length_map]; omega)) rfl rfl ?_
      rintro _ w68 ⟨k69, fr70⟩
      replace fr70 := Fr.set_enc (f := encC) (c := (c55.1 + dx, c55.2 + dy)) (j := i) fr70 (by omega) (by first | assumption | omega | (simp only [List.length_set, List.length_append, List.length_map, List.length_take, List.length_replicate]; omega) | (have := right_len (by assumption : rightC l = true); unfold maxLen; omega) | (simp; omega))
      replace K0 := Ex.kp_new K0 k69 (fun _ h => h ▸ Nat.le_trans zw1 hg45)
      replace f50 := f50.kp k69 (fun b h e => Nat.lt_irrefl _ (Nat.lt_of_lt_of_le (show g43 < _ from e ▸ (show b < _ from h)) (Nat.le_trans zw1 hg45)))
      replace b64 := b64.kp k69 (Nat.ne_of_gt (Nat.lt_of_lt_of_le lg43 (Nat.le_trans z49 hg59)))
      have zw68 := k69.size
      refine rw_nil ?_
      refine nw_seq ?_
      refine cw_seq ?_
      refine cw_region ?_
      refine rw_ev (ev_move rfl) rfl rfl rfl ?_
      refine rw_ev (ev_move rfl) rfl rfl rfl ?_
      have sw71 := Fr.sl0 fr70 (A := fun x_ => x_ = g43) rfl (n := l.length) (c := l.length) (by first | assumption | omega | (simp only [List.length_set, List.length_append, List.length_map, List.length_take, List.length_replicate]; omega) | (have := right_len (by assumption : rightC l = true); unfold maxLen; omega) | (simp; omega)) (by first | assumption | omega | (simp only [List.length_set, List.length_append, List.length_map, List.length_take, List.length_replicate]; omega) | (have := right_len (by assumption : rightC l = true); unfold maxLen; omega) | (simp; omega)) (by first | assumption | omega | (simp only [List.length_set, List.length_append, List.length_map, List.length_take, List.length_replicate]; omega) | (have := right_len (by assumption : rightC l = true); unfold maxLen; omega) | (simp; omega))
      obtain ⟨c72, hc73⟩ := get_of (l := ((((l.take i).map fun c => (c.1 + dx, c.2 + dy)) ++ List.replicate (l.length - i) ((0 : Int), (0 : Int))).set i (c55.1 + dx, c55.2 + dy))) (i := i) (by first | omega | (simp only [List.length_set, List.length_append, List.length_map, List.length_take, List.length_replicate]; omega))
      have ec72 := set_get (by simp only [List.length_set, List.length_append, List.length_map, List.length_take, List.length_replicate]; omega) hc73
      refine rw_ev (v := elemPtr (.slice (some ⟨g43, 0, none⟩) l.length l.length) i 2 0) (ev_slAt (i := (i : Int)) ⟨_, sw71⟩ rfl rfl el_46 (idx_ok (i := (i : Int)) hc73 (by first | omega | (simp only [List.length_set, List.length_append, List.length_map, List.length_take, List.length_replicate]; omega)))) rfl rfl rfl ?_
      refine rw_ev (v := .agg #[.int .i64 c72.1, .int .i64 c72.2]) (ev_elLoadk (us := [.int .i64 c72.1, .int .i64 c72.2]) (fun _ h => h ▸ sw71) ⟨_, rfl⟩ rfl (get_enc hc73) agg_55 (by decide) rfl rfl) rfl rfl rfl ?_
      refine rw_op (op_fn (xs := [.tmp 63]) ent_100 rfl (c_cin w68 c72)) rfl rfl rfl ?_
      rintro _ w74 ⟨rfl, k75⟩
      replace K0 := Ex.trans K0 k75
      replace f50 := f50.ex k75
      replace b64 := b64.ex k75
      replace fr70 := fr70.ex k75
      replace sw71 := sw71.ex k75
      have zw74 := k75.size
      refine rw_ev (ev_not rfl rfl) rfl rfl rfl ?_
      refine rw_nil ?_
      refine nw_seq ?_
      rcases Bool.eq_false_or_eq_true (inC c72) with h76 | h76
      ·
       refine cw_f (b := !(inC c72)) rfl (not_f h76) ?_
       refine cw_skip ?_
       refine nw_block ?_
       refine nw_seq ?_
       refine cw_region ?_
       refine rw_ev (ev_add rfl rfl (by omega)) rfl rfl rfl ?_
       refine rw_ev (ev_move rfl) rfl rfl rfl ?_
       refine rw_nil ?_
       exact nw_round (i + 1) (Sub.cons rfl (Sub.cons rfl (Sub.cons rfl (Sub.cons rfl (Sub.cons rfl (Sub.cons rfl (Sub.cons rfl (Sub.int (b := ((i + 1) : Int)) rfl (by omega) Sub.nil)))))))) ⟨K0, (Nat.le_trans z49 (Nat.le_trans zw58 (Nat.le_trans zw62 (Nat.le_trans zw68 zw74)))), f50, (by have hq := fr70; first | simpa using hq | (rw [shift_set (by assumption : l[i]? = some _)] at hq; exact hq)), (by first | omega | (have hf_ := hfx_ (by omega); rw [all_succ (by assumption : l[i]? = some _), Bool.and_eq_true]; refine ⟨by assumption, ?_⟩; simp only [shOk, Bool.and_eq_true, decide_eq_true_eq]; refine ⟨by omega, by omega, by omega, by omega, ?_⟩; clear hf_ hfx_; simp_all)), (by first | omega | (have hf_ := hfx_ (by omega); rw [all_succ (by assumption : l[i]? = some _), Bool.and_eq_true]; refine ⟨by assumption, ?_⟩; simp only [shOk, Bool.and_eq_true, decide_eq_true_eq]; refine ⟨by omega, by omega, by omega, by omega, ?_⟩; clear hf_ hfx_; simp_all))⟩ (by first | omega | (dsimp only; omega))
      ·
       refine cw_t (b := !(inC c72)) rfl (not_t h76) ?_
       refine cw_seq ?_
       refine cw_region ?_
       refine rw_ev (ev_assign rfl) rfl rfl rfl ?_
       refine rw_ev (ev_assign rfl) rfl rfl rfl ?_
       refine rw_nil ?_
       refine nw_seq ?_
       refine cw_ret ?_
       refine ret_post (rs := [.tmp 6, .tmp 7]) (vs := [.slice none 0 0, .int .i64 2]) rfl (.tmp rfl (.tmp rfl .nil)) ?_
       have hk_ : shiftC l dx dy = ([], 2) := by
         unfold shiftC; rw [if_pos (by assumption), if_neg (by rw [all_stop (by assumption : l[i]? = some _) (by simp [shOk]; intros; simp_all)]; simp)]
       refine ⟨(.slice none 0 0), ?_, K0, ?_⟩
       · show (.tuple #[.slice none 0 0, .int .i64 2] : Value) = _
         rw [hk_]
       · have hl_ : ([] : List Cell) = (shiftC l dx dy).1 := by rw [hk_]
         rw [← hl_]; exact (Sl.nil _ _ 2)
     ·
      refine cw_f (b := decide ((i : Int) < (l.length : Int))) rfl (dec_f h54) ?_
      refine cw_exit ?_
      refine xw_seq ?_
      refine xw_goal ?_
      refine xw_hit ?_
      refine nw_seq ?_
      refine cw_seq ?_
      refine cw_region ?_
      refine rw_ev (ev_move rfl) rfl rfl rfl ?_
      refine rw_ev (ev_assign rfl) rfl rfl rfl ?_
      refine rw_ev (ev_assign rfl) rfl rfl rfl ?_
      refine rw_nil ?_
      refine nw_seq ?_
      refine cw_ret ?_
      refine ret_post (rs := [.tmp 6, .tmp 7]) (vs := [.slice (some ⟨g43, 0, none⟩) l.length l.length, .int .i64 0]) rfl (.tmp rfl (.tmp rfl .nil)) ?_
      have hk_ : shiftC l dx dy = ((((l.take i).map fun c => (c.1 + dx, c.2 + dy)) ++ List.replicate (l.length - i) ((0 : Int), (0 : Int))), 0) := by
        have hi_ : i = l.length := by omega
        subst hi_
        unfold shiftC; rw [if_pos (by assumption), if_pos (by rw [← List.take_length (l := l)]; assumption), List.take_length, Nat.sub_self]; simp
      have sw77 := Fr.sl0 f51 (A := fun x_ => x_ = g43) rfl (n := l.length) (c := l.length) (by first | assumption | omega | (simp only [List.length_set, List.length_append, List.length_map, List.length_take, List.length_replicate]; omega) | (have := right_len (by assumption : rightC l = true); unfold maxLen; omega) | (simp; omega)) (by first | assumption | omega | (simp only [List.length_set, List.length_append, List.length_map, List.length_take, List.length_replicate]; omega) | (have := right_len (by assumption : rightC l = true); unfold maxLen; omega) | (simp; omega)) (by first | assumption | omega | (simp only [List.length_set, List.length_append, List.length_map, List.length_take, List.length_replicate]; omega) | (have := right_len (by assumption : rightC l = true); unfold maxLen; omega) | (simp; omega))
      refine ⟨(.slice (some ⟨g43, 0, none⟩) l.length l.length), ?_, K0, ?_⟩
      · show (.tuple #[.slice (some ⟨g43, 0, none⟩) l.length l.length, .int .i64 0] : Value) = _
        rw [hk_]
      · have hl_ : (((l.take i).map fun c => (c.1 + dx, c.2 + dy)) ++ List.replicate (l.length - i) ((0 : Int), (0 : Int))) = (shiftC l dx dy).1 := by rw [hk_]
        rw [← hl_]; exact (Sl.since sw77 (fun b_ e_ => (show b_ = g43 from e_).symm ▸ Nat.le_trans zw1 hg45))
    ·
     refine rw_skip (gd_tf rfl (dec_f h42)) rfl rfl ?_
     refine rw_skip (gd_tf rfl (dec_f h42)) rfl rfl ?_
     refine rw_skip (gd_tf rfl (dec_f h42)) rfl rfl ?_
     refine rw_ev (ev_pk_f rfl (dec_f h42) rfl) rfl rfl rfl ?_
     refine rw_ev (ev_pk_f rfl rfl rfl) rfl rfl rfl ?_
     refine rw_nil ?_
     refine nw_seq ?_
     refine cw_f (b := false) rfl rfl ?_
     refine cw_skip ?_
     refine nw_seq ?_
     refine cw_seq ?_
     refine cw_region ?_
     refine rw_ev (ev_move rfl) rfl rfl rfl ?_
     refine rw_ev (v := .int .i64 (l.length : Int)) (ev_lenm (l := l) ⟨_, hv⟩ rfl el_46 rfl) rfl rfl rfl ?_
     refine rw_op (op_makeRow (m := l.length) (q := (l.length : Int)) row_46 zv_55 rfl rfl (by omega) (by have := right_len (by assumption : rightC l = true); omega) (by have := right_len (by assumption : rightC l = true); omega)) rfl rfl rfl ?_
     rintro _ w79 ⟨g78, rfl, hg80, k81, fr82⟩
     replace fr82 : Fr w79 g78 55 2 ((List.replicate l.length ((0 : Int), (0 : Int))).map encC ++ ([] : List (List Value))) := by
       simpa using fr82
     replace K0 := Ex.trans K0 k81
     replace hv := hv.ex k81
     have zw79 := k81.size
     have lg78 := fr82.lt
     refine rw_ev (ev_assign rfl) rfl rfl rfl ?_
     refine rw_nil ?_
     refine nw_seq ?_
     refine cw_seq ?_
     refine cw_seq ?_
     refine cw_region ?_
     refine rw_ev (ev_move rfl) rfl rfl rfl ?_
     refine rw_ev (v := .int .i64 (l.length : Int)) (ev_lenm (l := l) ⟨_, hv⟩ rfl el_46 rfl) rfl rfl rfl ?_
     refine rw_ev (ev_move rfl) rfl rfl rfl ?_
     refine rw_nil ?_
     refine nw_seq ?_
     refine cw_block ?_
     refine cw_loop (σ := Nat) (fun i => [(1, .int .i64 dx), (2, .int .i64 dy), (6, .slice none 0 0), (7, .int .i64 0), (8, .slice (some ⟨g78, 0, none⟩) l.length l.length), (41, v), (42, .int .i64 (l.length : Int)), (43, .int .i64 (i : Int))]) (fun i wr => Ex w wr ∧ w79.heap.size ≤ wr.heap.size ∧ Sl wr (fun b => b < w.heap.size) v 2 (l.map encC) ∧ Fr wr g78 55 2 ((((l.take i).map fun c => (c.1 + dx, c.2 + dy)) ++ List.replicate (l.length - i) ((0 : Int), (0 : Int))).map encC ++ ([] : List (List Value))) ∧ (l.take i).all (shOk dx dy) = true ∧ i ≤ l.length) (fun i => l.length - i) 0 (Sub.cons rfl (Sub.cons rfl (Sub.cons rfl (Sub.cons rfl (Sub.cons rfl (Sub.cons rfl (Sub.cons rfl (Sub.int (b := (0 : Int)) rfl (by omega) Sub.nil)))))))) ⟨K0, (Nat.le_refl _), hv, (by have hq := fr82; first | simpa using hq | (rw [shift_set (by assumption : l[i]? = some _)] at hq; exact hq)), (by first | omega | simp), (by first | omega | simp)⟩ ?_
     rintro i w83 ⟨K0, z84, f85, f86, pr87, pr88⟩
     show CW _ _ _ _ _ _ [(1, .int .i64 dx), (2, .int .i64 dy), (6, .slice none 0 0), (7, .int .i64 0), (8, .slice (some ⟨g78, 0, none⟩) l.length l.length), (41, v), (42, .int .i64 (l.length : Int)), (43, .int .i64 (i : Int))] _
     have hfx_ : 0 < l.length → (-2199023255552 ≤ dx ∧ dx ≤ 2199023255552 ∧ -2199023255552 ≤ dy ∧ dy ≤ 2199023255552) := by intro _; unfold wrap64 at *; omega
     refine cw_seq ?_
     refine cw_region ?_
     refine rw_ev (ev_lss rfl rfl) rfl rfl rfl ?_
     refine rw_nil ?_
     refine nw_seq ?_
     refine cw_seq ?_
     by_cases h89 : (i : Int) < (l.length : Int)
     ·
      refine cw_t (b := decide ((i : Int) < (l.length : Int))) rfl (dec_t h89) ?_
      refine cw_skip ?_
      refine nw_seq ?_
      refine cw_seq ?_
      refine cw_block ?_
      refine cw_seq ?_
      refine cw_region ?_
      refine rw_ev (ev_move rfl) rfl rfl rfl ?_
      obtain ⟨c90, hc91⟩ := get_of (l := l) (i := i) (by first | omega | (simp only [List.length_set, List.length_append, List.length_map, List.length_take, List.length_replicate]; omega))
      obtain ⟨_, _, _, _⟩ := right_in h3 hc91
      refine rw_ev (v := elemPtr v i 2 0) (ev_slAt (i := (i : Int)) ⟨_, f85⟩ rfl rfl el_46 (idx_ok (i := (i : Int)) hc91 (by first | omega | (simp only [List.length_set, List.length_append, List.length_map, List.length_take, List.length_replicate]; omega)))) rfl rfl rfl ?_
      refine rw_ev (v := .agg #[.int .i64 c90.1, .int .i64 c90.2]) (ev_elLoadk (us := [.int .i64 c90.1, .int .i64 c90.2]) (fun _ h => h ▸ f85) ⟨_, rfl⟩ rfl (get_enc hc91) agg_55 (by decide) rfl rfl) rfl rfl rfl ?_
      refine rw_op (op_alloc zero_55) rfl rfl rfl ?_
      rintro _ w93 ⟨g92, rfl, hg94, k95, b96⟩
      replace K0 := Ex.trans K0 k95
      replace f85 := f85.ex k95
      replace f86 := f86.ex k95
      have zw93 := k95.size
      have lg92 := b96.lt
      refine rw_ev (ev_assign rfl) rfl rfl rfl ?_
      refine rw_none (op_store (off := 0) (v := .agg #[.int .i64 c90.1, .int .i64 c90.2]) (cs' := #[.int .i64 c90.1, .int .i64 c90.2]) b96 rfl rfl size_55 rfl (Nat.le_of_ble_eq_true rfl) (one_cons rfl (one_cons rfl one_nil)) rfl) rfl rfl ?_
      rintro _ w97 ⟨k98, b99⟩
      replace K0 := Ex.kp_new K0 k98 (fun _ h => h ▸ Nat.le_trans (Nat.le_trans zw1 (Nat.le_trans zw79 z84)) hg94)
      replace f85 := f85.kp k98 (fun b h e => Nat.lt_irrefl _ (Nat.lt_of_lt_of_le (show g92 < _ from e ▸ (show b < _ from h)) (Nat.le_trans (Nat.le_trans zw1 (Nat.le_trans zw79 z84)) hg94)))
      replace f86 := f86.kp k98 (Nat.ne_of_lt (Nat.lt_of_lt_of_le lg78 (Nat.le_trans z84 hg94)))
      have zw97 := k98.size
      refine rw_nil ?_
      refine nw_seq ?_
      refine cw_seq ?_
      refine cw_region ?_
      refine rw_ev (ev_move rfl) rfl rfl rfl ?_
      refine rw_ev (ev_move rfl) rfl rfl rfl ?_
      refine rw_ev (v := .pointer (some ⟨g92, 0, none⟩)) (ev_field (o := 0) rfl foff_55_0) rfl rfl rfl ?_
      refine rw_ev (v := .int .i64 c90.1) (ev_lb1 (off := 0) (fun _ h => h ▸ b99) rfl one_3 rfl) rfl rfl rfl ?_
      refine rw_ev (ev_move rfl) rfl rfl rfl ?_
      refine rw_ev (ev_add rfl rfl (by omega)) rfl rfl rfl ?_
      refine rw_ev (v := .pointer (some ⟨g92, 1, none⟩)) (ev_field (o := 1) rfl foff_55_1) rfl rfl rfl ?_
      refine rw_ev (v := .int .i64 c90.2) (ev_lb1 (off := 1) (fun _ h => h ▸ b99) rfl one_3 rfl) rfl rfl rfl ?_
      refine rw_ev (ev_move rfl) rfl rfl rfl ?_
      refine rw_ev (ev_add rfl rfl (by omega)) rfl rfl rfl ?_
      refine rw_ev (v := .agg #[.int .i64 (c90.1 + dx), .int .i64 (c90.2 + dy)]) (ev_pure rfl rfl (fun _ => by kernel_rfl)) rfl rfl rfl ?_
      have sw100 := Fr.sl0 f86 (A := fun x_ => x_ = g78) rfl (n := l.length) (c := l.length) (by first | assumption | omega | (simp only [List.length_set, List.length_append, List.length_map, List.length_take, List.length_replicate]; omega) | (have := right_len (by assumption : rightC l = true); unfold maxLen; omega) | (simp; omega)) (by first | assumption | omega | (simp only [List.length_set, List.length_append, List.length_map, List.length_take, List.length_replicate]; omega) | (have := right_len (by assumption : rightC l = true); unfold maxLen; omega) | (simp; omega)) (by first | assumption | omega | (simp only [List.length_set, List.length_append, List.length_map, List.length_take, List.length_replicate]; omega) | (have := right_len (by assumption : rightC l = true); unfold maxLen; omega) | (simp; omega))
      obtain ⟨c101, hc102⟩ := get_of (l := (((l.take i).map fun c => (c.1 + dx, c.2 + dy)) ++ List.replicate (l.length - i) ((0 : Int), (0 : Int)))) (i := i) (by first | omega | (simp only [List.length_set, List.length_append, List.length_map, List.length_take, List.length_replicate]; omega))
      skip
      refine rw_ev (v := elemPtr (.slice (some ⟨g78, 0, none⟩) l.length l.length) i 2 0) (ev_slAt (i := (i : Int)) ⟨_, sw100⟩ rfl rfl el_46 (idx_ok (i := (i : Int)) hc102 (by first | omega | (simp only [List.length_set, List.length_append, List.length_map, List.length_take, List.length_replicate]; omega)))) rfl rfl rfl ?_
      refine rw_none (op_wstore (fs := (((l.take i).map fun c => (c.1 + dx, c.2 + dy)) ++ List.replicate (l.length - i) ((0 : Int), (0 : Int))).map encC ++ ([] : List (List Value))) (i := 0) (j := i) (u := .agg #[.int .i64 (c90.1 + dx), .int .i64 (c90.2 + dy)]) f86 rfl (by first | assumption | omega | (simp only [List.length_set, List.length_append, List.length_map, List.length_take, List.length_replicate]; omega) | (have := right_len (by assumption : rightC l = true); unfold maxLen; omega) | (simp; omega)) rfl size_55 rfl (by simp [Value.cells, Value.oneCell']) (by have h_ : i < ((((l.take i).map fun c => (c.1 + dx, c.2 + dy)) ++ List.replicate (l.length - i) ((0 : Int), (0 : Int)))).length := (by first | assumption | omega | (simp only [List.length_set, List.length_append, List.length_map, List.length_take, List.length_replicate]; omega) | (have := right_len (by assumption : rightC l = true); unfold maxLen; omega) | (simp; omega)); rw [List.length_append, List.length_map]; omega)) rfl rfl ?_
      rintro _ w103 ⟨k104, fr105⟩
      replace fr105 := Fr.set_enc (f := encC) (c := (c90.1 + dx, c90.2 + dy)) (j := i) fr105 (by omega) (by first | assumption | omega | (simp only [List.length_set, List.length_append, List.length_map, List.length_take, List.length_replicate]; omega) | (have := right_len (by assumption : rightC l = true); unfold maxLen; omega) | (simp; omega))
      replace K0 := Ex.kp_new K0 k104 (fun _ h => h ▸ Nat.le_trans zw1 hg80)
      replace f85 := f85.kp k104 (fun b h e => Nat.lt_irrefl _ (Nat.lt_of_lt_of_le (show g78 < _ from e ▸ (show b < _ from h)) (Nat.le_trans zw1 hg80)))
      replace b99 := b99.kp k104 (Nat.ne_of_gt (Nat.lt_of_lt_of_le lg78 (Nat.le_trans z84 hg94)))
      have zw103 := k104.size
      refine rw_nil ?_
      refine nw_seq ?_
      refine cw_seq ?_
      refine cw_region ?_
      refine rw_ev (ev_move rfl) rfl rfl rfl ?_
      refine rw_ev (ev_move rfl) rfl rfl rfl ?_
      have sw106 := Fr.sl0 fr105 (A := fun x_ => x_ = g78) rfl (n := l.length) (c := l.length) (by first | assumption | omega | (simp only [List.length_set, List.length_append, List.length_map, List.length_take, List.length_replicate]; omega) | (have := right_len (by assumption : rightC l = true); unfold maxLen; omega) | (simp; omega)) (by first | assumption | omega | (simp only [List.length_set, List.length_append, List.length_map, List.length_take, List.length_replicate]; omega) | (have := right_len (by assumption : rightC l = true); unfold maxLen; omega) | (simp; omega)) (by first | assumption | omega | (simp only [List.length_set, List.length_append, List.length_map, List.length_take, List.length_replicate]; omega) | (have := right_len (by assumption : rightC l = true); unfold maxLen; omega) | (simp; omega))
      obtain ⟨c107, hc108⟩ := get_of (l := ((((l.take i).map fun c => (c.1 + dx, c.2 + dy)) ++ List.replicate (l.length - i) ((0 : Int), (0 : Int))).set i (c90.1 + dx, c90.2 + dy))) (i := i) (by first | omega | (simp only [List.length_set, List.length_append, List.length_map, List.length_take, List.length_replicate]; omega))
      have ec107 := set_get (by simp only [List.length_set, List.length_append, List.length_map, List.length_take, List.length_replicate]; omega) hc108
      refine rw_ev (v := elemPtr (.slice (some ⟨g78, 0, none⟩) l.length l.length) i 2 0) (ev_slAt (i := (i : Int)) ⟨_, sw106⟩ rfl rfl el_46 (idx_ok (i := (i : Int)) hc108 (by first | omega | (simp only [List.length_set, List.length_append, List.length_map, List.length_take, List.length_replicate]; omega)))) rfl rfl rfl ?_
      refine rw_ev (v := .agg #[.int .i64 c107.1, .int .i64 c107.2]) (ev_elLoadk (us := [.int .i64 c107.1, .int .i64 c107.2]) (fun _ h => h ▸ sw106) ⟨_, rfl⟩ rfl (get_enc hc108) agg_55 (by decide) rfl rfl) rfl rfl rfl ?_
      refine rw_op (op_fn (xs := [.tmp 63]) ent_100 rfl (c_cin w103 c107)) rfl rfl rfl ?_
      rintro _ w109 ⟨rfl, k110⟩
      replace K0 := Ex.trans K0 k110
      replace f85 := f85.ex k110
      replace b99 := b99.ex k110
      replace fr105 := fr105.ex k110
      replace sw106 := sw106.ex k110
      have zw109 := k110.size
      refine rw_ev (ev_not rfl rfl) rfl rfl rfl ?_
      refine rw_nil ?_
      refine nw_seq ?_
      rcases Bool.eq_false_or_eq_true (inC c107) with h111 | h111
      ·
       refine cw_f (b := !(inC c107)) rfl (not_f h111) ?_
       refine cw_skip ?_
       refine nw_block ?_
       refine nw_seq ?_
       refine cw_region ?_
       refine rw_ev (ev_add rfl rfl (by omega)) rfl rfl rfl ?_
       refine rw_ev (ev_move rfl) rfl rfl rfl ?_
       refine rw_nil ?_
       exact nw_round (i + 1) (Sub.cons rfl (Sub.cons rfl (Sub.cons rfl (Sub.cons rfl (Sub.cons rfl (Sub.cons rfl (Sub.cons rfl (Sub.int (b := ((i + 1) : Int)) rfl (by omega) Sub.nil)))))))) ⟨K0, (Nat.le_trans z84 (Nat.le_trans zw93 (Nat.le_trans zw97 (Nat.le_trans zw103 zw109)))), f85, (by have hq := fr105; first | simpa using hq | (rw [shift_set (by assumption : l[i]? = some _)] at hq; exact hq)), (by first | omega | (have hf_ := hfx_ (by omega); rw [all_succ (by assumption : l[i]? = some _), Bool.and_eq_true]; refine ⟨by assumption, ?_⟩; simp only [shOk, Bool.and_eq_true, decide_eq_true_eq]; refine ⟨by omega, by omega, by omega, by omega, ?_⟩; clear hf_ hfx_; simp_all)), (by first | omega | (have hf_ := hfx_ (by omega); rw [all_succ (by assumption : l[i]? = some _), Bool.and_eq_true]; refine ⟨by assumption, ?_⟩; simp only [shOk, Bool.and_eq_true, decide_eq_true_eq]; refine ⟨by omega, by omega, by omega, by omega, ?_⟩; clear hf_ hfx_; simp_all))⟩ (by first | omega | (dsimp only; omega))
      ·
       refine cw_t (b := !(inC c107)) rfl (not_t h111) ?_
       refine cw_seq ?_
       refine cw_region ?_
       refine rw_ev (ev_assign rfl) rfl rfl rfl ?_
       refine rw_ev (ev_assign rfl) rfl rfl rfl ?_
       refine rw_nil ?_
       refine nw_seq ?_
       refine cw_ret ?_
       refine ret_post (rs := [.tmp 6, .tmp 7]) (vs := [.slice none 0 0, .int .i64 2]) rfl (.tmp rfl (.tmp rfl .nil)) ?_
       have hk_ : shiftC l dx dy = ([], 2) := by
         unfold shiftC; rw [if_pos (by assumption), if_neg (by rw [all_stop (by assumption : l[i]? = some _) (by simp [shOk]; intros; simp_all)]; simp)]
       refine ⟨(.slice none 0 0), ?_, K0, ?_⟩
       · show (.tuple #[.slice none 0 0, .int .i64 2] : Value) = _
         rw [hk_]
       · have hl_ : ([] : List Cell) = (shiftC l dx dy).1 := by rw [hk_]
         rw [← hl_]; exact (Sl.nil _ _ 2)
     ·
      refine cw_f (b := decide ((i : Int) < (l.length : Int))) rfl (dec_f h89) ?_
      refine cw_exit ?_
      refine xw_seq ?_
      refine xw_goal ?_
      refine xw_hit ?_
      refine nw_seq ?_
      refine cw_seq ?_
      refine cw_region ?_
      refine rw_ev (ev_move rfl) rfl rfl rfl ?_
      refine rw_ev (ev_assign rfl) rfl rfl rfl ?_
      refine rw_ev (ev_assign rfl) rfl rfl rfl ?_
      refine rw_nil ?_
      refine nw_seq ?_
      refine cw_ret ?_
      refine ret_post (rs := [.tmp 6, .tmp 7]) (vs := [.slice (some ⟨g78, 0, none⟩) l.length l.length, .int .i64 0]) rfl (.tmp rfl (.tmp rfl .nil)) ?_
      have hk_ : shiftC l dx dy = ((((l.take i).map fun c => (c.1 + dx, c.2 + dy)) ++ List.replicate (l.length - i) ((0 : Int), (0 : Int))), 0) := by
        have hi_ : i = l.length := by omega
        subst hi_
        unfold shiftC; rw [if_pos (by assumption), if_pos (by rw [← List.take_length (l := l)]; assumption), List.take_length, Nat.sub_self]; simp
      have sw112 := Fr.sl0 f86 (A := fun x_ => x_ = g78) rfl (n := l.length) (c := l.length) (by first | assumption | omega | (simp only [List.length_set, List.length_append, List.length_map, List.length_take, List.length_replicate]; omega) | (have := right_len (by assumption : rightC l = true); unfold maxLen; omega) | (simp; omega)) (by first | assumption | omega | (simp only [List.length_set, List.length_append, List.length_map, List.length_take, List.length_replicate]; omega) | (have := right_len (by assumption : rightC l = true); unfold maxLen; omega) | (simp; omega)) (by first | assumption | omega | (simp only [List.length_set, List.length_append, List.length_map, List.length_take, List.length_replicate]; omega) | (have := right_len (by assumption : rightC l = true); unfold maxLen; omega) | (simp; omega))
      refine ⟨(.slice (some ⟨g78, 0, none⟩) l.length l.length), ?_, K0, ?_⟩
      · show (.tuple #[.slice (some ⟨g78, 0, none⟩) l.length l.length, .int .i64 0] : Value) = _
        rw [hk_]
      · have hl_ : (((l.take i).map fun c => (c.1 + dx, c.2 + dy)) ++ List.replicate (l.length - i) ((0 : Int), (0 : Int))) = (shiftC l dx dy).1 := by rw [hk_]
        rw [← hl_]; exact (Sl.since sw112 (fun b_ e_ => (show b_ = g78 from e_).symm ▸ Nat.le_trans zw1 hg80))
  ·
   refine cw_t (b := !(rightC l)) rfl (not_t h3) ?_
   refine cw_seq ?_
   refine cw_region ?_
   refine rw_ev (ev_assign rfl) rfl rfl rfl ?_
   refine rw_ev (ev_assign rfl) rfl rfl rfl ?_
   refine rw_nil ?_
   refine nw_seq ?_
   refine cw_ret ?_
   refine ret_post (rs := [.tmp 6, .tmp 7]) (vs := [.slice none 0 0, .int .i64 1]) rfl (.tmp rfl (.tmp rfl .nil)) ?_
   have hk_ : shiftC l dx dy = ([], 1) := by simp [shiftC, *]
   refine ⟨(.slice none 0 0), ?_, K0, ?_⟩
   · show (.tuple #[.slice none 0 0, .int .i64 1] : Value) = _
     rw [hk_]
   · have hl_ : ([] : List Cell) = (shiftC l dx dy).1 := by rw [hk_]
     rw [← hl_]; exact (Sl.nil _ _ 2)

theorem c_cbox (w : World) (v : Value) (l : List Cell) (hv : Sl w (fun b => b < w.heap.size) v 2 (l.map encC)) : Fn Try.prog 59 [v] w (fun v w' =>  v = .tuple #[.agg #[.int .i64 ((boxC l).1.1), .int .i64 ((boxC l).1.2.1), .int .i64 ((boxC l).1.2.2.1), .int .i64 ((boxC l).1.2.2.2)], .bool ((boxC l).2)] ∧ Ex w w') := by
  have K0 : Ex w w := Kp.refl _ _
  refine fn_enter (n := 64) Try.func59 rfl rfl (Nat.le_of_ble_eq_true rfl) ?_
  show CW _ _ _ _ _ _ [(0, v)] _
  have hlv_ := hv.lenm
  refine cw_seq ?_
  refine cw_region ?_
  refine rw_op (op_alloc zero_69) rfl rfl rfl ?_
  rintro _ w2 ⟨g1, rfl, hg3, k4, b5⟩
  replace K0 := Ex.trans K0 k4
  replace hv := hv.ex k4
  have zw2 := k4.size
  have lg1 := b5.lt
  refine rw_ev (ev_assign rfl) rfl rfl rfl ?_
  refine rw_nil ?_
  refine nw_seq ?_
  refine cw_seq ?_
  refine cw_seq ?_
  refine cw_region ?_
  refine rw_ev (ev_move rfl) rfl rfl rfl ?_
  refine rw_ev (v := .int .i64 (l.length : Int)) (ev_lenm (l := l) ⟨_, hv⟩ rfl el_46 rfl) rfl rfl rfl ?_
  refine rw_ev (ev_eq rfl rfl) rfl rfl rfl ?_
  refine rw_ev (ev_move rfl) rfl rfl rfl ?_
  by_cases h6 : (l.length : Int) = 0
  ·
   refine rw_skip (gd_ft rfl (dec_t h6)) rfl rfl ?_
   refine rw_skip (gd_ft rfl (dec_t h6)) rfl rfl ?_
   refine rw_skip (gd_ft rfl (dec_t h6)) rfl rfl ?_
   refine rw_ev (ev_pk_t rfl (dec_t h6) rfl) rfl rfl rfl ?_
   refine rw_nil ?_
   refine nw_seq ?_
   refine cw_t (b := true) rfl rfl ?_
   refine cw_seq ?_
   refine cw_region ?_
   refine rw_ev (v := .agg #[.int .i64 0, .int .i64 0, .int .i64 0, .int .i64 0]) (ev_pure rfl rfl (fun _ => by kernel_rfl)) rfl rfl rfl ?_
   refine rw_none (op_store (off := 0) (v := .agg #[.int .i64 0, .int .i64 0, .int .i64 0, .int .i64 0]) (cs' := #[.int .i64 0, .int .i64 0, .int .i64 0, .int .i64 0]) b5 rfl rfl size_69 rfl (Nat.le_of_ble_eq_true rfl) (one_cons rfl (one_cons rfl (one_cons rfl (one_cons rfl one_nil)))) rfl) rfl rfl ?_
   rintro _ w7 ⟨k8, b9⟩
   replace K0 := Ex.kp_new K0 k8 (fun _ h => h ▸ Nat.le_trans (Nat.le_refl _) hg3)
   replace hv := hv.kp k8 (fun b h e => Nat.lt_irrefl _ (Nat.lt_of_lt_of_le (show g1 < _ from e ▸ (show b < _ from h)) (Nat.le_trans (Nat.le_refl _) hg3)))
   have zw7 := k8.size
   refine rw_ev (ev_assign rfl) rfl rfl rfl ?_
   refine rw_nil ?_
   refine nw_seq ?_
   refine cw_ret ?_
   refine ret_post (rs := [.cell 2 69, .tmp 3]) (vs := [.agg #[.int .i64 0, .int .i64 0, .int .i64 0, .int .i64 0], .bool false]) rfl (.cell rfl b9 agg_69 rfl (.tmp rfl .nil)) ?_
   have hk_ : boxC l = ((0, 0, 0, 0), false) := by
     unfold boxC; cases l <;> simp_all <;> omega
   refine ⟨?_, K0⟩
   · show (.tuple #[.agg #[.int .i64 0, .int .i64 0, .int .i64 0, .int .i64 0], .bool false] : Value) = _
     simp only [hk_]
  ·
   refine rw_ev (ev_move rfl) (gd_ff rfl (dec_f h6)) rfl rfl ?_
   refine rw_op (op_fn (xs := [.tmp 14]) ent_58 rfl (c_cright w2 v l (Sl.below hv))) (gd_ff rfl (dec_f h6)) rfl rfl ?_
   rintro _ w10 ⟨rfl, k11⟩
   replace K0 := Ex.trans K0 k11
   replace hv := hv.ex k11
   replace b5 := b5.ex k11
   have zw10 := k11.size
   refine rw_ev (ev_not rfl rfl) (gd_ff rfl (dec_f h6)) rfl rfl ?_
   refine rw_ev (ev_pk_f rfl (dec_f h6) rfl) rfl rfl rfl ?_
   refine rw_nil ?_
   refine nw_seq ?_
   rcases Bool.eq_false_or_eq_true (rightC l) with h12 | h12
   ·
    refine cw_f (b := !(rightC l)) rfl (not_f h12) ?_
    refine cw_skip ?_
    refine nw_seq ?_
    refine cw_seq ?_
    refine cw_drawn (fun w13 w_ => Ex w13 w_) [] (.take 0 (.take 1 (.take 2 (.take 3 (.take 4 (.take 5 (.take 6 (.take 7 (.take 8 (.take 9 .done)))))))))) mixed (by kernel_rfl) (by kernel_rfl) (Nat.le_of_ble_eq_true (by kernel_rfl)) ?_; intro w13 k14 hs_
    replace K0 := Ex.trans K0 k14
    replace hv := hv.ex k14
    replace b5 := b5.ex k14
    have zw13 := k14.size
    have hS : (fun w_ => Ex w13 w_) w13 := Kp.refl _ _
    refine rp_take hs_ hS rfl rfl (ev_move rfl) rfl rfl rfl ?_
    obtain ⟨c15, hc16⟩ := get_of (l := l) (i := 0) (by omega)
    obtain ⟨_, _, _, _⟩ := right_in h12 hc16
    refine rp_take (v := elemPtr v 0 2 0) hs_ hS rfl rfl (ev_slAt (i := 0) ⟨_, (hv.ex hS)⟩ rfl rfl el_46 (idx_ok (i := 0) hc16 (by omega))) rfl rfl rfl ?_
    refine rp_take (v := elemPtr v 0 2 0) hs_ hS rfl rfl (ev_elField (o := 0) ⟨_, (hv.ex hS)⟩ (len_enc hc16) rfl foff_55_0) rfl rfl rfl ?_
    refine rp_take (v := .int .i64 c15.1) hs_ hS rfl rfl (ev_elLoad1 (u := .int .i64 c15.1) (fun _ h => (hv.ex h)) ⟨_, hS⟩ rfl (get_enc hc16) one_3 (by decide) rfl) rfl rfl rfl ?_
    refine rp_take hs_ hS rfl rfl (ev_move rfl) rfl rfl rfl ?_
    refine rp_take (v := elemPtr v 0 2 0) hs_ hS rfl rfl (ev_slAt (i := 0) ⟨_, (hv.ex hS)⟩ rfl rfl el_46 (idx_ok (i := 0) hc16 (by omega))) rfl rfl rfl ?_
    refine rp_take (v := elemPtr v 0 2 0) hs_ hS rfl rfl (ev_elField (o := 0) ⟨_, (hv.ex hS)⟩ (len_enc hc16) rfl foff_55_0) rfl rfl rfl ?_
    refine rp_take (v := .int .i64 c15.1) hs_ hS rfl rfl (ev_elLoad1 (u := .int .i64 c15.1) (fun _ h => (hv.ex h)) ⟨_, hS⟩ rfl (get_enc hc16) one_3 (by decide) rfl) rfl rfl rfl ?_
    refine rp_take hs_ hS rfl rfl (ev_assign rfl) rfl rfl rfl ?_
    refine rp_take hs_ hS rfl rfl (ev_assign rfl) rfl rfl rfl ?_
    refine rp_done ?_
    clear hs_
    refine nw_seq ?_
    refine cw_seq ?_
    refine cw_seq ?_
    refine cw_region ?_
    refine rw_ev (ev_move rfl) rfl rfl rfl ?_
    refine rw_ev (v := .int .i64 (l.length : Int)) (ev_lenm (l := l) ⟨_, hv⟩ rfl el_46 rfl) rfl rfl rfl ?_
    refine rw_ev (ev_move rfl) rfl rfl rfl ?_
    refine rw_nil ?_
    refine nw_seq ?_
    refine cw_block ?_
    refine cw_loop (σ := Nat × Int × Int) (fun s_ => match s_ with | (i, a, b) => [(0, v), (2, .pointer (some ⟨g1, 0, none⟩)), (3, .bool false), (4, .int .i64 a), (5, .int .i64 b), (27, v), (28, .int .i64 (l.length : Int)), (29, .int .i64 (i : Int))]) (fun s_ wr => match s_ with | (i, a, b) => Ex w wr ∧ w13.heap.size ≤ wr.heap.size ∧ Sl wr (fun b => b < w.heap.size) v 2 (l.map encC) ∧ Bx wr g1 69 #[.int .i64 0, .int .i64 0, .int .i64 0, .int .i64 0] ∧ (a, b) = (l.take i).foldl spanX (c15.1, c15.1) ∧ -1099511627776 ≤ a ∧ a ≤ 1099511627776 ∧ -1099511627776 ≤ b ∧ b ≤ 1099511627776 ∧ i ≤ l.length) (fun s_ => match s_ with | (i, a, b) => l.length - i) (0, c15.1, c15.1) (Sub.cons rfl (Sub.cons rfl (Sub.cons rfl (Sub.cons rfl (Sub.cons rfl (Sub.cons rfl (Sub.cons rfl (Sub.int (b := (0 : Int)) rfl (by omega) Sub.nil)))))))) ⟨K0, (Nat.le_refl _), hv, b5, (by first | omega | rfl), (by first | omega | rfl), (by first | omega | rfl), (by first | omega | rfl)⟩ ?_
    rintro ⟨i, a, b⟩ w17 ⟨K0, z18, f19, f20, pr21, pr22, pr23, pr24⟩
    show CW _ _ _ _ _ _ [(0, v), (2, .pointer (some ⟨g1, 0, none⟩)), (3, .bool false), (4, .int .i64 a), (5, .int .i64 b), (27, v), (28, .int .i64 (l.length : Int)), (29, .int .i64 (i : Int))] _
    refine cw_seq ?_
    refine cw_region ?_
    refine rw_ev (ev_lss rfl rfl) rfl rfl rfl ?_
    refine rw_nil ?_
    refine nw_seq ?_
    refine cw_seq ?_
    by_cases h25 : (i : Int) < (l.length : Int)
    ·
     refine cw_t (b := decide ((i : Int) < (l.length : Int))) rfl (dec_t h25) ?_
     refine cw_skip ?_
     refine nw_seq ?_
     refine cw_seq ?_
     refine cw_block ?_
     refine cw_seq ?_
     refine cw_region ?_
     obtain ⟨c26, hc27⟩ := get_of (l := l) (i := i) (by omega)
     obtain ⟨_, _, _, _⟩ := right_in h12 hc27
     refine rw_ev (v := elemPtr v i 2 0) (ev_slAt (i := (i : Int)) ⟨_, f19⟩ rfl rfl el_46 (idx_ok (i := (i : Int)) hc27 (by omega))) rfl rfl rfl ?_
     refine rw_ev (v := .agg #[.int .i64 c26.1, .int .i64 c26.2]) (ev_elLoadk (us := [.int .i64 c26.1, .int .i64 c26.2]) (fun _ h => h ▸ f19) ⟨_, rfl⟩ rfl (get_enc hc27) agg_55 (by decide) rfl rfl) rfl rfl rfl ?_
     refine rw_op (op_alloc zero_55) rfl rfl rfl ?_
     rintro _ w29 ⟨g28, rfl, hg30, k31, b32⟩
     replace K0 := Ex.trans K0 k31
     replace f19 := f19.ex k31
     replace f20 := f20.ex k31
     have zw29 := k31.size
     have lg28 := b32.lt
     refine rw_none (op_store (off := 0) (v := .agg #[.int .i64 c26.1, .int .i64 c26.2]) (cs' := #[.int .i64 c26.1, .int .i64 c26.2]) b32 rfl rfl size_55 rfl (Nat.le_of_ble_eq_true rfl) (one_cons rfl (one_cons rfl one_nil)) rfl) rfl rfl ?_
     rintro _ w33 ⟨k34, b35⟩
     replace K0 := Ex.kp_new K0 k34 (fun _ h => h ▸ Nat.le_trans (Nat.le_trans zw2 (Nat.le_trans zw10 (Nat.le_trans zw13 z18))) hg30)
     replace f19 := f19.kp k34 (fun b h e => Nat.lt_irrefl _ (Nat.lt_of_lt_of_le (show g28 < _ from e ▸ (show b < _ from h)) (Nat.le_trans (Nat.le_trans zw2 (Nat.le_trans zw10 (Nat.le_trans zw13 z18))) hg30)))
     replace f20 := f20.kp k34 (Nat.ne_of_lt (Nat.lt_of_lt_of_le lg1 (Nat.le_trans (Nat.le_trans zw10 (Nat.le_trans zw13 z18)) hg30)))
     have zw33 := k34.size
     refine rw_nil ?_
     refine nw_seq ?_
     refine cw_drawn (fun w36 w_ => Ex w36 w_) [] (.take 0 (.take 1 (.take 2 (.take 3 (.take 4 (.take 5 (.take 6 (.take 7 (.take 8 (.take 9 .done)))))))))) mixed (by kernel_rfl) (by kernel_rfl) (Nat.le_of_ble_eq_true (by kernel_rfl)) ?_; intro w36 k37 hs_
     replace K0 := Ex.trans K0 k37
     replace f19 := f19.ex k37
     replace f20 := f20.ex k37
     replace b35 := b35.ex k37
     have zw36 := k37.size
     have hS : (fun w_ => Ex w36 w_) w36 := Kp.refl _ _
     refine rp_take hs_ hS rfl rfl (ev_move rfl) rfl rfl rfl ?_
     refine rp_take (v := .pointer (some ⟨g28, 0, none⟩)) hs_ hS rfl rfl (ev_field (o := 0) rfl foff_55_0) rfl rfl rfl ?_
     refine rp_take (v := .int .i64 c26.1) hs_ hS rfl rfl (ev_lb1 (off := 0) (fun _ h => b35.ex h) rfl one_3 rfl) rfl rfl rfl ?_
     refine rp_take hs_ hS rfl rfl (ev_min rfl rfl) rfl rfl rfl ?_
     refine rp_take hs_ hS rfl rfl (ev_move rfl) rfl rfl rfl ?_
     refine rp_take (v := .pointer (some ⟨g28, 0, none⟩)) hs_ hS rfl rfl (ev_field (o := 0) rfl foff_55_0) rfl rfl rfl ?_
     refine rp_take (v := .int .i64 c26.1) hs_ hS rfl rfl (ev_lb1 (off := 0) (fun _ h => b35.ex h) rfl one_3 rfl) rfl rfl rfl ?_
     refine rp_take hs_ hS rfl rfl (ev_max rfl rfl) rfl rfl rfl ?_
     refine rp_take hs_ hS rfl rfl (ev_assign rfl) rfl rfl rfl ?_
     refine rp_take hs_ hS rfl rfl (ev_assign rfl) rfl rfl rfl ?_
     refine rp_done ?_
     clear hs_
     refine nw_block ?_
     refine nw_seq ?_
     refine cw_region ?_
     refine rw_ev (ev_add rfl rfl (by omega)) rfl rfl rfl ?_
     refine rw_ev (ev_move rfl) rfl rfl rfl ?_
     refine rw_nil ?_
     exact nw_round ((i + 1), min a c26.1, max b c26.1) (Sub.cons rfl (Sub.cons rfl (Sub.cons rfl (Sub.cons rfl (Sub.cons rfl (Sub.cons rfl (Sub.cons rfl (Sub.int (b := ((i + 1) : Int)) rfl (by omega) Sub.nil)))))))) ⟨K0, (Nat.le_trans z18 (Nat.le_trans zw29 (Nat.le_trans zw33 zw36))), f19, f20, (by first | omega | (rw [take_succ_fold (by assumption : l[i]? = some _), ← (by assumption : (a, b) = (l.take i).foldl spanX (c15.1, c15.1))]; rfl)), (by first | omega | (rw [take_succ_fold (by assumption : l[i]? = some _), ← (by assumption : (a, b) = (l.take i).foldl spanX (c15.1, c15.1))]; rfl)), (by first | omega | (rw [take_succ_fold (by assumption : l[i]? = some _), ← (by assumption : (a, b) = (l.take i).foldl spanX (c15.1, c15.1))]; rfl)), (by first | omega | (rw [take_succ_fold (by assumption : l[i]? = some _), ← (by assumption : (a, b) = (l.take i).foldl spanX (c15.1, c15.1))]; rfl))⟩ (by first | omega | (dsimp only; omega))
    ·
     refine cw_f (b := decide ((i : Int) < (l.length : Int))) rfl (dec_f h25) ?_
     refine cw_exit ?_
     refine xw_seq ?_
     refine xw_goal ?_
     refine xw_hit ?_
     refine nw_seq ?_
     refine cw_seq ?_
     refine cw_drawn (fun w38 w_ => Ex w38 w_) [] (.take 0 (.take 1 (.take 2 (.take 3 (.take 4 (.take 5 (.take 6 (.take 7 (.take 8 (.take 9 (.take 10 (.take 11 (.take 12 .done))))))))))))) mixed (by kernel_rfl) (by kernel_rfl) (Nat.le_of_ble_eq_true (by kernel_rfl)) ?_; intro w38 k39 hs_
     replace K0 := Ex.trans K0 k39
     replace f19 := f19.ex k39
     replace f20 := f20.ex k39
     have zw38 := k39.size
     have hS : (fun w_ => Ex w38 w_) w38 := Kp.refl _ _
     refine rp_take hs_ hS rfl rfl (ev_move rfl) rfl rfl rfl ?_
     refine rp_take (v := elemPtr v 0 2 0) hs_ hS rfl rfl (ev_slAt (i := 0) ⟨_, (f19.ex hS)⟩ rfl rfl el_46 (idx_ok (i := 0) hc16 (by omega))) rfl rfl rfl ?_
     refine rp_take (v := elemPtr v 0 2 1) hs_ hS rfl rfl (ev_elField (o := 1) ⟨_, (f19.ex hS)⟩ (len_enc hc16) rfl foff_55_1) rfl rfl rfl ?_
     refine rp_take (v := .int .i64 c15.2) hs_ hS rfl rfl (ev_elLoad1 (u := .int .i64 c15.2) (fun _ h => (f19.ex h)) ⟨_, hS⟩ rfl (get_enc hc16) one_3 (by decide) rfl) rfl rfl rfl ?_
     refine rp_take hs_ hS rfl rfl (ev_move rfl) rfl rfl rfl ?_
     refine rp_take hs_ hS rfl rfl (ev_move rfl) rfl rfl rfl ?_
     refine rp_take (v := .int .i64 (l.length : Int)) hs_ hS rfl rfl (ev_lenm (l := l) ⟨_, (f19.ex hS)⟩ rfl el_46 rfl) rfl rfl rfl ?_
     refine rp_take hs_ hS rfl rfl (ev_sub rfl rfl (by omega)) rfl rfl rfl ?_
     obtain ⟨c40, hc41⟩ := get_of (l := l) (i := ((l.length : Int) - 1).toNat) (by omega)
     obtain ⟨_, _, _, _⟩ := right_in h12 hc41
     refine rp_take (v := elemPtr v (((l.length : Int) - 1).toNat) 2 0) hs_ hS rfl rfl (ev_slAt (i := (l.length : Int) - 1) ⟨_, (f19.ex hS)⟩ rfl rfl el_46 (idx_ok (i := (l.length : Int) - 1) hc41 (by omega))) rfl rfl rfl ?_
     refine rp_take (v := elemPtr v (((l.length : Int) - 1).toNat) 2 1) hs_ hS rfl rfl (ev_elField (o := 1) ⟨_, (f19.ex hS)⟩ (len_enc hc41) rfl foff_55_1) rfl rfl rfl ?_
     refine rp_take (v := .int .i64 c40.2) hs_ hS rfl rfl (ev_elLoad1 (u := .int .i64 c40.2) (fun _ h => (f19.ex h)) ⟨_, hS⟩ rfl (get_enc hc41) one_3 (by decide) rfl) rfl rfl rfl ?_
     refine rp_take hs_ hS rfl rfl (ev_assign rfl) rfl rfl rfl ?_
     refine rp_take hs_ hS rfl rfl (ev_assign rfl) rfl rfl rfl ?_
     refine rp_done ?_
     clear hs_
     refine nw_seq ?_
     refine cw_seq ?_
     refine cw_region ?_
     refine rw_ev (ev_move rfl) rfl rfl rfl ?_
     refine rw_ev (ev_move rfl) rfl rfl rfl ?_
     refine rw_ev (ev_move rfl) rfl rfl rfl ?_
     refine rw_ev (ev_move rfl) rfl rfl rfl ?_
     refine rw_ev (ev_sub rfl rfl (by omega)) rfl rfl rfl ?_
     refine rw_ev (ev_add rfl rfl (by omega)) rfl rfl rfl ?_
     refine rw_ev (ev_move rfl) rfl rfl rfl ?_
     refine rw_ev (ev_move rfl) rfl rfl rfl ?_
     refine rw_ev (ev_sub rfl rfl (by omega)) rfl rfl rfl ?_
     refine rw_ev (ev_add rfl rfl (by omega)) rfl rfl rfl ?_
     refine rw_ev (v := .agg #[.int .i64 a, .int .i64 c15.2, .int .i64 ((b - a) + 1), .int .i64 ((c40.2 - c15.2) + 1)]) (ev_pure rfl rfl (fun _ => by kernel_rfl)) rfl rfl rfl ?_
     refine rw_none (op_store (off := 0) (v := .agg #[.int .i64 a, .int .i64 c15.2, .int .i64 ((b - a) + 1), .int .i64 ((c40.2 - c15.2) + 1)]) (cs' := #[.int .i64 a, .int .i64 c15.2, .int .i64 ((b - a) + 1), .int .i64 ((c40.2 - c15.2) + 1)]) f20 rfl rfl size_69 rfl (Nat.le_of_ble_eq_true rfl) (one_cons rfl (one_cons rfl (one_cons rfl (one_cons rfl one_nil)))) rfl) rfl rfl ?_
     rintro _ w42 ⟨k43, b44⟩
     replace K0 := Ex.kp_new K0 k43 (fun _ h => h ▸ Nat.le_trans (Nat.le_refl _) hg3)
     replace f19 := f19.kp k43 (fun b h e => Nat.lt_irrefl _ (Nat.lt_of_lt_of_le (show g1 < _ from e ▸ (show b < _ from h)) (Nat.le_trans (Nat.le_refl _) hg3)))
     have zw42 := k43.size
     refine rw_ev (ev_assign rfl) rfl rfl rfl ?_
     refine rw_nil ?_
     refine nw_seq ?_
     refine cw_ret ?_
     refine ret_post (rs := [.cell 2 69, .tmp 3]) (vs := [.agg #[.int .i64 a, .int .i64 c15.2, .int .i64 ((b - a) + 1), .int .i64 ((c40.2 - c15.2) + 1)], .bool true]) rfl (.cell rfl b44 agg_69 rfl (.tmp rfl .nil)) ?_
     have hz_ : ((l.length : Int) - 1).toNat = l.length - 1 := by omega
     have hl_ := hc41
     rw [hz_] at hl_
     have hf_ : (a, b) = l.foldl spanX (c15.1, c15.1) := by
       have hq_ := (by assumption : (a, b) = (l.take i).foldl spanX (c15.1, c15.1))
       rwa [take_all (by assumption : ¬ (i : Int) < l.length)] at hq_
     have hk_ : boxC l = ((a, c15.2, b - a + 1, c40.2 - c15.2 + 1), true) := by
       rw [boxC_up (by assumption) hc16 hl_, ← hf_]
     refine ⟨?_, K0⟩
     · show (.tuple #[.agg #[.int .i64 a, .int .i64 c15.2, .int .i64 ((b - a) + 1), .int .i64 ((c40.2 - c15.2) + 1)], .bool true] : Value) = _
       simp only [hk_]
   ·
    refine cw_t (b := !(rightC l)) rfl (not_t h12) ?_
    refine cw_seq ?_
    refine cw_region ?_
    refine rw_ev (v := .agg #[.int .i64 0, .int .i64 0, .int .i64 0, .int .i64 0]) (ev_pure rfl rfl (fun _ => by kernel_rfl)) rfl rfl rfl ?_
    refine rw_none (op_store (off := 0) (v := .agg #[.int .i64 0, .int .i64 0, .int .i64 0, .int .i64 0]) (cs' := #[.int .i64 0, .int .i64 0, .int .i64 0, .int .i64 0]) b5 rfl rfl size_69 rfl (Nat.le_of_ble_eq_true rfl) (one_cons rfl (one_cons rfl (one_cons rfl (one_cons rfl one_nil)))) rfl) rfl rfl ?_
    rintro _ w45 ⟨k46, b47⟩
    replace K0 := Ex.kp_new K0 k46 (fun _ h => h ▸ Nat.le_trans (Nat.le_refl _) hg3)
    replace hv := hv.kp k46 (fun b h e => Nat.lt_irrefl _ (Nat.lt_of_lt_of_le (show g1 < _ from e ▸ (show b < _ from h)) (Nat.le_trans (Nat.le_refl _) hg3)))
    have zw45 := k46.size
    refine rw_ev (ev_assign rfl) rfl rfl rfl ?_
    refine rw_nil ?_
    refine nw_seq ?_
    refine cw_ret ?_
    refine ret_post (rs := [.cell 2 69, .tmp 3]) (vs := [.agg #[.int .i64 0, .int .i64 0, .int .i64 0, .int .i64 0], .bool false]) rfl (.cell rfl b47 agg_69 rfl (.tmp rfl .nil)) ?_
    have hk_ : boxC l = ((0, 0, 0, 0), false) := by
      unfold boxC; cases l <;> simp_all <;> omega
    refine ⟨?_, K0⟩
    · show (.tuple #[.agg #[.int .i64 0, .int .i64 0, .int .i64 0, .int .i64 0], .bool false] : Value) = _
      simp only [hk_]

end Go.Proofs.Ythpaadmpgdglnaa
