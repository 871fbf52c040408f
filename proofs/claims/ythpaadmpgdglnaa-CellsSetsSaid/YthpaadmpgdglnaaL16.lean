/- The law CellsSets: it returns true. Its condition: numbers of 64 bits. -/
import Derived.Test.YthpaadmpgdglnaaFg
import Derived.Test.YthpaadmpgdglnaaDb
namespace Go.Proofs.Ythpaadmpgdglnaa
open Go Go.RowKit
set_option linter.unusedVariables false
set_option linter.unusedSimpArgs false
set_option maxRecDepth 100000
set_option maxHeartbeats 4000000

theorem law_CellsSets (w : World) (rv : Value) (raw : List Cell) (hrv : Sl w (fun b => b < w.heap.size) rv 2 (raw.map encC)) (hrvr : RawOk raw) (at_ : Int) (x : Int) (y : Int) (hat_64 : -9223372036854775808 ≤ at_ ∧ at_ ≤ 9223372036854775807) (hx64 : -9223372036854775808 ≤ x ∧ x ≤ 9223372036854775807) (hy64 : -9223372036854775808 ≤ y ∧ y ≤ 9223372036854775807) : Fn Try.prog 16 [rv, .int .i64 at_, .int .i64 x, .int .i64 y] w (fun v w' =>  v = .bool true ∧ Ex w w') := by
  have K0 : Ex w w := Kp.refl _ _
  refine fn_enter (n := 228) Try.func16 rfl rfl (Nat.le_of_ble_eq_true rfl) ?_
  show CW _ _ _ _ _ _ [(0, rv), (1, .int .i64 at_), (2, .int .i64 x), (3, .int .i64 y)] _
  refine cw_seq ?_
  refine cw_region ?_
  refine rw_ev (ev_assign rfl) rfl rfl rfl ?_
  refine rw_nil ?_
  refine nw_seq ?_
  refine cw_seq ?_
  refine cw_region ?_
  refine rw_op (op_fn (xs := []) ent_56 rfl (c_awake1 w )) rfl rfl rfl ?_
  rintro _ w1 ⟨rfl, k2⟩
  replace K0 := Ex.trans K0 k2
  replace hrv := hrv.ex k2
  have zw1 := k2.size
  refine rw_ev (ev_assign rfl) rfl rfl rfl ?_
  refine rw_nil ?_
  refine nw_seq ?_
  refine cw_seq ?_
  refine cw_region ?_
  refine rw_ev (ev_assign rfl) rfl rfl rfl ?_
  refine rw_nil ?_
  refine nw_seq ?_
  refine cw_seq ?_
  refine cw_seq ?_
  refine cw_region ?_
  refine rw_ev (ev_assign rfl) rfl rfl rfl ?_
  refine rw_nil ?_
  refine nw_seq ?_
  refine cw_block ?_
  refine cw_loop (σ := Nat × Value) (fun s_ => match s_ with | (i, v) => [(0, rv), (1, .int .i64 at_), (2, .int .i64 x), (3, .int .i64 y), (8, .bool false), (9, .bool true), (10, v), (11, .int .i64 (i : Int))]) (fun s_ wr => match s_ with | (i, v) => Ex w wr ∧ w1.heap.size ≤ wr.heap.size ∧ Sl wr (fun b => b < w.heap.size) rv 2 (raw.map encC) ∧ Ow wr w1.heap.size 55 v 2 ((rawMap raw i).map encC) ∧ i ≤ raw.length ∧ i ≤ 60 ∧ (rawMap raw i).length ≤ 60) (fun s_ => match s_ with | (i, v) => raw.length - i) (0, .slice none 0 0) (Sub.cons rfl (Sub.cons rfl (Sub.cons rfl (Sub.cons rfl (Sub.cons rfl (Sub.cons rfl (Sub.cons rfl (Sub.int (b := (0 : Int)) rfl (by omega) Sub.nil)))))))) ⟨K0, (Nat.le_refl _), hrv, (Ow.nil _ _ _ _), (by first | omega | exact rawMap_len (by omega)), (by first | omega | exact rawMap_len (by omega)), (by first | omega | exact rawMap_len (by omega))⟩ ?_
  rintro ⟨i, v⟩ w3 ⟨K0, z4, f5, f6, pr7, pr8, pr9⟩
  show CW _ _ _ _ _ _ [(0, rv), (1, .int .i64 at_), (2, .int .i64 x), (3, .int .i64 y), (8, .bool false), (9, .bool true), (10, v), (11, .int .i64 (i : Int))] _
  refine cw_seq ?_
  refine cw_seq ?_
  refine cw_region ?_
  refine rw_ev (ev_move rfl) rfl rfl rfl ?_
  refine rw_ev (ev_move rfl) rfl rfl rfl ?_
  refine rw_ev (v := .int .i64 (raw.length : Int)) (ev_lenm (l := raw) ⟨_, f5⟩ rfl el_23 rfl) rfl rfl rfl ?_
  refine rw_ev (ev_lss rfl rfl) rfl rfl rfl ?_
  refine rw_ev (ev_move rfl) rfl rfl rfl ?_
  by_cases h10 : (i : Int) < (raw.length : Int)
  ·
   refine rw_ev (ev_move rfl) (gd_tt rfl (dec_t h10)) rfl rfl ?_
   refine rw_ev (ev_lss rfl rfl) (gd_tt rfl (dec_t h10)) rfl rfl ?_
   refine rw_ev (ev_pk_t rfl (dec_t h10) rfl) rfl rfl rfl ?_
   refine rw_nil ?_
   refine nw_seq ?_
   by_cases h11 : (i : Int) < 60
   ·
    refine cw_t (b := decide ((i : Int) < 60)) rfl (dec_t h11) ?_
    refine cw_skip ?_
    refine nw_seq ?_
    refine cw_seq ?_
    refine cw_block ?_
    refine cw_drawn (fun w12 w_ => Kp (fun b_ => (v : Value).ownBlock = some b_) w12 w_) [] (.take 0 (.take 1 (.take 2 (.take 3 (.take 4 (.take 5 (.take 8 (.take 9 (.take 10 (.take 11 (.take 12 (.one 6 (.take 7 (.one 13 (.take 14 (.take 15 (.one 16 (.one 17 (.take 18 .done))))))))))))))))))) mixed (by kernel_rfl) (by kernel_rfl) (Nat.le_of_ble_eq_true (by kernel_rfl)) ?_; intro w12 k13 hs_
    replace K0 := Ex.trans K0 k13
    replace f5 := f5.ex k13
    replace f6 := f6.ex k13
    have zw12 := k13.size
    have hS : (fun w_ => Kp (fun b_ => (v : Value).ownBlock = some b_) w12 w_) w12 := Kp.refl _ _
    have hE : Ex w12 w12 := Kp.refl _ _
    refine rp_take hs_ hS rfl rfl (ev_move rfl) rfl rfl rfl ?_
    refine rp_take hs_ hS rfl rfl (ev_move rfl) rfl rfl rfl ?_
    refine rp_take hs_ hS rfl rfl (ev_move rfl) rfl rfl rfl ?_
    obtain ⟨c14, hc15⟩ := get_of (l := raw) (i := i) (by omega)
    obtain ⟨⟨_, _⟩, ⟨_, _⟩⟩ := hrvr _ (List.mem_of_getElem? hc15)
    refine rp_take (v := elemPtr rv i 2 0) hs_ hS rfl rfl (ev_slAt (i := (i : Int)) ⟨_, (f5.ex hE)⟩ rfl rfl el_23 (idx_ok (i := (i : Int)) hc15 (by omega))) rfl rfl rfl ?_
    refine rp_take (v := elemPtr rv i 2 0) hs_ hS rfl rfl (ev_elArr (i := 0) (m := 2) (q := 1) ⟨_, (f5.ex hE)⟩ (len_enc hc15) rfl rfl arr_45 (by omega)) rfl rfl rfl ?_
    refine rp_take (v := .int .i64 c14.1) hs_ hS rfl rfl (ev_elLoad1 (u := .int .i64 c14.1) (fun _ h => (f5.kp h (fun b h e => Nat.lt_irrefl _ (Nat.lt_of_lt_of_le (show b < _ from h) (Nat.le_trans zw1 (f6.lt b e).1))))) ⟨_, hS⟩ rfl (get_enc hc15) one_3 (by decide) rfl) rfl rfl rfl ?_
    refine rp_take hs_ hS rfl rfl (ev_move rfl) rfl rfl rfl ?_
    refine rp_take hs_ hS rfl rfl (ev_move rfl) rfl rfl rfl ?_
    refine rp_take (v := elemPtr rv i 2 0) hs_ hS rfl rfl (ev_slAt (i := (i : Int)) ⟨_, (f5.ex hE)⟩ rfl rfl el_23 (idx_ok (i := (i : Int)) hc15 (by omega))) rfl rfl rfl ?_
    refine rp_take (v := elemPtr rv i 2 1) hs_ hS rfl rfl (ev_elArr (i := 1) (m := 2) (q := 1) ⟨_, (f5.ex hE)⟩ (len_enc hc15) rfl rfl arr_45 (by omega)) rfl rfl rfl ?_
    refine rp_take (v := .int .i64 c14.2) hs_ hS rfl rfl (ev_elLoad1 (u := .int .i64 c14.2) (fun _ h => (f5.kp h (fun b h e => Nat.lt_irrefl _ (Nat.lt_of_lt_of_le (show b < _ from h) (Nat.le_trans zw1 (f6.lt b e).1))))) ⟨_, hS⟩ rfl (get_enc hc15) one_3 (by decide) rfl) rfl rfl rfl ?_
    refine rp_up (up_op rfl (op_fn (xs := [.tmp 42, .const (.int .i64 16)]) ent_60 rfl (c_pick60 w12 c14.1 (16 : Int) (by omega) (by omega))) rfl rfl rfl ?_)
    rintro _ w16 ⟨rfl, k17, pr18⟩
    replace K0 := Ex.trans K0 k17
    replace hS := Kp.ex hS k17
    replace hE := Ex.trans hE k17
    have zw16 := k17.size
    refine ⟨(fun _ => hS), ?_⟩
    refine rp_take hs_ hS rfl rfl (ev_sub rfl rfl (by omega)) rfl rfl rfl ?_
    refine rp_up (up_op rfl (op_fn (xs := [.tmp 49, .const (.int .i64 16)]) ent_60 rfl (c_pick60 w16 c14.2 (16 : Int) (by omega) (by omega))) rfl rfl rfl ?_)
    rintro _ w19 ⟨rfl, k20, pr21⟩
    replace K0 := Ex.trans K0 k20
    replace hS := Kp.ex hS k20
    replace hE := Ex.trans hE k20
    have zw19 := k20.size
    refine ⟨(fun _ => hS), ?_⟩
    refine rp_take hs_ hS rfl rfl (ev_sub rfl rfl (by omega)) rfl rfl rfl ?_
    refine rp_take (v := .agg #[.int .i64 ((pickI c14.1 (16 : Int)) - 8), .int .i64 ((pickI c14.2 (16 : Int)) - 8)]) hs_ hS rfl rfl (ev_pure rfl rfl (fun _ => by kernel_rfl)) rfl rfl rfl ?_
    refine rp_up (up_op rfl (op_buildSlice (E := 55) (m := 1) (pv := #[(0, .agg #[.int .i64 ((pickI c14.1 (16 : Int)) - 8), .int .i64 ((pickI c14.2 (16 : Int)) - 8)])]) (cs := #[.int .i64 ((pickI c14.1 (16 : Int)) - 8), .int .i64 ((pickI c14.2 (16 : Int)) - 8)]) rfl (fun _ => by kernel_rfl)) rfl rfl rfl ?_)
    rintro _ w23 ⟨g22, rfl, hg24, k25, b26⟩
    have rw27 : ∀ b, (v : Value).ownBlock = some b → b < g22 := fun b h => Nat.lt_of_lt_of_le (f6.lt b h).2 (Nat.le_trans (Nat.le_trans zw16 zw19) hg24)
    replace K0 := Ex.trans K0 k25
    replace hS := Kp.ex hS k25
    replace hE := Ex.trans hE k25
    have zw23 := k25.size
    have lg22 := b26.lt
    refine ⟨(fun _ => hS), ?_⟩
    refine rp_up (up_op rfl (op_app1 (f := encC) (l := (rawMap raw i)) (c := ((pickI c14.1 (16 : Int)) - 8, (pickI c14.2 (16 : Int)) - 8)) (B := w1.heap.size) row_46 plainC (f6.ex hE) b26 rfl rfl rfl (by decide) (by unfold maxLen; (try simp only [List.length_append, List.length_map, List.length_take, List.length_drop, List.length_nil, List.length_cons]); omega) (by (try simp only [List.length_append, List.length_map, List.length_take, List.length_drop, List.length_nil, List.length_cons]); omega) (Nat.le_trans z4 (Nat.le_trans zw12 (Nat.le_trans zw16 (Nat.le_trans zw19 zw23))))) rfl rfl rfl ?_)
    rintro v28 w29 ⟨k30, ow31⟩
    replace K0 := Ex.kp_new K0 k30 (fun b h => Nat.le_trans zw1 (f6.lt b h).1)
    replace hS := Kp.trans hS k30 (fun _ x => x) (fun _ _ x => x)
    replace f5 := f5.kp hS (fun b h e => Nat.lt_irrefl _ (Nat.lt_of_lt_of_le (show b < _ from h) (Nat.le_trans zw1 (f6.lt b e).1)))
    replace b26 := b26.kp k30 (fun h => Nat.lt_irrefl _ (rw27 _ h))
    have zw29 := k30.size
    refine ⟨(fun _ => hS), ?_⟩
    refine rp_take hs_ hS rfl rfl (ev_assign rfl) rfl rfl rfl ?_
    refine rp_done ?_
    clear hs_
    refine nw_block ?_
    refine nw_seq ?_
    refine cw_region ?_
    refine rw_ev (ev_move rfl) rfl rfl rfl ?_
    refine rw_ev (ev_add rfl rfl (by omega)) rfl rfl rfl ?_
    refine rw_ev (ev_assign rfl) rfl rfl rfl ?_
    refine rw_nil ?_
    exact nw_round ((i + 1), v28) (Sub.cons rfl (Sub.cons rfl (Sub.cons rfl (Sub.cons rfl (Sub.cons rfl (Sub.cons rfl (Sub.cons rfl (Sub.int (b := ((i + 1) : Int)) rfl (by omega) Sub.nil)))))))) ⟨K0, (Nat.le_trans z4 (Nat.le_trans zw12 (Nat.le_trans zw16 (Nat.le_trans zw19 (Nat.le_trans zw23 zw29))))), f5, (by have hq := ow31; rw [rawMap_succ (by assumption : raw[i]? = some _)]; exact hq), (by first | omega | exact rawMap_len (by omega)), (by first | omega | exact rawMap_len (by omega)), (by first | omega | exact rawMap_len (by omega))⟩ (by first | omega | (dsimp only; omega))
   ·
    refine cw_f (b := decide ((i : Int) < 60)) rfl (dec_f h11) ?_
    refine cw_exit ?_
    refine xw_seq ?_
    refine xw_goal ?_
    refine xw_hit ?_
    refine nw_seq ?_
    refine cw_seq ?_
    refine cw_region ?_
    refine rw_ev (ev_move rfl) rfl rfl rfl ?_
    refine rw_ev (ev_move rfl) rfl rfl rfl ?_
    refine rw_ev (v := .int .i64 ((rawMap raw i).length : Int)) (ev_lenm (l := (rawMap raw i)) ⟨_, f6.sl⟩ rfl el_46 rfl) rfl rfl rfl ?_
    refine rw_ev (ev_add rfl rfl (by omega)) rfl rfl rfl ?_
    refine rw_op (op_fn (xs := [.tmp 55, .tmp 58]) ent_60 rfl (c_pick60 w3 at_ (((rawMap raw i).length : Int) + 1) (by omega) (by omega))) rfl rfl rfl ?_
    rintro _ w32 ⟨rfl, k33, pr34⟩
    replace K0 := Ex.trans K0 k33
    replace f5 := f5.ex k33
    replace f6 := f6.ex k33
    have zw32 := k33.size
    refine rw_ev (ev_assign rfl) rfl rfl rfl ?_
    refine rw_nil ?_
    refine nw_seq ?_
    refine cw_seq ?_
    refine cw_drawn (fun w35 w_ => Ex w35 w_) [] (.take 0 (.take 1 (.take 2 (.take 4 (.take 6 (.take 7 (.take 8 (.one 3 (.one 5 (.one 9 (.take 10 .done))))))))))) mixed (by kernel_rfl) (by kernel_rfl) (Nat.le_of_ble_eq_true (by kernel_rfl)) ?_; intro w35 k36 hs_
    replace K0 := Ex.trans K0 k36
    replace f5 := f5.ex k36
    replace f6 := f6.ex k36
    have zw35 := k36.size
    have hS : (fun w_ => Ex w35 w_) w35 := Kp.refl _ _
    refine rp_take hs_ hS rfl rfl (ev_move rfl) rfl rfl rfl ?_
    refine rp_take hs_ hS rfl rfl (ev_move rfl) rfl rfl rfl ?_
    have hs37 : 0 ≤ (pickI at_ (((rawMap raw i).length : Int) + 1) : Int) ∧ (pickI at_ (((rawMap raw i).length : Int) + 1) : Int) ≤ ((rawMap raw i).length : Int) ∧ (((rawMap raw i).length : Int) : Int) ≤ ((rawMap raw i).map encC).length := by rw [List.length_map]; omega
    have sl38 := sub_encs (f6.ex hS).sl (lo := (pickI at_ (((rawMap raw i).length : Int) + 1)).toNat) (hi := (rawMap raw i).length) (by omega) (by have := hs37; rw [List.length_map] at this; omega)
    refine rp_take (v := (subSl v ((pickI at_ (((rawMap raw i).length : Int) + 1)).toNat) ((rawMap raw i).length) 2)) hs_ hS rfl rfl (ev_slice (l := pickI at_ (((rawMap raw i).length : Int) + 1)) (h := ((rawMap raw i).length : Int)) ⟨_, (f6.ex hS).sl⟩ rfl el_46 (.inr ⟨_, rfl, rfl⟩) (.inl ⟨rfl, by rw [List.length_map]⟩) hs37) rfl rfl rfl ?_
    refine rp_take hs_ hS rfl rfl (ev_move rfl) rfl rfl rfl ?_
    refine rp_take hs_ hS rfl rfl (ev_move rfl) rfl rfl rfl ?_
    refine rp_take hs_ hS rfl rfl (ev_move rfl) rfl rfl rfl ?_
    have hs39 : 0 ≤ (0 : Int) ∧ (0 : Int) ≤ (pickI at_ (((rawMap raw i).length : Int) + 1)) ∧ (pickI at_ (((rawMap raw i).length : Int) + 1) : Int) ≤ ((rawMap raw i).map encC).length := by rw [List.length_map]; omega
    have sl40 := sub_encs (f6.ex hS).sl (lo := 0) (hi := (pickI at_ (((rawMap raw i).length : Int) + 1)).toNat) (by omega) (by have := hs39; rw [List.length_map] at this; omega)
    refine rp_take (v := (subSl v 0 ((pickI at_ (((rawMap raw i).length : Int) + 1)).toNat) 2)) hs_ hS rfl rfl (ev_slice (l := 0) (h := pickI at_ (((rawMap raw i).length : Int) + 1)) ⟨_, (f6.ex hS).sl⟩ rfl el_46 (.inl ⟨rfl, rfl⟩) (.inr ⟨_, rfl, rfl⟩) hs39) rfl rfl rfl ?_
    refine rp_up (up_op rfl (op_appn (f := encC) (l := []) (r := (((rawMap raw i).take ((rawMap raw i).length)).drop ((pickI at_ (((rawMap raw i).length : Int) + 1)).toNat))) (B := w35.heap.size) row_46 plainC (Ow.nil _ w35.heap.size 55 2) sl38 rfl rfl (by unfold maxLen; (try simp only [List.length_append, List.length_map, List.length_take, List.length_drop, List.length_nil, List.length_cons]); omega) (by (try simp only [List.length_append, List.length_map, List.length_take, List.length_drop, List.length_nil, List.length_cons]); omega) (Nat.le_refl _)) rfl rfl rfl ?_)
    rintro v41 w42 ⟨k43, ow44⟩
    replace k43 : Ex w35 w42 := Kp.mono k43 (fun _ _ h => by simp [Value.ownBlock] at h)
    replace K0 := Ex.trans K0 k43
    replace hS := Ex.trans hS k43
    replace sl38 := sl38.ex k43
    replace sl40 := sl40.ex k43
    have zw42 := k43.size
    refine ⟨(fun _ => hS), ?_⟩
    refine rp_up (up_op rfl (op_appn (f := encC) (l := ([] ++ (((rawMap raw i).take ((rawMap raw i).length)).drop ((pickI at_ (((rawMap raw i).length : Int) + 1)).toNat)))) (r := (rawMap raw i)) (B := w35.heap.size) row_46 plainC ow44 (f6.ex hS).sl rfl rfl (by unfold maxLen; (try simp only [List.length_append, List.length_map, List.length_take, List.length_drop, List.length_nil, List.length_cons]); omega) (by (try simp only [List.length_append, List.length_map, List.length_take, List.length_drop, List.length_nil, List.length_cons]); omega) zw42) rfl rfl rfl ?_)
    rintro v45 w46 ⟨k47, ow48⟩
    replace K0 := Ex.kp_new K0 k47 (fun b h => Nat.le_trans (Nat.le_trans zw1 (Nat.le_trans z4 (Nat.le_trans zw32 zw35))) (ow44.lt b h).1)
    replace hS := Ex.kp_new hS k47 (fun b h => Nat.le_trans (Nat.le_refl _) (ow44.lt b h).1)
    replace sl38 := sl38.kp k47 (fun b h e => Nat.lt_irrefl _ (Nat.lt_of_lt_of_le (show b < _ from h.2) (Nat.le_trans (Nat.le_refl _) (ow44.lt b e).1)))
    replace sl40 := sl40.kp k47 (fun b h e => Nat.lt_irrefl _ (Nat.lt_of_lt_of_le (show b < _ from h.2) (Nat.le_trans (Nat.le_refl _) (ow44.lt b e).1)))
    have zw46 := k47.size
    refine ⟨(fun _ => hS), ?_⟩
    refine rp_up (up_op rfl (op_appn (f := encC) (l := (([] ++ (((rawMap raw i).take ((rawMap raw i).length)).drop ((pickI at_ (((rawMap raw i).length : Int) + 1)).toNat))) ++ (rawMap raw i))) (r := (((rawMap raw i).take ((pickI at_ (((rawMap raw i).length : Int) + 1)).toNat)).drop 0)) (B := w35.heap.size) row_46 plainC ow48 sl40 rfl rfl (by unfold maxLen; (try simp only [List.length_append, List.length_map, List.length_take, List.length_drop, List.length_nil, List.length_cons]); omega) (by (try simp only [List.length_append, List.length_map, List.length_take, List.length_drop, List.length_nil, List.length_cons]); omega) (Nat.le_trans zw42 zw46)) rfl rfl rfl ?_)
    rintro v49 w50 ⟨k51, ow52⟩
    replace K0 := Ex.kp_new K0 k51 (fun b h => Nat.le_trans (Nat.le_trans zw1 (Nat.le_trans z4 (Nat.le_trans zw32 zw35))) (ow48.lt b h).1)
    replace hS := Ex.kp_new hS k51 (fun b h => Nat.le_trans (Nat.le_refl _) (ow48.lt b h).1)
    replace sl38 := sl38.kp k51 (fun b h e => Nat.lt_irrefl _ (Nat.lt_of_lt_of_le (show b < _ from h.2) (Nat.le_trans (Nat.le_refl _) (ow48.lt b e).1)))
    replace sl40 := sl40.kp k51 (fun b h e => Nat.lt_irrefl _ (Nat.lt_of_lt_of_le (show b < _ from h.2) (Nat.le_trans (Nat.le_refl _) (ow48.lt b e).1)))
    have zw50 := k51.size
    refine ⟨(fun _ => hS), ?_⟩
    refine rp_take hs_ hS rfl rfl (ev_assign rfl) rfl rfl rfl ?_
    refine rp_done ?_
    clear hs_
    replace f5 := f5.ex hS
    replace f6 := f6.ex hS
    refine nw_seq ?_
    refine cw_seq ?_
    refine cw_region ?_
    refine rw_ev (ev_move rfl) rfl rfl rfl ?_
    refine rw_op (op_fn (xs := [.tmp 71]) ent_57 rfl (c_cof w50 v (rawMap raw i) (Sl.below f6.sl) (by (try simp only [List.length_append, List.length_map, List.length_take, List.length_drop, List.length_nil]); omega))) rfl rfl rfl ?_
    rintro _ w54 ⟨u53, rfl, k55, sl56⟩
    replace K0 := Ex.trans K0 k55
    replace f5 := f5.ex k55
    replace f6 := f6.ex k55
    replace sl38 := sl38.ex k55
    replace sl40 := sl40.ex k55
    replace ow52 := ow52.ex k55
    have zw54 := k55.size
    refine rw_ev (ev_move rfl) rfl rfl rfl ?_
    refine rw_ev (ev_extract rfl rfl) rfl rfl rfl ?_
    refine rw_ev (ev_extract rfl rfl) rfl rfl rfl ?_
    refine rw_ev (ev_assign rfl) rfl rfl rfl ?_
    refine rw_ev (ev_assign rfl) rfl rfl rfl ?_
    refine rw_nil ?_
    refine nw_seq ?_
    refine cw_seq ?_
    refine cw_region ?_
    refine rw_ev (ev_move rfl) rfl rfl rfl ?_
    refine rw_op (op_fn (xs := [.tmp 76]) ent_57 rfl (c_cof w54 v49 ((([] ++ (((rawMap raw i).take ((rawMap raw i).length)).drop ((pickI at_ (((rawMap raw i).length : Int) + 1)).toNat))) ++ (rawMap raw i)) ++ (((rawMap raw i).take ((pickI at_ (((rawMap raw i).length : Int) + 1)).toNat)).drop 0)) (Sl.below ow52.sl) (by (try simp only [List.length_append, List.length_map, List.length_take, List.length_drop, List.length_nil]); omega))) rfl rfl rfl ?_
    rintro _ w58 ⟨u57, rfl, k59, sl60⟩
    replace K0 := Ex.trans K0 k59
    replace f5 := f5.ex k59
    replace f6 := f6.ex k59
    replace sl38 := sl38.ex k59
    replace sl40 := sl40.ex k59
    replace ow52 := ow52.ex k59
    replace sl56 := sl56.ex k59
    have zw58 := k59.size
    refine rw_ev (ev_move rfl) rfl rfl rfl ?_
    refine rw_ev (ev_extract (vs := #[u57, .int .i64 ((ofC ((([] ++ (((rawMap raw i).take ((rawMap raw i).length)).drop ((pickI at_ (((rawMap raw i).length : Int) + 1)).toNat))) ++ (rawMap raw i)) ++ (((rawMap raw i).take ((pickI at_ (((rawMap raw i).length : Int) + 1)).toNat)).drop 0))).2)]) rfl rfl) rfl rfl rfl ?_
    refine rw_ev (ev_extract (vs := #[u57, .int .i64 ((ofC ((([] ++ (((rawMap raw i).take ((rawMap raw i).length)).drop ((pickI at_ (((rawMap raw i).length : Int) + 1)).toNat))) ++ (rawMap raw i)) ++ (((rawMap raw i).take ((pickI at_ (((rawMap raw i).length : Int) + 1)).toNat)).drop 0))).2)]) rfl rfl) rfl rfl rfl ?_
    refine rw_ev (ev_assign rfl) rfl rfl rfl ?_
    refine rw_ev (ev_assign rfl) rfl rfl rfl ?_
    refine rw_nil ?_
    refine nw_seq ?_
    refine cw_seq ?_
    refine cw_region ?_
    refine rw_ev (ev_move rfl) rfl rfl rfl ?_
    refine rw_op (op_fn (xs := [.tmp 80, .const (.int .i64 16)]) ent_60 rfl (c_pick60 w58 x (16 : Int) (by omega) (by omega))) rfl rfl rfl ?_
    rintro _ w61 ⟨rfl, k62, pr63⟩
    replace K0 := Ex.trans K0 k62
    replace f5 := f5.ex k62
    replace f6 := f6.ex k62
    replace sl38 := sl38.ex k62
    replace sl40 := sl40.ex k62
    replace ow52 := ow52.ex k62
    replace sl56 := sl56.ex k62
    replace sl60 := sl60.ex k62
    have zw61 := k62.size
    refine rw_ev (ev_sub rfl rfl (by omega)) rfl rfl rfl ?_
    refine rw_ev (ev_move rfl) rfl rfl rfl ?_
    refine rw_op (op_fn (xs := [.tmp 83, .const (.int .i64 16)]) ent_60 rfl (c_pick60 w61 y (16 : Int) (by omega) (by omega))) rfl rfl rfl ?_
    rintro _ w64 ⟨rfl, k65, pr66⟩
    replace K0 := Ex.trans K0 k65
    replace f5 := f5.ex k65
    replace f6 := f6.ex k65
    replace sl38 := sl38.ex k65
    replace sl40 := sl40.ex k65
    replace ow52 := ow52.ex k65
    replace sl56 := sl56.ex k65
    replace sl60 := sl60.ex k65
    have zw64 := k65.size
    refine rw_ev (ev_sub rfl rfl (by omega)) rfl rfl rfl ?_
    refine rw_ev (v := .agg #[.int .i64 ((pickI x (16 : Int)) - 8), .int .i64 ((pickI y (16 : Int)) - 8)]) (ev_pure rfl rfl (fun _ => by kernel_rfl)) rfl rfl rfl ?_
    refine rw_op (op_alloc zero_55) rfl rfl rfl ?_
    rintro _ w68 ⟨g67, rfl, hg69, k70, b71⟩
    have rw72 : ∀ b, (v : Value).ownBlock = some b → b < g67 := fun b h => Nat.lt_of_lt_of_le (f6.lt b h).2 hg69
    have rw73 : ∀ b, (v49 : Value).ownBlock = some b → b < g67 := fun b h => Nat.lt_of_lt_of_le (ow52.lt b h).2 hg69
    replace K0 := Ex.trans K0 k70
    replace f5 := f5.ex k70
    replace f6 := f6.ex k70
    replace sl38 := sl38.ex k70
    replace sl40 := sl40.ex k70
    replace ow52 := ow52.ex k70
    replace sl56 := sl56.ex k70
    replace sl60 := sl60.ex k70
    have zw68 := k70.size
    have lg67 := b71.lt
    refine rw_none (op_store (off := 0) (v := .agg #[.int .i64 ((pickI x (16 : Int)) - 8), .int .i64 ((pickI y (16 : Int)) - 8)]) (cs' := #[.int .i64 ((pickI x (16 : Int)) - 8), .int .i64 ((pickI y (16 : Int)) - 8)]) b71 rfl rfl size_55 rfl (Nat.le_of_ble_eq_true rfl) (one_cons rfl (one_cons rfl one_nil)) rfl) rfl rfl ?_
    rintro _ w74 ⟨k75, b76⟩
    replace K0 := Ex.kp_new K0 k75 (fun _ h => h ▸ Nat.le_trans (Nat.le_trans zw1 (Nat.le_trans z4 (Nat.le_trans zw32 (Nat.le_trans zw35 (Nat.le_trans zw42 (Nat.le_trans zw46 (Nat.le_trans zw50 (Nat.le_trans zw54 (Nat.le_trans zw58 (Nat.le_trans zw61 zw64)))))))))) hg69)
    replace f5 := f5.kp k75 (fun b h e => Nat.lt_irrefl _ (Nat.lt_of_lt_of_le (show g67 < _ from e ▸ (show b < _ from h)) (Nat.le_trans (Nat.le_trans zw1 (Nat.le_trans z4 (Nat.le_trans zw32 (Nat.le_trans zw35 (Nat.le_trans zw42 (Nat.le_trans zw46 (Nat.le_trans zw50 (Nat.le_trans zw54 (Nat.le_trans zw58 (Nat.le_trans zw61 zw64)))))))))) hg69)))
    replace f6 := f6.kp k75 (fun b h e => Nat.lt_irrefl _ (show b < b from by have := rw72 b h; omega))
    replace sl38 := sl38.kp k75 (fun b h e => Nat.lt_irrefl _ (Nat.lt_of_lt_of_le (show g67 < _ from e ▸ (show b < _ from h.2)) (Nat.le_trans (Nat.le_trans zw42 (Nat.le_trans zw46 (Nat.le_trans zw50 (Nat.le_trans zw54 (Nat.le_trans zw58 (Nat.le_trans zw61 zw64)))))) hg69)))
    replace sl40 := sl40.kp k75 (fun b h e => Nat.lt_irrefl _ (Nat.lt_of_lt_of_le (show g67 < _ from e ▸ (show b < _ from h.2)) (Nat.le_trans (Nat.le_trans zw42 (Nat.le_trans zw46 (Nat.le_trans zw50 (Nat.le_trans zw54 (Nat.le_trans zw58 (Nat.le_trans zw61 zw64)))))) hg69)))
    replace ow52 := ow52.kp k75 (fun b h e => Nat.lt_irrefl _ (show b < b from by have := rw73 b h; omega))
    replace sl56 := sl56.kp k75 (fun b h e => Nat.lt_irrefl _ (Nat.lt_of_lt_of_le (show g67 < _ from e ▸ (show b < _ from h.2)) (Nat.le_trans (Nat.le_trans zw58 (Nat.le_trans zw61 zw64)) hg69)))
    replace sl60 := sl60.kp k75 (fun b h e => Nat.lt_irrefl _ (Nat.lt_of_lt_of_le (show g67 < _ from e ▸ (show b < _ from h.2)) (Nat.le_trans (Nat.le_trans zw61 zw64) hg69)))
    have zw74 := k75.size
    refine rw_nil ?_
    refine nw_seq ?_
    refine cw_seq ?_
    refine cw_region ?_
    refine rw_ev (ev_move rfl) rfl rfl rfl ?_
    refine rw_ev (v := .agg #[.int .i64 ((pickI x (16 : Int)) - 8), .int .i64 ((pickI y (16 : Int)) - 8)]) (ev_lbk (off := 0) (vs := [.int .i64 ((pickI x (16 : Int)) - 8), .int .i64 ((pickI y (16 : Int)) - 8)]) (fun _ h => h ▸ b76) rfl agg_55 rfl rfl) rfl rfl rfl ?_
    refine rw_op (op_fn (xs := [.tmp 88, .tmp 89, .const (.bool true)]) ent_61 rfl (c_cwith w74 u53 ((ofC (rawMap raw i)).1) (Sl.below sl56) ((pickI x (16 : Int)) - 8, (pickI y (16 : Int)) - 8) true)) rfl rfl rfl ?_
    rintro _ w78 ⟨u77, rfl, k79, sl80⟩
    replace K0 := Ex.trans K0 k79
    replace f5 := f5.ex k79
    replace f6 := f6.ex k79
    replace sl38 := sl38.ex k79
    replace sl40 := sl40.ex k79
    replace ow52 := ow52.ex k79
    replace sl56 := sl56.ex k79
    replace sl60 := sl60.ex k79
    replace b76 := b76.ex k79
    have zw78 := k79.size
    refine rw_ev (ev_move rfl) rfl rfl rfl ?_
    refine rw_ev (ev_extract (vs := #[u77, .int .i64 ((withC ((ofC (rawMap raw i)).1) ((pickI x (16 : Int)) - 8, (pickI y (16 : Int)) - 8) true).2)]) rfl rfl) rfl rfl rfl ?_
    refine rw_ev (ev_extract (vs := #[u77, .int .i64 ((withC ((ofC (rawMap raw i)).1) ((pickI x (16 : Int)) - 8, (pickI y (16 : Int)) - 8) true).2)]) rfl rfl) rfl rfl rfl ?_
    refine rw_ev (ev_assign rfl) rfl rfl rfl ?_
    refine rw_ev (ev_assign rfl) rfl rfl rfl ?_
    refine rw_nil ?_
    refine nw_seq ?_
    refine cw_seq ?_
    refine cw_region ?_
    refine rw_ev (ev_move rfl) rfl rfl rfl ?_
    refine rw_ev (v := .agg #[.int .i64 ((pickI x (16 : Int)) - 8), .int .i64 ((pickI y (16 : Int)) - 8)]) (ev_lbk (off := 0) (vs := [.int .i64 ((pickI x (16 : Int)) - 8), .int .i64 ((pickI y (16 : Int)) - 8)]) (fun _ h => h ▸ b76) rfl agg_55 rfl rfl) rfl rfl rfl ?_
    refine rw_op (op_fn (xs := [.tmp 94, .tmp 95, .const (.bool false)]) ent_61 rfl (c_cwith w78 u77 ((withC ((ofC (rawMap raw i)).1) ((pickI x (16 : Int)) - 8, (pickI y (16 : Int)) - 8) true).1) (Sl.below sl80) ((pickI x (16 : Int)) - 8, (pickI y (16 : Int)) - 8) false)) rfl rfl rfl ?_
    rintro _ w82 ⟨u81, rfl, k83, sl84⟩
    replace K0 := Ex.trans K0 k83
    replace f5 := f5.ex k83
    replace f6 := f6.ex k83
    replace sl38 := sl38.ex k83
    replace sl40 := sl40.ex k83
    replace ow52 := ow52.ex k83
    replace sl56 := sl56.ex k83
    replace sl60 := sl60.ex k83
    replace b76 := b76.ex k83
    replace sl80 := sl80.ex k83
    have zw82 := k83.size
    refine rw_ev (ev_move rfl) rfl rfl rfl ?_
    refine rw_ev (ev_extract (vs := #[u81, .int .i64 ((withC ((withC ((ofC (rawMap raw i)).1) ((pickI x (16 : Int)) - 8, (pickI y (16 : Int)) - 8) true).1) ((pickI x (16 : Int)) - 8, (pickI y (16 : Int)) - 8) false).2)]) rfl rfl) rfl rfl rfl ?_
    refine rw_ev (ev_extract (vs := #[u81, .int .i64 ((withC ((withC ((ofC (rawMap raw i)).1) ((pickI x (16 : Int)) - 8, (pickI y (16 : Int)) - 8) true).1) ((pickI x (16 : Int)) - 8, (pickI y (16 : Int)) - 8) false).2)]) rfl rfl) rfl rfl rfl ?_
    refine rw_ev (ev_assign rfl) rfl rfl rfl ?_
    refine rw_ev (ev_assign rfl) rfl rfl rfl ?_
    refine rw_nil ?_
    refine nw_seq ?_
    refine cw_seq ?_
    refine cw_region ?_
    refine rw_ev (ev_move rfl) rfl rfl rfl ?_
    refine rw_ev (v := .agg #[.int .i64 ((pickI x (16 : Int)) - 8), .int .i64 ((pickI y (16 : Int)) - 8)]) (ev_lbk (off := 0) (vs := [.int .i64 ((pickI x (16 : Int)) - 8), .int .i64 ((pickI y (16 : Int)) - 8)]) (fun _ h => h ▸ b76) rfl agg_55 rfl rfl) rfl rfl rfl ?_
    refine rw_op (op_fn (xs := [.tmp 100, .tmp 101, .const (.bool false)]) ent_61 rfl (c_cwith w82 u53 ((ofC (rawMap raw i)).1) (Sl.below sl56) ((pickI x (16 : Int)) - 8, (pickI y (16 : Int)) - 8) false)) rfl rfl rfl ?_
    rintro _ w86 ⟨u85, rfl, k87, sl88⟩
    replace K0 := Ex.trans K0 k87
    replace f5 := f5.ex k87
    replace f6 := f6.ex k87
    replace sl38 := sl38.ex k87
    replace sl40 := sl40.ex k87
    replace ow52 := ow52.ex k87
    replace sl56 := sl56.ex k87
    replace sl60 := sl60.ex k87
    replace b76 := b76.ex k87
    replace sl80 := sl80.ex k87
    replace sl84 := sl84.ex k87
    have zw86 := k87.size
    refine rw_ev (ev_move rfl) rfl rfl rfl ?_
    refine rw_ev (ev_extract (vs := #[u85, .int .i64 ((withC ((ofC (rawMap raw i)).1) ((pickI x (16 : Int)) - 8, (pickI y (16 : Int)) - 8) false).2)]) rfl rfl) rfl rfl rfl ?_
    refine rw_ev (ev_extract (vs := #[u85, .int .i64 ((withC ((ofC (rawMap raw i)).1) ((pickI x (16 : Int)) - 8, (pickI y (16 : Int)) - 8) false).2)]) rfl rfl) rfl rfl rfl ?_
    refine rw_ev (ev_assign rfl) rfl rfl rfl ?_
    refine rw_ev (ev_assign rfl) rfl rfl rfl ?_
    refine rw_nil ?_
    refine nw_seq ?_
    refine cw_seq ?_
    refine cw_seq ?_
    refine cw_region ?_
    refine rw_ev (ev_move rfl) rfl rfl rfl ?_
    refine rw_ev (ev_ne rfl rfl) rfl rfl rfl ?_
    refine rw_ev (ev_move rfl) rfl rfl rfl ?_
    obtain ⟨⟨hE1_, hE2_, hE3_, hE4_, hE5_⟩, ⟨hR1_, hR2_, hR3_⟩, hH_, hF1_, hF2_, hF3_⟩ := sets_law (l := (rawMap raw i)) (t := ((([] ++ (((rawMap raw i).take ((rawMap raw i).length)).drop ((pickI at_ (((rawMap raw i).length : Int) + 1)).toNat))) ++ (rawMap raw i)) ++ (((rawMap raw i).take ((pickI at_ (((rawMap raw i).length : Int) + 1)).toNat)).drop 0))) (c := (pickI x 16 - 8, pickI y 16 - 8))
      rawMap_in (by assumption) (rawSet_in (x, y)) (turned_mem _ _ _)
      (by simp only [List.length_append, List.length_map, List.length_take, List.length_drop, List.length_nil]; omega)
    have hO_ : (ofC (rawMap raw i)).1.length ≤ 60 := by rw [hE1_]; exact Nat.le_trans (toSet_len _) (by assumption)
    refine rw_ev (ev_move rfl) (gd_ff rfl (dec_f (by exact fun h_ => h_ (by simp only [hE1_, hE2_, hE3_, hE4_, hE5_])))) rfl rfl ?_
    refine rw_ev (ev_ne (p := (ofC ((([] ++ (((rawMap raw i).take ((rawMap raw i).length)).drop ((pickI at_ (((rawMap raw i).length : Int) + 1)).toNat))) ++ (rawMap raw i)) ++ (((rawMap raw i).take ((pickI at_ (((rawMap raw i).length : Int) + 1)).toNat)).drop 0))).2) (q := 0) rfl rfl) (gd_ff rfl (dec_f (by exact fun h_ => h_ (by simp only [hE1_, hE2_, hE3_, hE4_, hE5_])))) rfl rfl ?_
    refine rw_ev (ev_pk_f rfl (dec_f (by exact fun h_ => h_ (by simp only [hE1_, hE2_, hE3_, hE4_, hE5_]))) rfl) rfl rfl rfl ?_
    refine rw_ev (ev_move rfl) rfl rfl rfl ?_
    refine rw_ev (ev_move rfl) (gd_ff rfl (dec_f (by exact fun h_ => h_ (by simp only [hE1_, hE2_, hE3_, hE4_, hE5_])))) rfl rfl ?_
    refine rw_ev (ev_ne rfl rfl) (gd_ff rfl (dec_f (by exact fun h_ => h_ (by simp only [hE1_, hE2_, hE3_, hE4_, hE5_])))) rfl rfl ?_
    refine rw_ev (ev_pk_f (b := decide (((ofC ((([] ++ (((rawMap raw i).take ((rawMap raw i).length)).drop ((pickI at_ (((rawMap raw i).length : Int) + 1)).toNat))) ++ (rawMap raw i)) ++ (((rawMap raw i).take ((pickI at_ (((rawMap raw i).length : Int) + 1)).toNat)).drop 0))).2) ≠ 0)) rfl (dec_f (by exact fun h_ => h_ (by simp only [hE1_, hE2_, hE3_, hE4_, hE5_]))) rfl) rfl rfl rfl ?_
    refine rw_ev (ev_move rfl) rfl rfl rfl ?_
    refine rw_ev (ev_move rfl) (gd_ff rfl (dec_f (by exact fun h_ => h_ (by simp only [hE1_, hE2_, hE3_, hE4_, hE5_])))) rfl rfl ?_
    refine rw_ev (ev_ne (p := (withC ((withC ((ofC (rawMap raw i)).1) ((pickI x (16 : Int)) - 8, (pickI y (16 : Int)) - 8) true).1) ((pickI x (16 : Int)) - 8, (pickI y (16 : Int)) - 8) false).2) (q := 0) rfl rfl) (gd_ff rfl (dec_f (by exact fun h_ => h_ (by simp only [hE1_, hE2_, hE3_, hE4_, hE5_])))) rfl rfl ?_
    refine rw_ev (ev_pk_f (b := decide (((withC ((ofC (rawMap raw i)).1) ((pickI x (16 : Int)) - 8, (pickI y (16 : Int)) - 8) true).2) ≠ 0)) rfl (dec_f (by exact fun h_ => h_ (by simp only [hE1_, hE2_, hE3_, hE4_, hE5_]))) rfl) rfl rfl rfl ?_
    refine rw_ev (ev_move rfl) rfl rfl rfl ?_
    refine rw_ev (ev_move rfl) (gd_ff rfl (dec_f (by exact fun h_ => h_ (by simp only [hE1_, hE2_, hE3_, hE4_, hE5_])))) rfl rfl ?_
    refine rw_ev (ev_ne rfl rfl) (gd_ff rfl (dec_f (by exact fun h_ => h_ (by simp only [hE1_, hE2_, hE3_, hE4_, hE5_])))) rfl rfl ?_
    refine rw_ev (ev_pk_f (b := decide (((withC ((withC ((ofC (rawMap raw i)).1) ((pickI x (16 : Int)) - 8, (pickI y (16 : Int)) - 8) true).1) ((pickI x (16 : Int)) - 8, (pickI y (16 : Int)) - 8) false).2) ≠ 0)) rfl (dec_f (by exact fun h_ => h_ (by simp only [hE1_, hE2_, hE3_, hE4_, hE5_]))) rfl) rfl rfl rfl ?_
    refine rw_ev (ev_move rfl) rfl rfl rfl ?_
    refine rw_ev (ev_move rfl) (gd_ff rfl (dec_f (by exact fun h_ => h_ (by simp only [hE1_, hE2_, hE3_, hE4_, hE5_])))) rfl rfl ?_
    refine rw_ev (ev_move rfl) (gd_ff rfl (dec_f (by exact fun h_ => h_ (by simp only [hE1_, hE2_, hE3_, hE4_, hE5_])))) rfl rfl ?_
    refine rw_op (op_fn (xs := [.tmp 124, .tmp 125]) ent_37 rfl (c_same w86 u53 ((ofC (rawMap raw i)).1) (Sl.below sl56) u57 ((ofC ((([] ++ (((rawMap raw i).take ((rawMap raw i).length)).drop ((pickI at_ (((rawMap raw i).length : Int) + 1)).toNat))) ++ (rawMap raw i)) ++ (((rawMap raw i).take ((pickI at_ (((rawMap raw i).length : Int) + 1)).toNat)).drop 0))).1) (Sl.below sl60))) (gd_ff rfl (dec_f (by exact fun h_ => h_ (by simp only [hE1_, hE2_, hE3_, hE4_, hE5_])))) rfl rfl ?_
    rintro _ w89 ⟨rfl, k90⟩
    replace K0 := Ex.trans K0 k90
    replace f5 := f5.ex k90
    replace f6 := f6.ex k90
    replace sl38 := sl38.ex k90
    replace sl40 := sl40.ex k90
    replace ow52 := ow52.ex k90
    replace sl56 := sl56.ex k90
    replace sl60 := sl60.ex k90
    replace b76 := b76.ex k90
    replace sl80 := sl80.ex k90
    replace sl84 := sl84.ex k90
    replace sl88 := sl88.ex k90
    have zw89 := k90.size
    refine rw_ev (ev_not (b := sameC ((ofC (rawMap raw i)).1) ((ofC ((([] ++ (((rawMap raw i).take ((rawMap raw i).length)).drop ((pickI at_ (((rawMap raw i).length : Int) + 1)).toNat))) ++ (rawMap raw i)) ++ (((rawMap raw i).take ((pickI at_ (((rawMap raw i).length : Int) + 1)).toNat)).drop 0))).1)) rfl rfl) (gd_ff rfl (dec_f (by exact fun h_ => h_ (by simp only [hE1_, hE2_, hE3_, hE4_, hE5_])))) rfl rfl ?_
    refine rw_ev (ev_pk_f (b := decide (((withC ((ofC (rawMap raw i)).1) ((pickI x (16 : Int)) - 8, (pickI y (16 : Int)) - 8) false).2) ≠ 0)) rfl (dec_f (by exact fun h_ => h_ (by simp only [hE1_, hE2_, hE3_, hE4_, hE5_]))) rfl) rfl rfl rfl ?_
    refine rw_ev (ev_move rfl) rfl rfl rfl ?_
    refine rw_ev (ev_move rfl) (gd_ff rfl (not_f (by simp only [hE1_, hE2_, hE3_, hE4_, hE5_]; exact same_self _))) rfl rfl ?_
    refine rw_ev (ev_move rfl) (gd_ff rfl (not_f (by simp only [hE1_, hE2_, hE3_, hE4_, hE5_]; exact same_self _))) rfl rfl ?_
    refine rw_op (op_fn (xs := [.tmp 130, .tmp 131]) ent_37 rfl (c_same w89 u81 ((withC ((withC ((ofC (rawMap raw i)).1) ((pickI x (16 : Int)) - 8, (pickI y (16 : Int)) - 8) true).1) ((pickI x (16 : Int)) - 8, (pickI y (16 : Int)) - 8) false).1) (Sl.below sl84) u85 ((withC ((ofC (rawMap raw i)).1) ((pickI x (16 : Int)) - 8, (pickI y (16 : Int)) - 8) false).1) (Sl.below sl88))) (gd_ff rfl (not_f (by simp only [hE1_, hE2_, hE3_, hE4_, hE5_]; exact same_self _))) rfl rfl ?_
    rintro _ w91 ⟨rfl, k92⟩
    replace K0 := Ex.trans K0 k92
    replace f5 := f5.ex k92
    replace f6 := f6.ex k92
    replace sl38 := sl38.ex k92
    replace sl40 := sl40.ex k92
    replace ow52 := ow52.ex k92
    replace sl56 := sl56.ex k92
    replace sl60 := sl60.ex k92
    replace b76 := b76.ex k92
    replace sl80 := sl80.ex k92
    replace sl84 := sl84.ex k92
    replace sl88 := sl88.ex k92
    have zw91 := k92.size
    refine rw_ev (ev_not (b := sameC ((withC ((withC ((ofC (rawMap raw i)).1) ((pickI x (16 : Int)) - 8, (pickI y (16 : Int)) - 8) true).1) ((pickI x (16 : Int)) - 8, (pickI y (16 : Int)) - 8) false).1) ((withC ((ofC (rawMap raw i)).1) ((pickI x (16 : Int)) - 8, (pickI y (16 : Int)) - 8) false).1)) rfl rfl) (gd_ff rfl (not_f (by simp only [hE1_, hE2_, hE3_, hE4_, hE5_]; exact same_self _))) rfl rfl ?_
    refine rw_ev (ev_pk_f (b := !(sameC ((ofC (rawMap raw i)).1) ((ofC ((([] ++ (((rawMap raw i).take ((rawMap raw i).length)).drop ((pickI at_ (((rawMap raw i).length : Int) + 1)).toNat))) ++ (rawMap raw i)) ++ (((rawMap raw i).take ((pickI at_ (((rawMap raw i).length : Int) + 1)).toNat)).drop 0))).1))) rfl (not_f (by simp only [hE1_, hE2_, hE3_, hE4_, hE5_]; exact same_self _)) rfl) rfl rfl rfl ?_
    refine rw_ev (ev_move rfl) rfl rfl rfl ?_
    refine rw_ev (ev_move rfl) (gd_ff rfl (not_f (by simp only [hE1_, hE2_, hE3_, hE4_, hE5_]; exact same_self _))) rfl rfl ?_
    refine rw_op (op_fn (xs := [.tmp 136]) ent_58 rfl (c_cright w91 u53 ((ofC (rawMap raw i)).1) (Sl.below sl56))) (gd_ff rfl (not_f (by simp only [hE1_, hE2_, hE3_, hE4_, hE5_]; exact same_self _))) rfl rfl ?_
    rintro _ w93 ⟨rfl, k94⟩
    replace K0 := Ex.trans K0 k94
    replace f5 := f5.ex k94
    replace f6 := f6.ex k94
    replace sl38 := sl38.ex k94
    replace sl40 := sl40.ex k94
    replace ow52 := ow52.ex k94
    replace sl56 := sl56.ex k94
    replace sl60 := sl60.ex k94
    replace b76 := b76.ex k94
    replace sl80 := sl80.ex k94
    replace sl84 := sl84.ex k94
    replace sl88 := sl88.ex k94
    have zw93 := k94.size
    refine rw_ev (ev_not rfl rfl) (gd_ff rfl (not_f (by simp only [hE1_, hE2_, hE3_, hE4_, hE5_]; exact same_self _))) rfl rfl ?_
    refine rw_ev (ev_pk_f (b := !(sameC ((withC ((withC ((ofC (rawMap raw i)).1) ((pickI x (16 : Int)) - 8, (pickI y (16 : Int)) - 8) true).1) ((pickI x (16 : Int)) - 8, (pickI y (16 : Int)) - 8) false).1) ((withC ((ofC (rawMap raw i)).1) ((pickI x (16 : Int)) - 8, (pickI y (16 : Int)) - 8) false).1))) rfl (not_f (by simp only [hE1_, hE2_, hE3_, hE4_, hE5_]; exact same_self _)) rfl) rfl rfl rfl ?_
    refine rw_ev (ev_move rfl) rfl rfl rfl ?_
    refine rw_ev (ev_move rfl) (gd_ff rfl (not_f (by simp only [hE1_, hE2_, hE3_, hE4_, hE5_]; first | exact hR1_ | exact hR2_ | exact hR3_))) rfl rfl ?_
    refine rw_op (op_fn (xs := [.tmp 141]) ent_58 rfl (c_cright w93 u77 ((withC ((ofC (rawMap raw i)).1) ((pickI x (16 : Int)) - 8, (pickI y (16 : Int)) - 8) true).1) (Sl.below sl80))) (gd_ff rfl (not_f (by simp only [hE1_, hE2_, hE3_, hE4_, hE5_]; first | exact hR1_ | exact hR2_ | exact hR3_))) rfl rfl ?_
    rintro _ w95 ⟨rfl, k96⟩
    replace K0 := Ex.trans K0 k96
    replace f5 := f5.ex k96
    replace f6 := f6.ex k96
    replace sl38 := sl38.ex k96
    replace sl40 := sl40.ex k96
    replace ow52 := ow52.ex k96
    replace sl56 := sl56.ex k96
    replace sl60 := sl60.ex k96
    replace b76 := b76.ex k96
    replace sl80 := sl80.ex k96
    replace sl84 := sl84.ex k96
    replace sl88 := sl88.ex k96
    have zw95 := k96.size
    refine rw_ev (ev_not (b := rightC ((withC ((ofC (rawMap raw i)).1) ((pickI x (16 : Int)) - 8, (pickI y (16 : Int)) - 8) true).1)) rfl rfl) (gd_ff rfl (not_f (by simp only [hE1_, hE2_, hE3_, hE4_, hE5_]; first | exact hR1_ | exact hR2_ | exact hR3_))) rfl rfl ?_
    refine rw_ev (ev_pk_f rfl (not_f (by simp only [hE1_, hE2_, hE3_, hE4_, hE5_]; first | exact hR1_ | exact hR2_ | exact hR3_)) rfl) rfl rfl rfl ?_
    refine rw_ev (ev_move rfl) rfl rfl rfl ?_
    refine rw_ev (ev_move rfl) (gd_ff rfl (not_f (by simp only [hE1_, hE2_, hE3_, hE4_, hE5_]; first | exact hR1_ | exact hR2_ | exact hR3_))) rfl rfl ?_
    refine rw_op (op_fn (xs := [.tmp 146]) ent_58 rfl (c_cright w95 u85 ((withC ((ofC (rawMap raw i)).1) ((pickI x (16 : Int)) - 8, (pickI y (16 : Int)) - 8) false).1) (Sl.below sl88))) (gd_ff rfl (not_f (by simp only [hE1_, hE2_, hE3_, hE4_, hE5_]; first | exact hR1_ | exact hR2_ | exact hR3_))) rfl rfl ?_
    rintro _ w97 ⟨rfl, k98⟩
    replace K0 := Ex.trans K0 k98
    replace f5 := f5.ex k98
    replace f6 := f6.ex k98
    replace sl38 := sl38.ex k98
    replace sl40 := sl40.ex k98
    replace ow52 := ow52.ex k98
    replace sl56 := sl56.ex k98
    replace sl60 := sl60.ex k98
    replace b76 := b76.ex k98
    replace sl80 := sl80.ex k98
    replace sl84 := sl84.ex k98
    replace sl88 := sl88.ex k98
    have zw97 := k98.size
    refine rw_ev (ev_not (b := rightC ((withC ((ofC (rawMap raw i)).1) ((pickI x (16 : Int)) - 8, (pickI y (16 : Int)) - 8) false).1)) rfl rfl) (gd_ff rfl (not_f (by simp only [hE1_, hE2_, hE3_, hE4_, hE5_]; first | exact hR1_ | exact hR2_ | exact hR3_))) rfl rfl ?_
    refine rw_ev (ev_pk_f (b := !(rightC ((withC ((ofC (rawMap raw i)).1) ((pickI x (16 : Int)) - 8, (pickI y (16 : Int)) - 8) true).1))) rfl (not_f (by simp only [hE1_, hE2_, hE3_, hE4_, hE5_]; first | exact hR1_ | exact hR2_ | exact hR3_)) rfl) rfl rfl rfl ?_
    refine rw_nil ?_
    refine nw_seq ?_
    refine cw_f (b := !(rightC ((withC ((ofC (rawMap raw i)).1) ((pickI x (16 : Int)) - 8, (pickI y (16 : Int)) - 8) false).1))) rfl (not_f (by simp only [hE1_, hE2_, hE3_, hE4_, hE5_]; first | exact hR1_ | exact hR2_ | exact hR3_)) ?_
    refine cw_skip ?_
    refine nw_seq ?_
    refine cw_seq ?_
    refine cw_seq ?_
    refine cw_region ?_
    refine rw_ev (ev_assign rfl) rfl rfl rfl ?_
    refine rw_nil ?_
    refine nw_seq ?_
    refine cw_block ?_
    refine cw_loop (σ := Nat) (fun j => [(8, .bool false), (9, .bool true), (10, v), (14, u53), (18, .pointer (some ⟨g67, 0, none⟩)), (19, u77), (23, u85), (25, .int .i64 (j : Int))]) (fun j wr => Ex w wr ∧ w97.heap.size ≤ wr.heap.size ∧ Sl wr (fun b => b < w.heap.size) rv 2 (raw.map encC) ∧ Ow wr w1.heap.size 55 v 2 ((rawMap raw i).map encC) ∧ Sl wr (fun b => w1.heap.size ≤ b ∧ b < w35.heap.size) (subSl v ((pickI at_ (((rawMap raw i).length : Int) + 1)).toNat) ((rawMap raw i).length) 2) 2 ((((rawMap raw i).take ((rawMap raw i).length)).drop ((pickI at_ (((rawMap raw i).length : Int) + 1)).toNat)).map encC) ∧ Sl wr (fun b => w1.heap.size ≤ b ∧ b < w35.heap.size) (subSl v 0 ((pickI at_ (((rawMap raw i).length : Int) + 1)).toNat) 2) 2 ((((rawMap raw i).take ((pickI at_ (((rawMap raw i).length : Int) + 1)).toNat)).drop 0).map encC) ∧ Ow wr w35.heap.size 55 v49 2 (((([] ++ (((rawMap raw i).take ((rawMap raw i).length)).drop ((pickI at_ (((rawMap raw i).length : Int) + 1)).toNat))) ++ (rawMap raw i)) ++ (((rawMap raw i).take ((pickI at_ (((rawMap raw i).length : Int) + 1)).toNat)).drop 0)).map encC) ∧ Sl wr (fun b => w50.heap.size ≤ b ∧ b < w54.heap.size) u53 2 (((ofC (rawMap raw i)).1).map encC) ∧ Sl wr (fun b => w54.heap.size ≤ b ∧ b < w58.heap.size) u57 2 (((ofC ((([] ++ (((rawMap raw i).take ((rawMap raw i).length)).drop ((pickI at_ (((rawMap raw i).length : Int) + 1)).toNat))) ++ (rawMap raw i)) ++ (((rawMap raw i).take ((pickI at_ (((rawMap raw i).length : Int) + 1)).toNat)).drop 0))).1).map encC) ∧ Bx wr g67 55 #[.int .i64 ((pickI x (16 : Int)) - 8), .int .i64 ((pickI y (16 : Int)) - 8)] ∧ Sl wr (fun b => w74.heap.size ≤ b ∧ b < w78.heap.size) u77 2 (((withC ((ofC (rawMap raw i)).1) ((pickI x (16 : Int)) - 8, (pickI y (16 : Int)) - 8) true).1).map encC) ∧ Sl wr (fun b => w78.heap.size ≤ b ∧ b < w82.heap.size) u81 2 (((withC ((withC ((ofC (rawMap raw i)).1) ((pickI x (16 : Int)) - 8, (pickI y (16 : Int)) - 8) true).1) ((pickI x (16 : Int)) - 8, (pickI y (16 : Int)) - 8) false).1).map encC) ∧ Sl wr (fun b => w82.heap.size ≤ b ∧ b < w86.heap.size) u85 2 (((withC ((ofC (rawMap raw i)).1) ((pickI x (16 : Int)) - 8, (pickI y (16 : Int)) - 8) false).1).map encC) ∧ j ≤ (rawMap raw i).length) (fun j => (rawMap raw i).length - j) 0 (Sub.cons rfl (Sub.cons rfl (Sub.cons rfl (Sub.cons rfl (Sub.cons rfl (Sub.cons rfl (Sub.cons rfl (Sub.int (b := (0 : Int)) rfl (by omega) Sub.nil)))))))) ⟨K0, (Nat.le_refl _), f5, f6, sl38, sl40, ow52, sl56, sl60, b76, sl80, sl84, sl88, (by omega)⟩ ?_
    rintro j w99 ⟨K0, z100, f101, f102, f103, f104, f105, f106, f107, f108, f109, f110, f111, pr112⟩
    show CW _ _ _ _ _ _ [(8, .bool false), (9, .bool true), (10, v), (14, u53), (18, .pointer (some ⟨g67, 0, none⟩)), (19, u77), (23, u85), (25, .int .i64 (j : Int))] _
    refine cw_seq ?_
    refine cw_seq ?_
    refine cw_region ?_
    refine rw_ev (ev_move rfl) rfl rfl rfl ?_
    refine rw_ev (ev_move rfl) rfl rfl rfl ?_
    refine rw_ev (v := .int .i64 ((rawMap raw i).length : Int)) (ev_lenm (l := (rawMap raw i)) ⟨_, f102.sl⟩ rfl el_46 rfl) rfl rfl rfl ?_
    refine rw_ev (ev_lss rfl rfl) rfl rfl rfl ?_
    refine rw_nil ?_
    refine nw_seq ?_
    by_cases h113 : (j : Int) < ((rawMap raw i).length : Int)
    ·
     refine cw_t (b := decide ((j : Int) < ((rawMap raw i).length : Int))) rfl (dec_t h113) ?_
     refine cw_skip ?_
     refine nw_seq ?_
     refine cw_seq ?_
     refine cw_block ?_
     refine cw_seq ?_
     refine cw_drawn (fun w114 w_ => Ex w114 w_) [] (.take 0 (.take 1 (.take 2 (.take 3 (.take 4 (.one 5 (.take 6 (.take 7 (.take 8 (.take 9 (.take 10 (.take 11 (.take 12 (.one 13 (.take 14 (.take 15 (.take 16 (.take 17 (.take 18 (.take 19 (.take 20 (.take 21 (.take 23 (.take 24 (.take 25 (.take 26 (.take 27 (.take 28 (.one 22 (.take 29 (.take 30 .done))))))))))))))))))))))))))))))) mixed (by kernel_rfl) (by kernel_rfl) (Nat.le_of_ble_eq_true (by kernel_rfl)) ?_; intro w114 k115 hs_
     replace K0 := Ex.trans K0 k115
     replace f101 := f101.ex k115
     replace f102 := f102.ex k115
     replace f103 := f103.ex k115
     replace f104 := f104.ex k115
     replace f105 := f105.ex k115
     replace f106 := f106.ex k115
     replace f107 := f107.ex k115
     replace f108 := f108.ex k115
     replace f109 := f109.ex k115
     replace f110 := f110.ex k115
     replace f111 := f111.ex k115
     have zw114 := k115.size
     have hS : (fun w_ => Ex w114 w_) w114 := Kp.refl _ _
     refine rp_take hs_ hS rfl rfl (ev_move rfl) rfl rfl rfl ?_
     refine rp_take hs_ hS rfl rfl (ev_move rfl) rfl rfl rfl ?_
     refine rp_take hs_ hS rfl rfl (ev_move rfl) rfl rfl rfl ?_
     obtain ⟨c116, hc117⟩ := get_of (l := (rawMap raw i)) (i := j) (by omega)
     
     refine rp_take (v := elemPtr v j 2 0) hs_ hS rfl rfl (ev_slAt (i := (j : Int)) ⟨_, (f102.ex hS).sl⟩ rfl rfl el_46 (idx_ok (i := (j : Int)) hc117 (by omega))) rfl rfl rfl ?_
     refine rp_take (v := .agg #[.int .i64 c116.1, .int .i64 c116.2]) hs_ hS rfl rfl (ev_elLoadk (us := [.int .i64 c116.1, .int .i64 c116.2]) (fun _ h => Sl.mono (A' := fun _ => True) (f102.ex h).sl (fun _ _ _ => trivial)) ⟨_, hS⟩ rfl (get_enc (f := encC) hc117) agg_55 (by decide) rfl rfl) rfl rfl rfl ?_
     refine rp_up (up_op rfl (op_fn (xs := [.tmp 156, .tmp 160]) ent_63 rfl (c_chas w114 u53 ((ofC (rawMap raw i)).1) (Sl.below (f106.ex hS)) c116)) rfl rfl rfl ?_)
     rintro _ w118 ⟨rfl, k119⟩
     replace K0 := Ex.trans K0 k119
     replace hS := Ex.trans hS k119
     have zw118 := k119.size
     refine ⟨(fun _ => hS), ?_⟩
     refine rp_take hs_ hS rfl rfl (ev_not rfl rfl) rfl rfl rfl ?_
     refine rp_take hs_ hS rfl rfl (ev_move rfl) rfl rfl rfl ?_
     refine rp_take hs_ hS rfl rfl (ev_move rfl) (gd_ff rfl (not_f (by simp only [hE1_, hE2_, hE3_, hE4_, hE5_]; exact (hH_ _ (List.mem_of_getElem? (by assumption : (rawMap raw i)[j]? = some _))).1))) rfl rfl ?_
     refine rp_take hs_ hS rfl rfl (ev_move rfl) (gd_ff rfl (not_f (by simp only [hE1_, hE2_, hE3_, hE4_, hE5_]; exact (hH_ _ (List.mem_of_getElem? (by assumption : (rawMap raw i)[j]? = some _))).1))) rfl rfl ?_
     refine rp_take hs_ hS rfl rfl (ev_move rfl) (gd_ff rfl (not_f (by simp only [hE1_, hE2_, hE3_, hE4_, hE5_]; exact (hH_ _ (List.mem_of_getElem? (by assumption : (rawMap raw i)[j]? = some _))).1))) rfl rfl ?_
     refine rp_take (v := elemPtr v j 2 0) hs_ hS rfl rfl (ev_slAt (i := (j : Int)) ⟨_, (f102.ex hS).sl⟩ rfl rfl el_46 (idx_ok (i := (j : Int)) hc117 (by omega))) (gd_ff rfl (not_f (by simp only [hE1_, hE2_, hE3_, hE4_, hE5_]; exact (hH_ _ (List.mem_of_getElem? (by assumption : (rawMap raw i)[j]? = some _))).1))) rfl rfl ?_
     refine rp_take (v := .agg #[.int .i64 c116.1, .int .i64 c116.2]) hs_ hS rfl rfl (ev_elLoadk (us := [.int .i64 c116.1, .int .i64 c116.2]) (fun _ h => Sl.mono (A' := fun _ => True) (f102.ex h).sl (fun _ _ _ => trivial)) ⟨_, hS⟩ rfl (get_enc (f := encC) hc117) agg_55 (by decide) rfl rfl) (gd_ff rfl (not_f (by simp only [hE1_, hE2_, hE3_, hE4_, hE5_]; exact (hH_ _ (List.mem_of_getElem? (by assumption : (rawMap raw i)[j]? = some _))).1))) rfl rfl ?_
     refine rp_up (up_op rfl (op_fn (xs := [.tmp 164, .tmp 168]) ent_63 rfl (c_chas w118 u77 ((withC ((ofC (rawMap raw i)).1) ((pickI x (16 : Int)) - 8, (pickI y (16 : Int)) - 8) true).1) (Sl.below (f109.ex hS)) c116)) (gd_ff rfl (not_f (by simp only [hE1_, hE2_, hE3_, hE4_, hE5_]; exact (hH_ _ (List.mem_of_getElem? (by assumption : (rawMap raw i)[j]? = some _))).1))) rfl rfl ?_)
     rintro _ w120 ⟨rfl, k121⟩
     replace K0 := Ex.trans K0 k121
     replace hS := Ex.trans hS k121
     have zw120 := k121.size
     refine ⟨(fun _ => hS), ?_⟩
     refine rp_take hs_ hS rfl rfl (ev_not (b := hasC ((withC ((ofC (rawMap raw i)).1) ((pickI x (16 : Int)) - 8, (pickI y (16 : Int)) - 8) true).1) c116) rfl rfl) (gd_ff rfl (not_f (by simp only [hE1_, hE2_, hE3_, hE4_, hE5_]; exact (hH_ _ (List.mem_of_getElem? (by assumption : (rawMap raw i)[j]? = some _))).1))) rfl rfl ?_
     refine rp_take hs_ hS rfl rfl (ev_pk_f rfl (not_f (by simp only [hE1_, hE2_, hE3_, hE4_, hE5_]; exact (hH_ _ (List.mem_of_getElem? (by assumption : (rawMap raw i)[j]? = some _))).1)) rfl) rfl rfl rfl ?_
     refine rp_take hs_ hS rfl rfl (ev_move rfl) rfl rfl rfl ?_
     refine rp_take hs_ hS rfl rfl (ev_move rfl) (gd_ff rfl (not_f (by simp only [hE1_, hE2_, hE3_, hE4_, hE5_]; exact (hH_ _ (List.mem_of_getElem? (by assumption : (rawMap raw i)[j]? = some _))).2.1))) rfl rfl ?_
     refine rp_take hs_ hS rfl rfl (ev_move rfl) (gd_ff rfl (not_f (by simp only [hE1_, hE2_, hE3_, hE4_, hE5_]; exact (hH_ _ (List.mem_of_getElem? (by assumption : (rawMap raw i)[j]? = some _))).2.1))) rfl rfl ?_
     refine rp_take hs_ hS rfl rfl (ev_move rfl) (gd_ff rfl (not_f (by simp only [hE1_, hE2_, hE3_, hE4_, hE5_]; exact (hH_ _ (List.mem_of_getElem? (by assumption : (rawMap raw i)[j]? = some _))).2.1))) rfl rfl ?_
     refine rp_take (v := elemPtr v j 2 0) hs_ hS rfl rfl (ev_slAt (i := (j : Int)) ⟨_, (f102.ex hS).sl⟩ rfl rfl el_46 (idx_ok (i := (j : Int)) hc117 (by omega))) (gd_ff rfl (not_f (by simp only [hE1_, hE2_, hE3_, hE4_, hE5_]; exact (hH_ _ (List.mem_of_getElem? (by assumption : (rawMap raw i)[j]? = some _))).2.1))) rfl rfl ?_
     refine rp_take (v := .agg #[.int .i64 c116.1, .int .i64 c116.2]) hs_ hS rfl rfl (ev_elLoadk (us := [.int .i64 c116.1, .int .i64 c116.2]) (fun _ h => Sl.mono (A' := fun _ => True) (f102.ex h).sl (fun _ _ _ => trivial)) ⟨_, hS⟩ rfl (get_enc (f := encC) hc117) agg_55 (by decide) rfl rfl) (gd_ff rfl (not_f (by simp only [hE1_, hE2_, hE3_, hE4_, hE5_]; exact (hH_ _ (List.mem_of_getElem? (by assumption : (rawMap raw i)[j]? = some _))).2.1))) rfl rfl ?_
     refine rp_take hs_ hS rfl rfl (ev_move rfl) (gd_ff rfl (not_f (by simp only [hE1_, hE2_, hE3_, hE4_, hE5_]; exact (hH_ _ (List.mem_of_getElem? (by assumption : (rawMap raw i)[j]? = some _))).2.1))) rfl rfl ?_
     refine rp_take hs_ hS rfl rfl (ev_move rfl) (gd_ff rfl (not_f (by simp only [hE1_, hE2_, hE3_, hE4_, hE5_]; exact (hH_ _ (List.mem_of_getElem? (by assumption : (rawMap raw i)[j]? = some _))).2.1))) rfl rfl ?_
     refine rp_take (v := elemPtr v j 2 0) hs_ hS rfl rfl (ev_slAt (i := (j : Int)) ⟨_, (f102.ex hS).sl⟩ rfl rfl el_46 (idx_ok (i := (j : Int)) hc117 (by omega))) (gd_ff rfl (not_f (by simp only [hE1_, hE2_, hE3_, hE4_, hE5_]; exact (hH_ _ (List.mem_of_getElem? (by assumption : (rawMap raw i)[j]? = some _))).2.1))) rfl rfl ?_
     refine rp_take (v := .agg #[.int .i64 c116.1, .int .i64 c116.2]) hs_ hS rfl rfl (ev_elLoadk (us := [.int .i64 c116.1, .int .i64 c116.2]) (fun _ h => Sl.mono (A' := fun _ => True) (f102.ex h).sl (fun _ _ _ => trivial)) ⟨_, hS⟩ rfl (get_enc (f := encC) hc117) agg_55 (by decide) rfl rfl) (gd_ff rfl (not_f (by simp only [hE1_, hE2_, hE3_, hE4_, hE5_]; exact (hH_ _ (List.mem_of_getElem? (by assumption : (rawMap raw i)[j]? = some _))).2.1))) rfl rfl ?_
     refine rp_take (v := .agg #[.int .i64 ((pickI x (16 : Int)) - 8), .int .i64 ((pickI y (16 : Int)) - 8)]) hs_ hS rfl rfl (ev_lbk (off := 0) (vs := [.int .i64 ((pickI x (16 : Int)) - 8), .int .i64 ((pickI y (16 : Int)) - 8)]) (fun _ h => f108.ex h) rfl agg_55 rfl rfl) (gd_ff rfl (not_f (by simp only [hE1_, hE2_, hE3_, hE4_, hE5_]; exact (hH_ _ (List.mem_of_getElem? (by assumption : (rawMap raw i)[j]? = some _))).2.1))) rfl rfl ?_
     refine rp_take hs_ hS rfl rfl (ev_neq_55 rfl rfl) (gd_ff rfl (not_f (by simp only [hE1_, hE2_, hE3_, hE4_, hE5_]; exact (hH_ _ (List.mem_of_getElem? (by assumption : (rawMap raw i)[j]? = some _))).2.1))) rfl rfl ?_
     refine rp_up (up_op rfl (op_fn (xs := [.tmp 173, .tmp 177]) ent_63 rfl (c_chas w120 u85 ((withC ((ofC (rawMap raw i)).1) ((pickI x (16 : Int)) - 8, (pickI y (16 : Int)) - 8) false).1) (Sl.below (f111.ex hS)) c116)) (gd_ff rfl (not_f (by simp only [hE1_, hE2_, hE3_, hE4_, hE5_]; exact (hH_ _ (List.mem_of_getElem? (by assumption : (rawMap raw i)[j]? = some _))).2.1))) rfl rfl ?_)
     rintro _ w122 ⟨rfl, k123⟩
     replace K0 := Ex.trans K0 k123
     replace hS := Ex.trans hS k123
     have zw122 := k123.size
     refine ⟨(fun _ => hS), ?_⟩
     refine rp_take hs_ hS rfl rfl (ev_neb (p := hasC ((withC ((ofC (rawMap raw i)).1) ((pickI x (16 : Int)) - 8, (pickI y (16 : Int)) - 8) false).1) c116) (q := decide ((c116 : Cell) ≠ ((pickI x (16 : Int)) - 8, (pickI y (16 : Int)) - 8))) bool_4 rfl rfl) (gd_ff rfl (not_f (by simp only [hE1_, hE2_, hE3_, hE4_, hE5_]; exact (hH_ _ (List.mem_of_getElem? (by assumption : (rawMap raw i)[j]? = some _))).2.1))) rfl rfl ?_
     refine rp_take hs_ hS rfl rfl (ev_pk_f (b := !(hasC ((withC ((ofC (rawMap raw i)).1) ((pickI x (16 : Int)) - 8, (pickI y (16 : Int)) - 8) true).1) c116)) rfl (not_f (by simp only [hE1_, hE2_, hE3_, hE4_, hE5_]; exact (hH_ _ (List.mem_of_getElem? (by assumption : (rawMap raw i)[j]? = some _))).2.1)) rfl) rfl rfl rfl ?_
     refine rp_done ?_
     clear hs_
     replace f101 := f101.ex hS
     replace f102 := f102.ex hS
     replace f103 := f103.ex hS
     replace f104 := f104.ex hS
     replace f105 := f105.ex hS
     replace f106 := f106.ex hS
     replace f107 := f107.ex hS
     replace f108 := f108.ex hS
     replace f109 := f109.ex hS
     replace f110 := f110.ex hS
     replace f111 := f111.ex hS
     refine nw_seq ?_
     refine cw_f (b := decide ((hasC ((withC ((ofC (rawMap raw i)).1) ((pickI x (16 : Int)) - 8, (pickI y (16 : Int)) - 8) false).1) c116) ≠ (decide ((c116 : Cell) ≠ ((pickI x (16 : Int)) - 8, (pickI y (16 : Int)) - 8))))) rfl (dec_f (by simp only [hE1_, hE2_, hE3_, hE4_, hE5_]; exact fun h_ => h_ (hH_ _ (List.mem_of_getElem? (by assumption : (rawMap raw i)[j]? = some _))).2.2)) ?_
     refine cw_skip ?_
     refine nw_block ?_
     refine nw_seq ?_
     refine cw_region ?_
     refine rw_ev (ev_move rfl) rfl rfl rfl ?_
     refine rw_ev (ev_add rfl rfl (by omega)) rfl rfl rfl ?_
     refine rw_ev (ev_assign rfl) rfl rfl rfl ?_
     refine rw_nil ?_
     exact nw_round (j + 1) (Sub.cons rfl (Sub.cons rfl (Sub.cons rfl (Sub.cons rfl (Sub.cons rfl (Sub.cons rfl (Sub.cons rfl (Sub.int (b := ((j + 1) : Int)) rfl (by omega) Sub.nil)))))))) ⟨K0, (Nat.le_trans z100 (Nat.le_trans zw114 (Nat.le_trans zw118 (Nat.le_trans zw120 zw122)))), f101, f102, f103, f104, f105, f106, f107, f108, f109, f110, f111, (by omega)⟩ (by first | omega | (dsimp only; omega))
    ·
     refine cw_f (b := decide ((j : Int) < ((rawMap raw i).length : Int))) rfl (dec_f h113) ?_
     refine cw_exit ?_
     refine xw_seq ?_
     refine xw_goal ?_
     refine xw_hit ?_
     refine nw_seq ?_
     refine cw_seq ?_
     refine cw_seq ?_
     refine cw_region ?_
     refine rw_ev (ev_move rfl) rfl rfl rfl ?_
     refine rw_ev (v := .agg #[.int .i64 ((pickI x (16 : Int)) - 8), .int .i64 ((pickI y (16 : Int)) - 8)]) (ev_lbk (off := 0) (vs := [.int .i64 ((pickI x (16 : Int)) - 8), .int .i64 ((pickI y (16 : Int)) - 8)]) (fun _ h => h ▸ f108) rfl agg_55 rfl rfl) rfl rfl rfl ?_
     refine rw_op (op_fn (xs := [.tmp 187, .tmp 188]) ent_63 rfl (c_chas w99 u53 ((ofC (rawMap raw i)).1) (Sl.below f106) ((pickI x (16 : Int)) - 8, (pickI y (16 : Int)) - 8))) rfl rfl rfl ?_
     rintro _ w124 ⟨rfl, k125⟩
     replace K0 := Ex.trans K0 k125
     replace f101 := f101.ex k125
     replace f102 := f102.ex k125
     replace f103 := f103.ex k125
     replace f104 := f104.ex k125
     replace f105 := f105.ex k125
     replace f106 := f106.ex k125
     replace f107 := f107.ex k125
     replace f108 := f108.ex k125
     replace f109 := f109.ex k125
     replace f110 := f110.ex k125
     replace f111 := f111.ex k125
     have zw124 := k125.size
     refine rw_nil ?_
     refine nw_seq ?_
     rcases Bool.eq_false_or_eq_true (hasC ((ofC (rawMap raw i)).1) ((pickI x (16 : Int)) - 8, (pickI y (16 : Int)) - 8)) with h126 | h126
     ·
      refine cw_t (b := hasC ((ofC (rawMap raw i)).1) ((pickI x (16 : Int)) - 8, (pickI y (16 : Int)) - 8)) rfl h126 ?_
      refine cw_seq ?_
      refine cw_region ?_
      refine rw_ev (ev_move rfl) rfl rfl rfl ?_
      refine rw_ev (ev_move rfl) rfl rfl rfl ?_
      refine rw_ev (ev_move rfl) rfl rfl rfl ?_
      refine rw_ev (ev_move rfl) rfl rfl rfl ?_
      refine rw_op (op_fn (xs := [.tmp 192, .tmp 193]) ent_37 rfl (c_same w124 u77 ((withC ((ofC (rawMap raw i)).1) ((pickI x (16 : Int)) - 8, (pickI y (16 : Int)) - 8) true).1) (Sl.below f109) u53 ((ofC (rawMap raw i)).1) (Sl.below f106))) rfl rfl rfl ?_
      rintro _ w127 ⟨rfl, k128⟩
      replace K0 := Ex.trans K0 k128
      replace f101 := f101.ex k128
      replace f102 := f102.ex k128
      replace f103 := f103.ex k128
      replace f104 := f104.ex k128
      replace f105 := f105.ex k128
      replace f106 := f106.ex k128
      replace f107 := f107.ex k128
      replace f108 := f108.ex k128
      replace f109 := f109.ex k128
      replace f110 := f110.ex k128
      replace f111 := f111.ex k128
      have zw127 := k128.size
      refine rw_ev (ev_pk_t rfl rfl rfl) rfl rfl rfl ?_
      refine rw_ev (ev_move rfl) rfl rfl rfl ?_
      refine rw_ev (ev_move rfl) (gd_tt rfl (by have hb_ := (by assumption : hasC ((ofC (rawMap raw i)).1) (pickI x 16 - 8, pickI y 16 - 8) = true); simp only [hE1_] at hb_; simp only [hE1_, hE2_, hE3_, hE4_, hE5_]; rw [(hF1_ hb_).1]; exact same_self _)) rfl rfl ?_
      refine rw_ev (v := .int .i64 (((withC ((ofC (rawMap raw i)).1) ((pickI x (16 : Int)) - 8, (pickI y (16 : Int)) - 8) false).1).length : Int)) (ev_lenm (l := (withC ((ofC (rawMap raw i)).1) ((pickI x (16 : Int)) - 8, (pickI y (16 : Int)) - 8) false).1) ⟨_, f111⟩ rfl el_46 rfl) (gd_tt rfl (by have hb_ := (by assumption : hasC ((ofC (rawMap raw i)).1) (pickI x 16 - 8, pickI y 16 - 8) = true); simp only [hE1_] at hb_; simp only [hE1_, hE2_, hE3_, hE4_, hE5_]; rw [(hF1_ hb_).1]; exact same_self _)) rfl rfl ?_
      refine rw_ev (ev_move rfl) (gd_tt rfl (by have hb_ := (by assumption : hasC ((ofC (rawMap raw i)).1) (pickI x 16 - 8, pickI y 16 - 8) = true); simp only [hE1_] at hb_; simp only [hE1_, hE2_, hE3_, hE4_, hE5_]; rw [(hF1_ hb_).1]; exact same_self _)) rfl rfl ?_
      refine rw_ev (v := .int .i64 (((ofC (rawMap raw i)).1).length : Int)) (ev_lenm (l := (ofC (rawMap raw i)).1) ⟨_, f106⟩ rfl el_46 rfl) (gd_tt rfl (by have hb_ := (by assumption : hasC ((ofC (rawMap raw i)).1) (pickI x 16 - 8, pickI y 16 - 8) = true); simp only [hE1_] at hb_; simp only [hE1_, hE2_, hE3_, hE4_, hE5_]; rw [(hF1_ hb_).1]; exact same_self _)) rfl rfl ?_
      refine rw_ev (ev_sub rfl rfl (by omega)) (gd_tt rfl (by have hb_ := (by assumption : hasC ((ofC (rawMap raw i)).1) (pickI x 16 - 8, pickI y 16 - 8) = true); simp only [hE1_] at hb_; simp only [hE1_, hE2_, hE3_, hE4_, hE5_]; rw [(hF1_ hb_).1]; exact same_self _)) rfl rfl ?_
      refine rw_ev (ev_eq (p := (((withC ((ofC (rawMap raw i)).1) ((pickI x (16 : Int)) - 8, (pickI y (16 : Int)) - 8) false).1).length : Int)) (q := (((ofC (rawMap raw i)).1).length : Int) - 1) rfl rfl) (gd_tt rfl (by have hb_ := (by assumption : hasC ((ofC (rawMap raw i)).1) (pickI x 16 - 8, pickI y 16 - 8) = true); simp only [hE1_] at hb_; simp only [hE1_, hE2_, hE3_, hE4_, hE5_]; rw [(hF1_ hb_).1]; exact same_self _)) rfl rfl ?_
      refine rw_ev (ev_pk_t (b := sameC ((withC ((ofC (rawMap raw i)).1) ((pickI x (16 : Int)) - 8, (pickI y (16 : Int)) - 8) true).1) ((ofC (rawMap raw i)).1)) rfl (by have hb_ := (by assumption : hasC ((ofC (rawMap raw i)).1) (pickI x 16 - 8, pickI y 16 - 8) = true); simp only [hE1_] at hb_; simp only [hE1_, hE2_, hE3_, hE4_, hE5_]; rw [(hF1_ hb_).1]; exact same_self _) rfl) rfl rfl rfl ?_
      refine rw_ev (ev_move rfl) rfl rfl rfl ?_
      refine rw_ev (ev_move rfl) (gd_tt rfl (dec_t (by have hb_ := (by assumption : hasC ((ofC (rawMap raw i)).1) (pickI x 16 - 8, pickI y 16 - 8) = true); simp only [hE1_] at hb_; simp only [hE1_, hE2_, hE3_, hE4_, hE5_]; exact (hF1_ hb_).2))) rfl rfl ?_
      refine rw_ev (v := .agg #[.int .i64 ((pickI x (16 : Int)) - 8), .int .i64 ((pickI y (16 : Int)) - 8)]) (ev_lbk (off := 0) (vs := [.int .i64 ((pickI x (16 : Int)) - 8), .int .i64 ((pickI y (16 : Int)) - 8)]) (fun _ h => h ▸ f108) rfl agg_55 rfl rfl) (gd_tt rfl (dec_t (by have hb_ := (by assumption : hasC ((ofC (rawMap raw i)).1) (pickI x 16 - 8, pickI y 16 - 8) = true); simp only [hE1_] at hb_; simp only [hE1_, hE2_, hE3_, hE4_, hE5_]; exact (hF1_ hb_).2))) rfl rfl ?_
      refine rw_op (op_fn (xs := [.tmp 205, .tmp 206]) ent_63 rfl (c_chas w127 u77 ((withC ((ofC (rawMap raw i)).1) ((pickI x (16 : Int)) - 8, (pickI y (16 : Int)) - 8) true).1) (Sl.below f109) ((pickI x (16 : Int)) - 8, (pickI y (16 : Int)) - 8))) (gd_tt rfl (dec_t (by have hb_ := (by assumption : hasC ((ofC (rawMap raw i)).1) (pickI x 16 - 8, pickI y 16 - 8) = true); simp only [hE1_] at hb_; simp only [hE1_, hE2_, hE3_, hE4_, hE5_]; exact (hF1_ hb_).2))) rfl rfl ?_
      rintro _ w129 ⟨rfl, k130⟩
      replace K0 := Ex.trans K0 k130
      replace f101 := f101.ex k130
      replace f102 := f102.ex k130
      replace f103 := f103.ex k130
      replace f104 := f104.ex k130
      replace f105 := f105.ex k130
      replace f106 := f106.ex k130
      replace f107 := f107.ex k130
      replace f108 := f108.ex k130
      replace f109 := f109.ex k130
      replace f110 := f110.ex k130
      replace f111 := f111.ex k130
      have zw129 := k130.size
      refine rw_ev (ev_pk_t (b := decide ((((withC ((ofC (rawMap raw i)).1) ((pickI x (16 : Int)) - 8, (pickI y (16 : Int)) - 8) false).1).length : Int) = ((((ofC (rawMap raw i)).1).length : Int) - 1))) rfl (dec_t (by have hb_ := (by assumption : hasC ((ofC (rawMap raw i)).1) (pickI x 16 - 8, pickI y 16 - 8) = true); simp only [hE1_] at hb_; simp only [hE1_, hE2_, hE3_, hE4_, hE5_]; exact (hF1_ hb_).2)) rfl) rfl rfl rfl ?_
      refine rw_ev (ev_assign rfl) rfl rfl rfl ?_
      refine rw_nil ?_
      refine nw_seq ?_
      refine cw_ret ?_
      refine ret_post (rs := [.tmp 8]) (vs := [.bool (hasC ((withC ((ofC (rawMap raw i)).1) ((pickI x (16 : Int)) - 8, (pickI y (16 : Int)) - 8) true).1) ((pickI x (16 : Int)) - 8, (pickI y (16 : Int)) - 8))]) rfl (.tmp rfl .nil) ?_
      refine ⟨?_, K0⟩
      · show (.bool (hasC ((withC ((ofC (rawMap raw i)).1) ((pickI x (16 : Int)) - 8, (pickI y (16 : Int)) - 8) true).1) ((pickI x (16 : Int)) - 8, (pickI y (16 : Int)) - 8)) : Value) = _
        refine congrArg Value.bool ?_
        first | rfl | (simp only [hE1_, hE2_, hE3_, hE4_, hE5_]; exact hF3_)
     ·
      refine cw_f (b := hasC ((ofC (rawMap raw i)).1) ((pickI x (16 : Int)) - 8, (pickI y (16 : Int)) - 8)) rfl h126 ?_
      refine cw_skip ?_
      refine nw_seq ?_
      refine cw_seq ?_
      refine cw_region ?_
      refine rw_ev (ev_move rfl) rfl rfl rfl ?_
      refine rw_ev (ev_move rfl) rfl rfl rfl ?_
      refine rw_ev (ev_move rfl) rfl rfl rfl ?_
      refine rw_ev (ev_move rfl) rfl rfl rfl ?_
      refine rw_op (op_fn (xs := [.tmp 211, .tmp 212]) ent_37 rfl (c_same w124 u85 ((withC ((ofC (rawMap raw i)).1) ((pickI x (16 : Int)) - 8, (pickI y (16 : Int)) - 8) false).1) (Sl.below f111) u53 ((ofC (rawMap raw i)).1) (Sl.below f106))) rfl rfl rfl ?_
      rintro _ w131 ⟨rfl, k132⟩
      replace K0 := Ex.trans K0 k132
      replace f101 := f101.ex k132
      replace f102 := f102.ex k132
      replace f103 := f103.ex k132
      replace f104 := f104.ex k132
      replace f105 := f105.ex k132
      replace f106 := f106.ex k132
      replace f107 := f107.ex k132
      replace f108 := f108.ex k132
      replace f109 := f109.ex k132
      replace f110 := f110.ex k132
      replace f111 := f111.ex k132
      have zw131 := k132.size
      refine rw_ev (ev_pk_t rfl rfl rfl) rfl rfl rfl ?_
      refine rw_ev (ev_move rfl) rfl rfl rfl ?_
      refine rw_ev (ev_move rfl) (gd_tt rfl (by have hb_ := (by assumption : hasC ((ofC (rawMap raw i)).1) (pickI x 16 - 8, pickI y 16 - 8) = false); simp only [hE1_] at hb_; simp only [hE1_, hE2_, hE3_, hE4_, hE5_]; rw [(hF2_ hb_).1]; exact same_self _)) rfl rfl ?_
      refine rw_ev (v := .int .i64 (((withC ((ofC (rawMap raw i)).1) ((pickI x (16 : Int)) - 8, (pickI y (16 : Int)) - 8) true).1).length : Int)) (ev_lenm (l := (withC ((ofC (rawMap raw i)).1) ((pickI x (16 : Int)) - 8, (pickI y (16 : Int)) - 8) true).1) ⟨_, f109⟩ rfl el_46 rfl) (gd_tt rfl (by have hb_ := (by assumption : hasC ((ofC (rawMap raw i)).1) (pickI x 16 - 8, pickI y 16 - 8) = false); simp only [hE1_] at hb_; simp only [hE1_, hE2_, hE3_, hE4_, hE5_]; rw [(hF2_ hb_).1]; exact same_self _)) rfl rfl ?_
      refine rw_ev (ev_move rfl) (gd_tt rfl (by have hb_ := (by assumption : hasC ((ofC (rawMap raw i)).1) (pickI x 16 - 8, pickI y 16 - 8) = false); simp only [hE1_] at hb_; simp only [hE1_, hE2_, hE3_, hE4_, hE5_]; rw [(hF2_ hb_).1]; exact same_self _)) rfl rfl ?_
      refine rw_ev (v := .int .i64 (((ofC (rawMap raw i)).1).length : Int)) (ev_lenm (l := (ofC (rawMap raw i)).1) ⟨_, f106⟩ rfl el_46 rfl) (gd_tt rfl (by have hb_ := (by assumption : hasC ((ofC (rawMap raw i)).1) (pickI x 16 - 8, pickI y 16 - 8) = false); simp only [hE1_] at hb_; simp only [hE1_, hE2_, hE3_, hE4_, hE5_]; rw [(hF2_ hb_).1]; exact same_self _)) rfl rfl ?_
      refine rw_ev (ev_add rfl rfl (by omega)) (gd_tt rfl (by have hb_ := (by assumption : hasC ((ofC (rawMap raw i)).1) (pickI x 16 - 8, pickI y 16 - 8) = false); simp only [hE1_] at hb_; simp only [hE1_, hE2_, hE3_, hE4_, hE5_]; rw [(hF2_ hb_).1]; exact same_self _)) rfl rfl ?_
      refine rw_ev (ev_eq (p := (((withC ((ofC (rawMap raw i)).1) ((pickI x (16 : Int)) - 8, (pickI y (16 : Int)) - 8) true).1).length : Int)) (q := (((ofC (rawMap raw i)).1).length : Int) + 1) rfl rfl) (gd_tt rfl (by have hb_ := (by assumption : hasC ((ofC (rawMap raw i)).1) (pickI x 16 - 8, pickI y 16 - 8) = false); simp only [hE1_] at hb_; simp only [hE1_, hE2_, hE3_, hE4_, hE5_]; rw [(hF2_ hb_).1]; exact same_self _)) rfl rfl ?_
      refine rw_ev (ev_pk_t (b := sameC ((withC ((ofC (rawMap raw i)).1) ((pickI x (16 : Int)) - 8, (pickI y (16 : Int)) - 8) false).1) ((ofC (rawMap raw i)).1)) rfl (by have hb_ := (by assumption : hasC ((ofC (rawMap raw i)).1) (pickI x 16 - 8, pickI y 16 - 8) = false); simp only [hE1_] at hb_; simp only [hE1_, hE2_, hE3_, hE4_, hE5_]; rw [(hF2_ hb_).1]; exact same_self _) rfl) rfl rfl rfl ?_
      refine rw_ev (ev_move rfl) rfl rfl rfl ?_
      refine rw_ev (ev_move rfl) (gd_tt rfl (dec_t (by have hb_ := (by assumption : hasC ((ofC (rawMap raw i)).1) (pickI x 16 - 8, pickI y 16 - 8) = false); simp only [hE1_] at hb_; simp only [hE1_, hE2_, hE3_, hE4_, hE5_]; exact (hF2_ hb_).2))) rfl rfl ?_
      refine rw_ev (v := .agg #[.int .i64 ((pickI x (16 : Int)) - 8), .int .i64 ((pickI y (16 : Int)) - 8)]) (ev_lbk (off := 0) (vs := [.int .i64 ((pickI x (16 : Int)) - 8), .int .i64 ((pickI y (16 : Int)) - 8)]) (fun _ h => h ▸ f108) rfl agg_55 rfl rfl) (gd_tt rfl (dec_t (by have hb_ := (by assumption : hasC ((ofC (rawMap raw i)).1) (pickI x 16 - 8, pickI y 16 - 8) = false); simp only [hE1_] at hb_; simp only [hE1_, hE2_, hE3_, hE4_, hE5_]; exact (hF2_ hb_).2))) rfl rfl ?_
      refine rw_op (op_fn (xs := [.tmp 224, .tmp 225]) ent_63 rfl (c_chas w131 u77 ((withC ((ofC (rawMap raw i)).1) ((pickI x (16 : Int)) - 8, (pickI y (16 : Int)) - 8) true).1) (Sl.below f109) ((pickI x (16 : Int)) - 8, (pickI y (16 : Int)) - 8))) (gd_tt rfl (dec_t (by have hb_ := (by assumption : hasC ((ofC (rawMap raw i)).1) (pickI x 16 - 8, pickI y 16 - 8) = false); simp only [hE1_] at hb_; simp only [hE1_, hE2_, hE3_, hE4_, hE5_]; exact (hF2_ hb_).2))) rfl rfl ?_
      rintro _ w133 ⟨rfl, k134⟩
      replace K0 := Ex.trans K0 k134
      replace f101 := f101.ex k134
      replace f102 := f102.ex k134
      replace f103 := f103.ex k134
      replace f104 := f104.ex k134
      replace f105 := f105.ex k134
      replace f106 := f106.ex k134
      replace f107 := f107.ex k134
      replace f108 := f108.ex k134
      replace f109 := f109.ex k134
      replace f110 := f110.ex k134
      replace f111 := f111.ex k134
      have zw133 := k134.size
      refine rw_ev (ev_pk_t (b := decide ((((withC ((ofC (rawMap raw i)).1) ((pickI x (16 : Int)) - 8, (pickI y (16 : Int)) - 8) true).1).length : Int) = ((((ofC (rawMap raw i)).1).length : Int) + 1))) rfl (dec_t (by have hb_ := (by assumption : hasC ((ofC (rawMap raw i)).1) (pickI x 16 - 8, pickI y 16 - 8) = false); simp only [hE1_] at hb_; simp only [hE1_, hE2_, hE3_, hE4_, hE5_]; exact (hF2_ hb_).2)) rfl) rfl rfl rfl ?_
      refine rw_ev (ev_assign rfl) rfl rfl rfl ?_
      refine rw_nil ?_
      refine nw_seq ?_
      refine cw_ret ?_
      refine ret_post (rs := [.tmp 8]) (vs := [.bool (hasC ((withC ((ofC (rawMap raw i)).1) ((pickI x (16 : Int)) - 8, (pickI y (16 : Int)) - 8) true).1) ((pickI x (16 : Int)) - 8, (pickI y (16 : Int)) - 8))]) rfl (.tmp rfl .nil) ?_
      refine ⟨?_, K0⟩
      · show (.bool (hasC ((withC ((ofC (rawMap raw i)).1) ((pickI x (16 : Int)) - 8, (pickI y (16 : Int)) - 8) true).1) ((pickI x (16 : Int)) - 8, (pickI y (16 : Int)) - 8)) : Value) = _
        refine congrArg Value.bool ?_
        first | rfl | (simp only [hE1_, hE2_, hE3_, hE4_, hE5_]; exact hF3_)
  ·
   refine rw_skip (gd_tf rfl (dec_f h10)) rfl rfl ?_
   refine rw_skip (gd_tf rfl (dec_f h10)) rfl rfl ?_
   refine rw_ev (ev_pk_f rfl (dec_f h10) rfl) rfl rfl rfl ?_
   refine rw_nil ?_
   refine nw_seq ?_
   refine cw_f (b := false) rfl rfl ?_
   refine cw_exit ?_
   refine xw_seq ?_
   refine xw_goal ?_
   refine xw_hit ?_
   refine nw_seq ?_
   refine cw_seq ?_
   refine cw_region ?_
   refine rw_ev (ev_move rfl) rfl rfl rfl ?_
   refine rw_ev (ev_move rfl) rfl rfl rfl ?_
   refine rw_ev (v := .int .i64 ((rawMap raw i).length : Int)) (ev_lenm (l := (rawMap raw i)) ⟨_, f6.sl⟩ rfl el_46 rfl) rfl rfl rfl ?_
   refine rw_ev (ev_add rfl rfl (by omega)) rfl rfl rfl ?_
   refine rw_op (op_fn (xs := [.tmp 55, .tmp 58]) ent_60 rfl (c_pick60 w3 at_ (((rawMap raw i).length : Int) + 1) (by omega) (by omega))) rfl rfl rfl ?_
   rintro _ w135 ⟨rfl, k136, pr137⟩
   replace K0 := Ex.trans K0 k136
   replace f5 := f5.ex k136
   replace f6 := f6.ex k136
   have zw135 := k136.size
   refine rw_ev (ev_assign rfl) rfl rfl rfl ?_
   refine rw_nil ?_
   refine nw_seq ?_
   refine cw_seq ?_
   refine cw_drawn (fun w138 w_ => Ex w138 w_) [] (.take 0 (.take 1 (.take 2 (.take 4 (.take 6 (.take 7 (.take 8 (.one 3 (.one 5 (.one 9 (.take 10 .done))))))))))) mixed (by kernel_rfl) (by kernel_rfl) (Nat.le_of_ble_eq_true (by kernel_rfl)) ?_; intro w138 k139 hs_
   replace K0 := Ex.trans K0 k139
   replace f5 := f5.ex k139
   replace f6 := f6.ex k139
   have zw138 := k139.size
   have hS : (fun w_ => Ex w138 w_) w138 := Kp.refl _ _
   refine rp_take hs_ hS rfl rfl (ev_move rfl) rfl rfl rfl ?_
   refine rp_take hs_ hS rfl rfl (ev_move rfl) rfl rfl rfl ?_
   have hs140 : 0 ≤ (pickI at_ (((rawMap raw i).length : Int) + 1) : Int) ∧ (pickI at_ (((rawMap raw i).length : Int) + 1) : Int) ≤ ((rawMap raw i).length : Int) ∧ (((rawMap raw i).length : Int) : Int) ≤ ((rawMap raw i).map encC).length := by rw [List.length_map]; omega
   have sl141 := sub_encs (f6.ex hS).sl (lo := (pickI at_ (((rawMap raw i).length : Int) + 1)).toNat) (hi := (rawMap raw i).length) (by omega) (by have := hs140; rw [List.length_map] at this; omega)
   refine rp_take (v := (subSl v ((pickI at_ (((rawMap raw i).length : Int) + 1)).toNat) ((rawMap raw i).length) 2)) hs_ hS rfl rfl (ev_slice (l := pickI at_ (((rawMap raw i).length : Int) + 1)) (h := ((rawMap raw i).length : Int)) ⟨_, (f6.ex hS).sl⟩ rfl el_46 (.inr ⟨_, rfl, rfl⟩) (.inl ⟨rfl, by rw [List.length_map]⟩) hs140) rfl rfl rfl ?_
   refine rp_take hs_ hS rfl rfl (ev_move rfl) rfl rfl rfl ?_
   refine rp_take hs_ hS rfl rfl (ev_move rfl) rfl rfl rfl ?_
   refine rp_take hs_ hS rfl rfl (ev_move rfl) rfl rfl rfl ?_
   have hs142 : 0 ≤ (0 : Int) ∧ (0 : Int) ≤ (pickI at_ (((rawMap raw i).length : Int) + 1)) ∧ (pickI at_ (((rawMap raw i).length : Int) + 1) : Int) ≤ ((rawMap raw i).map encC).length := by rw [List.length_map]; omega
   have sl143 := sub_encs (f6.ex hS).sl (lo := 0) (hi := (pickI at_ (((rawMap raw i).length : Int) + 1)).toNat) (by omega) (by have := hs142; rw [List.length_map] at this; omega)
   refine rp_take (v := (subSl v 0 ((pickI at_ (((rawMap raw i).length : Int) + 1)).toNat) 2)) hs_ hS rfl rfl (ev_slice (l := 0) (h := pickI at_ (((rawMap raw i).length : Int) + 1)) ⟨_, (f6.ex hS).sl⟩ rfl el_46 (.inl ⟨rfl, rfl⟩) (.inr ⟨_, rfl, rfl⟩) hs142) rfl rfl rfl ?_
   refine rp_up (up_op rfl (op_appn (f := encC) (l := []) (r := (((rawMap raw i).take ((rawMap raw i).length)).drop ((pickI at_ (((rawMap raw i).length : Int) + 1)).toNat))) (B := w138.heap.size) row_46 plainC (Ow.nil _ w138.heap.size 55 2) sl141 rfl rfl (by unfold maxLen; (try simp only [List.length_append, List.length_map, List.length_take, List.length_drop, List.length_nil, List.length_cons]); omega) (by (try simp only [List.length_append, List.length_map, List.length_take, List.length_drop, List.length_nil, List.length_cons]); omega) (Nat.le_refl _)) rfl rfl rfl ?_)
   rintro v144 w145 ⟨k146, ow147⟩
   replace k146 : Ex w138 w145 := Kp.mono k146 (fun _ _ h => by simp [Value.ownBlock] at h)
   replace K0 := Ex.trans K0 k146
   replace hS := Ex.trans hS k146
   replace sl141 := sl141.ex k146
   replace sl143 := sl143.ex k146
   have zw145 := k146.size
   refine ⟨(fun _ => hS), ?_⟩
   refine rp_up (up_op rfl (op_appn (f := encC) (l := ([] ++ (((rawMap raw i).take ((rawMap raw i).length)).drop ((pickI at_ (((rawMap raw i).length : Int) + 1)).toNat)))) (r := (rawMap raw i)) (B := w138.heap.size) row_46 plainC ow147 (f6.ex hS).sl rfl rfl (by unfold maxLen; (try simp only [List.length_append, List.length_map, List.length_take, List.length_drop, List.length_nil, List.length_cons]); omega) (by (try simp only [List.length_append, List.length_map, List.length_take, List.length_drop, List.length_nil, List.length_cons]); omega) zw145) rfl rfl rfl ?_)
   rintro v148 w149 ⟨k150, ow151⟩
   replace K0 := Ex.kp_new K0 k150 (fun b h => Nat.le_trans (Nat.le_trans zw1 (Nat.le_trans z4 (Nat.le_trans zw135 zw138))) (ow147.lt b h).1)
   replace hS := Ex.kp_new hS k150 (fun b h => Nat.le_trans (Nat.le_refl _) (ow147.lt b h).1)
   replace sl141 := sl141.kp k150 (fun b h e => Nat.lt_irrefl _ (Nat.lt_of_lt_of_le (show b < _ from h.2) (Nat.le_trans (Nat.le_refl _) (ow147.lt b e).1)))
   replace sl143 := sl143.kp k150 (fun b h e => Nat.lt_irrefl _ (Nat.lt_of_lt_of_le (show b < _ from h.2) (Nat.le_trans (Nat.le_refl _) (ow147.lt b e).1)))
   have zw149 := k150.size
   refine ⟨(fun _ => hS), ?_⟩
   refine rp_up (up_op rfl (op_appn (f := encC) (l := (([] ++ (((rawMap raw i).take ((rawMap raw i).length)).drop ((pickI at_ (((rawMap raw i).length : Int) + 1)).toNat))) ++ (rawMap raw i))) (r := (((rawMap raw i).take ((pickI at_ (((rawMap raw i).length : Int) + 1)).toNat)).drop 0)) (B := w138.heap.size) row_46 plainC ow151 sl143 rfl rfl (by unfold maxLen; (try simp only [List.length_append, List.length_map, List.length_take, List.length_drop, List.length_nil, List.length_cons]); omega) (by (try simp only [List.length_append, List.length_map, List.length_take, List.length_drop, List.length_nil, List.length_cons]); omega) (Nat.le_trans zw145 zw149)) rfl rfl rfl ?_)
   rintro v152 w153 ⟨k154, ow155⟩
   replace K0 := Ex.kp_new K0 k154 (fun b h => Nat.le_trans (Nat.le_trans zw1 (Nat.le_trans z4 (Nat.le_trans zw135 zw138))) (ow151.lt b h).1)
   replace hS := Ex.kp_new hS k154 (fun b h => Nat.le_trans (Nat.le_refl _) (ow151.lt b h).1)
   replace sl141 := sl141.kp k154 (fun b h e => Nat.lt_irrefl _ (Nat.lt_of_lt_of_le (show b < _ from h.2) (Nat.le_trans (Nat.le_refl _) (ow151.lt b e).1)))
   replace sl143 := sl143.kp k154 (fun b h e => Nat.lt_irrefl _ (Nat.lt_of_lt_of_le (show b < _ from h.2) (Nat.le_trans (Nat.le_refl _) (ow151.lt b e).1)))
   have zw153 := k154.size
   refine ⟨(fun _ => hS), ?_⟩
   refine rp_take hs_ hS rfl rfl (ev_assign rfl) rfl rfl rfl ?_
   refine rp_done ?_
   clear hs_
   replace f5 := f5.ex hS
   replace f6 := f6.ex hS
   refine nw_seq ?_
   refine cw_seq ?_
   refine cw_region ?_
   refine rw_ev (ev_move rfl) rfl rfl rfl ?_
   refine rw_op (op_fn (xs := [.tmp 71]) ent_57 rfl (c_cof w153 v (rawMap raw i) (Sl.below f6.sl) (by (try simp only [List.length_append, List.length_map, List.length_take, List.length_drop, List.length_nil]); omega))) rfl rfl rfl ?_
   rintro _ w157 ⟨u156, rfl, k158, sl159⟩
   replace K0 := Ex.trans K0 k158
   replace f5 := f5.ex k158
   replace f6 := f6.ex k158
   replace sl141 := sl141.ex k158
   replace sl143 := sl143.ex k158
   replace ow155 := ow155.ex k158
   have zw157 := k158.size
   refine rw_ev (ev_move rfl) rfl rfl rfl ?_
   refine rw_ev (ev_extract rfl rfl) rfl rfl rfl ?_
   refine rw_ev (ev_extract rfl rfl) rfl rfl rfl ?_
   refine rw_ev (ev_assign rfl) rfl rfl rfl ?_
   refine rw_ev (ev_assign rfl) rfl rfl rfl ?_
   refine rw_nil ?_
   refine nw_seq ?_
   refine cw_seq ?_
   refine cw_region ?_
   refine rw_ev (ev_move rfl) rfl rfl rfl ?_
   refine rw_op (op_fn (xs := [.tmp 76]) ent_57 rfl (c_cof w157 v152 ((([] ++ (((rawMap raw i).take ((rawMap raw i).length)).drop ((pickI at_ (((rawMap raw i).length : Int) + 1)).toNat))) ++ (rawMap raw i)) ++ (((rawMap raw i).take ((pickI at_ (((rawMap raw i).length : Int) + 1)).toNat)).drop 0)) (Sl.below ow155.sl) (by (try simp only [List.length_append, List.length_map, List.length_take, List.length_drop, List.length_nil]); omega))) rfl rfl rfl ?_
   rintro _ w161 ⟨u160, rfl, k162, sl163⟩
   replace K0 := Ex.trans K0 k162
   replace f5 := f5.ex k162
   replace f6 := f6.ex k162
   replace sl141 := sl141.ex k162
   replace sl143 := sl143.ex k162
   replace ow155 := ow155.ex k162
   replace sl159 := sl159.ex k162
   have zw161 := k162.size
   refine rw_ev (ev_move rfl) rfl rfl rfl ?_
   refine rw_ev (ev_extract (vs := #[u160, .int .i64 ((ofC ((([] ++ (((rawMap raw i).take ((rawMap raw i).length)).drop ((pickI at_ (((rawMap raw i).length : Int) + 1)).toNat))) ++ (rawMap raw i)) ++ (((rawMap raw i).take ((pickI at_ (((rawMap raw i).length : Int) + 1)).toNat)).drop 0))).2)]) rfl rfl) rfl rfl rfl ?_
   refine rw_ev (ev_extract (vs := #[u160, .int .i64 ((ofC ((([] ++ (((rawMap raw i).take ((rawMap raw i).length)).drop ((pickI at_ (((rawMap raw i).length : Int) + 1)).toNat))) ++ (rawMap raw i)) ++ (((rawMap raw i).take ((pickI at_ (((rawMap raw i).length : Int) + 1)).toNat)).drop 0))).2)]) rfl rfl) rfl rfl rfl ?_
   refine rw_ev (ev_assign rfl) rfl rfl rfl ?_
   refine rw_ev (ev_assign rfl) rfl rfl rfl ?_
   refine rw_nil ?_
   refine nw_seq ?_
   refine cw_seq ?_
   refine cw_region ?_
   refine rw_ev (ev_move rfl) rfl rfl rfl ?_
   refine rw_op (op_fn (xs := [.tmp 80, .const (.int .i64 16)]) ent_60 rfl (c_pick60 w161 x (16 : Int) (by omega) (by omega))) rfl rfl rfl ?_
   rintro _ w164 ⟨rfl, k165, pr166⟩
   replace K0 := Ex.trans K0 k165
   replace f5 := f5.ex k165
   replace f6 := f6.ex k165
   replace sl141 := sl141.ex k165
   replace sl143 := sl143.ex k165
   replace ow155 := ow155.ex k165
   replace sl159 := sl159.ex k165
   replace sl163 := sl163.ex k165
   have zw164 := k165.size
   refine rw_ev (ev_sub rfl rfl (by omega)) rfl rfl rfl ?_
   refine rw_ev (ev_move rfl) rfl rfl rfl ?_
   refine rw_op (op_fn (xs := [.tmp 83, .const (.int .i64 16)]) ent_60 rfl (c_pick60 w164 y (16 : Int) (by omega) (by omega))) rfl rfl rfl ?_
   rintro _ w167 ⟨rfl, k168, pr169⟩
   replace K0 := Ex.trans K0 k168
   replace f5 := f5.ex k168
   replace f6 := f6.ex k168
   replace sl141 := sl141.ex k168
   replace sl143 := sl143.ex k168
   replace ow155 := ow155.ex k168
   replace sl159 := sl159.ex k168
   replace sl163 := sl163.ex k168
   have zw167 := k168.size
   refine rw_ev (ev_sub rfl rfl (by omega)) rfl rfl rfl ?_
   refine rw_ev (v := .agg #[.int .i64 ((pickI x (16 : Int)) - 8), .int .i64 ((pickI y (16 : Int)) - 8)]) (ev_pure rfl rfl (fun _ => by kernel_rfl)) rfl rfl rfl ?_
   refine rw_op (op_alloc zero_55) rfl rfl rfl ?_
   rintro _ w171 ⟨g170, rfl, hg172, k173, b174⟩
   have rw175 : ∀ b, (v : Value).ownBlock = some b → b < g170 := fun b h => Nat.lt_of_lt_of_le (f6.lt b h).2 hg172
   have rw176 : ∀ b, (v152 : Value).ownBlock = some b → b < g170 := fun b h => Nat.lt_of_lt_of_le (ow155.lt b h).2 hg172
   replace K0 := Ex.trans K0 k173
   replace f5 := f5.ex k173
   replace f6 := f6.ex k173
   replace sl141 := sl141.ex k173
   replace sl143 := sl143.ex k173
   replace ow155 := ow155.ex k173
   replace sl159 := sl159.ex k173
   replace sl163 := sl163.ex k173
   have zw171 := k173.size
   have lg170 := b174.lt
   refine rw_none (op_store (off := 0) (v := .agg #[.int .i64 ((pickI x (16 : Int)) - 8), .int .i64 ((pickI y (16 : Int)) - 8)]) (cs' := #[.int .i64 ((pickI x (16 : Int)) - 8), .int .i64 ((pickI y (16 : Int)) - 8)]) b174 rfl rfl size_55 rfl (Nat.le_of_ble_eq_true rfl) (one_cons rfl (one_cons rfl one_nil)) rfl) rfl rfl ?_
   rintro _ w177 ⟨k178, b179⟩
   replace K0 := Ex.kp_new K0 k178 (fun _ h => h ▸ Nat.le_trans (Nat.le_trans zw1 (Nat.le_trans z4 (Nat.le_trans zw135 (Nat.le_trans zw138 (Nat.le_trans zw145 (Nat.le_trans zw149 (Nat.le_trans zw153 (Nat.le_trans zw157 (Nat.le_trans zw161 (Nat.le_trans zw164 zw167)))))))))) hg172)
   replace f5 := f5.kp k178 (fun b h e => Nat.lt_irrefl _ (Nat.lt_of_lt_of_le (show g170 < _ from e ▸ (show b < _ from h)) (Nat.le_trans (Nat.le_trans zw1 (Nat.le_trans z4 (Nat.le_trans zw135 (Nat.le_trans zw138 (Nat.le_trans zw145 (Nat.le_trans zw149 (Nat.le_trans zw153 (Nat.le_trans zw157 (Nat.le_trans zw161 (Nat.le_trans zw164 zw167)))))))))) hg172)))
   replace f6 := f6.kp k178 (fun b h e => Nat.lt_irrefl _ (show b < b from by have := rw175 b h; omega))
   replace sl141 := sl141.kp k178 (fun b h e => Nat.lt_irrefl _ (Nat.lt_of_lt_of_le (show g170 < _ from e ▸ (show b < _ from h.2)) (Nat.le_trans (Nat.le_trans zw145 (Nat.le_trans zw149 (Nat.le_trans zw153 (Nat.le_trans zw157 (Nat.le_trans zw161 (Nat.le_trans zw164 zw167)))))) hg172)))
   replace sl143 := sl143.kp k178 (fun b h e => Nat.lt_irrefl _ (Nat.lt_of_lt_of_le (show g170 < _ from e ▸ (show b < _ from h.2)) (Nat.le_trans (Nat.le_trans zw145 (Nat.le_trans zw149 (Nat.le_trans zw153 (Nat.le_trans zw157 (Nat.le_trans zw161 (Nat.le_trans zw164 zw167)))))) hg172)))
   replace ow155 := ow155.kp k178 (fun b h e => Nat.lt_irrefl _ (show b < b from by have := rw176 b h; omega))
   replace sl159 := sl159.kp k178 (fun b h e => Nat.lt_irrefl _ (Nat.lt_of_lt_of_le (show g170 < _ from e ▸ (show b < _ from h.2)) (Nat.le_trans (Nat.le_trans zw161 (Nat.le_trans zw164 zw167)) hg172)))
   replace sl163 := sl163.kp k178 (fun b h e => Nat.lt_irrefl _ (Nat.lt_of_lt_of_le (show g170 < _ from e ▸ (show b < _ from h.2)) (Nat.le_trans (Nat.le_trans zw164 zw167) hg172)))
   have zw177 := k178.size
   refine rw_nil ?_
   refine nw_seq ?_
   refine cw_seq ?_
   refine cw_region ?_
   refine rw_ev (ev_move rfl) rfl rfl rfl ?_
   refine rw_ev (v := .agg #[.int .i64 ((pickI x (16 : Int)) - 8), .int .i64 ((pickI y (16 : Int)) - 8)]) (ev_lbk (off := 0) (vs := [.int .i64 ((pickI x (16 : Int)) - 8), .int .i64 ((pickI y (16 : Int)) - 8)]) (fun _ h => h ▸ b179) rfl agg_55 rfl rfl) rfl rfl rfl ?_
   refine rw_op (op_fn (xs := [.tmp 88, .tmp 89, .const (.bool true)]) ent_61 rfl (c_cwith w177 u156 ((ofC (rawMap raw i)).1) (Sl.below sl159) ((pickI x (16 : Int)) - 8, (pickI y (16 : Int)) - 8) true)) rfl rfl rfl ?_
   rintro _ w181 ⟨u180, rfl, k182, sl183⟩
   replace K0 := Ex.trans K0 k182
   replace f5 := f5.ex k182
   replace f6 := f6.ex k182
   replace sl141 := sl141.ex k182
   replace sl143 := sl143.ex k182
   replace ow155 := ow155.ex k182
   replace sl159 := sl159.ex k182
   replace sl163 := sl163.ex k182
   replace b179 := b179.ex k182
   have zw181 := k182.size
   refine rw_ev (ev_move rfl) rfl rfl rfl ?_
   refine rw_ev (ev_extract (vs := #[u180, .int .i64 ((withC ((ofC (rawMap raw i)).1) ((pickI x (16 : Int)) - 8, (pickI y (16 : Int)) - 8) true).2)]) rfl rfl) rfl rfl rfl ?_
   refine rw_ev (ev_extract (vs := #[u180, .int .i64 ((withC ((ofC (rawMap raw i)).1) ((pickI x (16 : Int)) - 8, (pickI y (16 : Int)) - 8) true).2)]) rfl rfl) rfl rfl rfl ?_
   refine rw_ev (ev_assign rfl) rfl rfl rfl ?_
   refine rw_ev (ev_assign rfl) rfl rfl rfl ?_
   refine rw_nil ?_
   refine nw_seq ?_
   refine cw_seq ?_
   refine cw_region ?_
   refine rw_ev (ev_move rfl) rfl rfl rfl ?_
   refine rw_ev (v := .agg #[.int .i64 ((pickI x (16 : Int)) - 8), .int .i64 ((pickI y (16 : Int)) - 8)]) (ev_lbk (off := 0) (vs := [.int .i64 ((pickI x (16 : Int)) - 8), .int .i64 ((pickI y (16 : Int)) - 8)]) (fun _ h => h ▸ b179) rfl agg_55 rfl rfl) rfl rfl rfl ?_
   refine rw_op (op_fn (xs := [.tmp 94, .tmp 95, .const (.bool false)]) ent_61 rfl (c_cwith w181 u180 ((withC ((ofC (rawMap raw i)).1) ((pickI x (16 : Int)) - 8, (pickI y (16 : Int)) - 8) true).1) (Sl.below sl183) ((pickI x (16 : Int)) - 8, (pickI y (16 : Int)) - 8) false)) rfl rfl rfl ?_
   rintro _ w185 ⟨u184, rfl, k186, sl187⟩
   replace K0 := Ex.trans K0 k186
   replace f5 := f5.ex k186
   replace f6 := f6.ex k186
   replace sl141 := sl141.ex k186
   replace sl143 := sl143.ex k186
   replace ow155 := ow155.ex k186
   replace sl159 := sl159.ex k186
   replace sl163 := sl163.ex k186
   replace b179 := b179.ex k186
   replace sl183 := sl183.ex k186
   have zw185 := k186.size
   refine rw_ev (ev_move rfl) rfl rfl rfl ?_
   refine rw_ev (ev_extract (vs := #[u184, .int .i64 ((withC ((withC ((ofC (rawMap raw i)).1) ((pickI x (16 : Int)) - 8, (pickI y (16 : Int)) - 8) true).1) ((pickI x (16 : Int)) - 8, (pickI y (16 : Int)) - 8) false).2)]) rfl rfl) rfl rfl rfl ?_
   refine rw_ev (ev_extract (vs := #[u184, .int .i64 ((withC ((withC ((ofC (rawMap raw i)).1) ((pickI x (16 : Int)) - 8, (pickI y (16 : Int)) - 8) true).1) ((pickI x (16 : Int)) - 8, (pickI y (16 : Int)) - 8) false).2)]) rfl rfl) rfl rfl rfl ?_
   refine rw_ev (ev_assign rfl) rfl rfl rfl ?_
   refine rw_ev (ev_assign rfl) rfl rfl rfl ?_
   refine rw_nil ?_
   refine nw_seq ?_
   refine cw_seq ?_
   refine cw_region ?_
   refine rw_ev (ev_move rfl) rfl rfl rfl ?_
   refine rw_ev (v := .agg #[.int .i64 ((pickI x (16 : Int)) - 8), .int .i64 ((pickI y (16 : Int)) - 8)]) (ev_lbk (off := 0) (vs := [.int .i64 ((pickI x (16 : Int)) - 8), .int .i64 ((pickI y (16 : Int)) - 8)]) (fun _ h => h ▸ b179) rfl agg_55 rfl rfl) rfl rfl rfl ?_
   refine rw_op (op_fn (xs := [.tmp 100, .tmp 101, .const (.bool false)]) ent_61 rfl (c_cwith w185 u156 ((ofC (rawMap raw i)).1) (Sl.below sl159) ((pickI x (16 : Int)) - 8, (pickI y (16 : Int)) - 8) false)) rfl rfl rfl ?_
   rintro _ w189 ⟨u188, rfl, k190, sl191⟩
   replace K0 := Ex.trans K0 k190
   replace f5 := f5.ex k190
   replace f6 := f6.ex k190
   replace sl141 := sl141.ex k190
   replace sl143 := sl143.ex k190
   replace ow155 := ow155.ex k190
   replace sl159 := sl159.ex k190
   replace sl163 := sl163.ex k190
   replace b179 := b179.ex k190
   replace sl183 := sl183.ex k190
   replace sl187 := sl187.ex k190
   have zw189 := k190.size
   refine rw_ev (ev_move rfl) rfl rfl rfl ?_
   refine rw_ev (ev_extract (vs := #[u188, .int .i64 ((withC ((ofC (rawMap raw i)).1) ((pickI x (16 : Int)) - 8, (pickI y (16 : Int)) - 8) false).2)]) rfl rfl) rfl rfl rfl ?_
   refine rw_ev (ev_extract (vs := #[u188, .int .i64 ((withC ((ofC (rawMap raw i)).1) ((pickI x (16 : Int)) - 8, (pickI y (16 : Int)) - 8) false).2)]) rfl rfl) rfl rfl rfl ?_
   refine rw_ev (ev_assign rfl) rfl rfl rfl ?_
   refine rw_ev (ev_assign rfl) rfl rfl rfl ?_
   refine rw_nil ?_
   refine nw_seq ?_
   refine cw_seq ?_
   refine cw_seq ?_
   refine cw_region ?_
   refine rw_ev (ev_move rfl) rfl rfl rfl ?_
   refine rw_ev (ev_ne rfl rfl) rfl rfl rfl ?_
   refine rw_ev (ev_move rfl) rfl rfl rfl ?_
   obtain ⟨⟨hE1_, hE2_, hE3_, hE4_, hE5_⟩, ⟨hR1_, hR2_, hR3_⟩, hH_, hF1_, hF2_, hF3_⟩ := sets_law (l := (rawMap raw i)) (t := ((([] ++ (((rawMap raw i).take ((rawMap raw i).length)).drop ((pickI at_ (((rawMap raw i).length : Int) + 1)).toNat))) ++ (rawMap raw i)) ++ (((rawMap raw i).take ((pickI at_ (((rawMap raw i).length : Int) + 1)).toNat)).drop 0))) (c := (pickI x 16 - 8, pickI y 16 - 8))
     rawMap_in (by assumption) (rawSet_in (x, y)) (turned_mem _ _ _)
     (by simp only [List.length_append, List.length_map, List.length_take, List.length_drop, List.length_nil]; omega)
   have hO_ : (ofC (rawMap raw i)).1.length ≤ 60 := by rw [hE1_]; exact Nat.le_trans (toSet_len _) (by assumption)
   refine rw_ev (ev_move rfl) (gd_ff rfl (dec_f (by exact fun h_ => h_ (by simp only [hE1_, hE2_, hE3_, hE4_, hE5_])))) rfl rfl ?_
   refine rw_ev (ev_ne (p := (ofC ((([] ++ (((rawMap raw i).take ((rawMap raw i).length)).drop ((pickI at_ (((rawMap raw i).length : Int) + 1)).toNat))) ++ (rawMap raw i)) ++ (((rawMap raw i).take ((pickI at_ (((rawMap raw i).length : Int) + 1)).toNat)).drop 0))).2) (q := 0) rfl rfl) (gd_ff rfl (dec_f (by exact fun h_ => h_ (by simp only [hE1_, hE2_, hE3_, hE4_, hE5_])))) rfl rfl ?_
   refine rw_ev (ev_pk_f rfl (dec_f (by exact fun h_ => h_ (by simp only [hE1_, hE2_, hE3_, hE4_, hE5_]))) rfl) rfl rfl rfl ?_
   refine rw_ev (ev_move rfl) rfl rfl rfl ?_
   refine rw_ev (ev_move rfl) (gd_ff rfl (dec_f (by exact fun h_ => h_ (by simp only [hE1_, hE2_, hE3_, hE4_, hE5_])))) rfl rfl ?_
   refine rw_ev (ev_ne rfl rfl) (gd_ff rfl (dec_f (by exact fun h_ => h_ (by simp only [hE1_, hE2_, hE3_, hE4_, hE5_])))) rfl rfl ?_
   refine rw_ev (ev_pk_f (b := decide (((ofC ((([] ++ (((rawMap raw i).take ((rawMap raw i).length)).drop ((pickI at_ (((rawMap raw i).length : Int) + 1)).toNat))) ++ (rawMap raw i)) ++ (((rawMap raw i).take ((pickI at_ (((rawMap raw i).length : Int) + 1)).toNat)).drop 0))).2) ≠ 0)) rfl (dec_f (by exact fun h_ => h_ (by simp only [hE1_, hE2_, hE3_, hE4_, hE5_]))) rfl) rfl rfl rfl ?_
   refine rw_ev (ev_move rfl) rfl rfl rfl ?_
   refine rw_ev (ev_move rfl) (gd_ff rfl (dec_f (by exact fun h_ => h_ (by simp only [hE1_, hE2_, hE3_, hE4_, hE5_])))) rfl rfl ?_
   refine rw_ev (ev_ne (p := (withC ((withC ((ofC (rawMap raw i)).1) ((pickI x (16 : Int)) - 8, (pickI y (16 : Int)) - 8) true).1) ((pickI x (16 : Int)) - 8, (pickI y (16 : Int)) - 8) false).2) (q := 0) rfl rfl) (gd_ff rfl (dec_f (by exact fun h_ => h_ (by simp only [hE1_, hE2_, hE3_, hE4_, hE5_])))) rfl rfl ?_
   refine rw_ev (ev_pk_f (b := decide (((withC ((ofC (rawMap raw i)).1) ((pickI x (16 : Int)) - 8, (pickI y (16 : Int)) - 8) true).2) ≠ 0)) rfl (dec_f (by exact fun h_ => h_ (by simp only [hE1_, hE2_, hE3_, hE4_, hE5_]))) rfl) rfl rfl rfl ?_
   refine rw_ev (ev_move rfl) rfl rfl rfl ?_
   refine rw_ev (ev_move rfl) (gd_ff rfl (dec_f (by exact fun h_ => h_ (by simp only [hE1_, hE2_, hE3_, hE4_, hE5_])))) rfl rfl ?_
   refine rw_ev (ev_ne rfl rfl) (gd_ff rfl (dec_f (by exact fun h_ => h_ (by simp only [hE1_, hE2_, hE3_, hE4_, hE5_])))) rfl rfl ?_
   refine rw_ev (ev_pk_f (b := decide (((withC ((withC ((ofC (rawMap raw i)).1) ((pickI x (16 : Int)) - 8, (pickI y (16 : Int)) - 8) true).1) ((pickI x (16 : Int)) - 8, (pickI y (16 : Int)) - 8) false).2) ≠ 0)) rfl (dec_f (by exact fun h_ => h_ (by simp only [hE1_, hE2_, hE3_, hE4_, hE5_]))) rfl) rfl rfl rfl ?_
   refine rw_ev (ev_move rfl) rfl rfl rfl ?_
   refine rw_ev (ev_move rfl) (gd_ff rfl (dec_f (by exact fun h_ => h_ (by simp only [hE1_, hE2_, hE3_, hE4_, hE5_])))) rfl rfl ?_
   refine rw_ev (ev_move rfl) (gd_ff rfl (dec_f (by exact fun h_ => h_ (by simp only [hE1_, hE2_, hE3_, hE4_, hE5_])))) rfl rfl ?_
   refine rw_op (op_fn (xs := [.tmp 124, .tmp 125]) ent_37 rfl (c_same w189 u156 ((ofC (rawMap raw i)).1) (Sl.below sl159) u160 ((ofC ((([] ++ (((rawMap raw i).take ((rawMap raw i).length)).drop ((pickI at_ (((rawMap raw i).length : Int) + 1)).toNat))) ++ (rawMap raw i)) ++ (((rawMap raw i).take ((pickI at_ (((rawMap raw i).length : Int) + 1)).toNat)).drop 0))).1) (Sl.below sl163))) (gd_ff rfl (dec_f (by exact fun h_ => h_ (by simp only [hE1_, hE2_, hE3_, hE4_, hE5_])))) rfl rfl ?_
   rintro _ w192 ⟨rfl, k193⟩
   replace K0 := Ex.trans K0 k193
   replace f5 := f5.ex k193
   replace f6 := f6.ex k193
   replace sl141 := sl141.ex k193
   replace sl143 := sl143.ex k193
   replace ow155 := ow155.ex k193
   replace sl159 := sl159.ex k193
   replace sl163 := sl163.ex k193
   replace b179 := b179.ex k193
   replace sl183 := sl183.ex k193
   replace sl187 := sl187.ex k193
   replace sl191 := sl191.ex k193
   have zw192 := k193.size
   refine rw_ev (ev_not (b := sameC ((ofC (rawMap raw i)).1) ((ofC ((([] ++ (((rawMap raw i).take ((rawMap raw i).length)).drop ((pickI at_ (((rawMap raw i).length : Int) + 1)).toNat))) ++ (rawMap raw i)) ++ (((rawMap raw i).take ((pickI at_ (((rawMap raw i).length : Int) + 1)).toNat)).drop 0))).1)) rfl rfl) (gd_ff rfl (dec_f (by exact fun h_ => h_ (by simp only [hE1_, hE2_, hE3_, hE4_, hE5_])))) rfl rfl ?_
   refine rw_ev (ev_pk_f (b := decide (((withC ((ofC (rawMap raw i)).1) ((pickI x (16 : Int)) - 8, (pickI y (16 : Int)) - 8) false).2) ≠ 0)) rfl (dec_f (by exact fun h_ => h_ (by simp only [hE1_, hE2_, hE3_, hE4_, hE5_]))) rfl) rfl rfl rfl ?_
   refine rw_ev (ev_move rfl) rfl rfl rfl ?_
   refine rw_ev (ev_move rfl) (gd_ff rfl (not_f (by simp only [hE1_, hE2_, hE3_, hE4_, hE5_]; exact same_self _))) rfl rfl ?_
   refine rw_ev (ev_move rfl) (gd_ff rfl (not_f (by simp only [hE1_, hE2_, hE3_, hE4_, hE5_]; exact same_self _))) rfl rfl ?_
   refine rw_op (op_fn (xs := [.tmp 130, .tmp 131]) ent_37 rfl (c_same w192 u184 ((withC ((withC ((ofC (rawMap raw i)).1) ((pickI x (16 : Int)) - 8, (pickI y (16 : Int)) - 8) true).1) ((pickI x (16 : Int)) - 8, (pickI y (16 : Int)) - 8) false).1) (Sl.below sl187) u188 ((withC ((ofC (rawMap raw i)).1) ((pickI x (16 : Int)) - 8, (pickI y (16 : Int)) - 8) false).1) (Sl.below sl191))) (gd_ff rfl (not_f (by simp only [hE1_, hE2_, hE3_, hE4_, hE5_]; exact same_self _))) rfl rfl ?_
   rintro _ w194 ⟨rfl, k195⟩
   replace K0 := Ex.trans K0 k195
   replace f5 := f5.ex k195
   replace f6 := f6.ex k195
   replace sl141 := sl141.ex k195
   replace sl143 := sl143.ex k195
   replace ow155 := ow155.ex k195
   replace sl159 := sl159.ex k195
   replace sl163 := sl163.ex k195
   replace b179 := b179.ex k195
   replace sl183 := sl183.ex k195
   replace sl187 := sl187.ex k195
   replace sl191 := sl191.ex k195
   have zw194 := k195.size
   refine rw_ev (ev_not (b := sameC ((withC ((withC ((ofC (rawMap raw i)).1) ((pickI x (16 : Int)) - 8, (pickI y (16 : Int)) - 8) true).1) ((pickI x (16 : Int)) - 8, (pickI y (16 : Int)) - 8) false).1) ((withC ((ofC (rawMap raw i)).1) ((pickI x (16 : Int)) - 8, (pickI y (16 : Int)) - 8) false).1)) rfl rfl) (gd_ff rfl (not_f (by simp only [hE1_, hE2_, hE3_, hE4_, hE5_]; exact same_self _))) rfl rfl ?_
   refine rw_ev (ev_pk_f (b := !(sameC ((ofC (rawMap raw i)).1) ((ofC ((([] ++ (((rawMap raw i).take ((rawMap raw i).length)).drop ((pickI at_ (((rawMap raw i).length : Int) + 1)).toNat))) ++ (rawMap raw i)) ++ (((rawMap raw i).take ((pickI at_ (((rawMap raw i).length : Int) + 1)).toNat)).drop 0))).1))) rfl (not_f (by simp only [hE1_, hE2_, hE3_, hE4_, hE5_]; exact same_self _)) rfl) rfl rfl rfl ?_
   refine rw_ev (ev_move rfl) rfl rfl rfl ?_
   refine rw_ev (ev_move rfl) (gd_ff rfl (not_f (by simp only [hE1_, hE2_, hE3_, hE4_, hE5_]; exact same_self _))) rfl rfl ?_
   refine rw_op (op_fn (xs := [.tmp 136]) ent_58 rfl (c_cright w194 u156 ((ofC (rawMap raw i)).1) (Sl.below sl159))) (gd_ff rfl (not_f (by simp only [hE1_, hE2_, hE3_, hE4_, hE5_]; exact same_self _))) rfl rfl ?_
   rintro _ w196 ⟨rfl, k197⟩
   replace K0 := Ex.trans K0 k197
   replace f5 := f5.ex k197
   replace f6 := f6.ex k197
   replace sl141 := sl141.ex k197
   replace sl143 := sl143.ex k197
   replace ow155 := ow155.ex k197
   replace sl159 := sl159.ex k197
   replace sl163 := sl163.ex k197
   replace b179 := b179.ex k197
   replace sl183 := sl183.ex k197
   replace sl187 := sl187.ex k197
   replace sl191 := sl191.ex k197
   have zw196 := k197.size
   refine rw_ev (ev_not rfl rfl) (gd_ff rfl (not_f (by simp only [hE1_, hE2_, hE3_, hE4_, hE5_]; exact same_self _))) rfl rfl ?_
   refine rw_ev (ev_pk_f (b := !(sameC ((withC ((withC ((ofC (rawMap raw i)).1) ((pickI x (16 : Int)) - 8, (pickI y (16 : Int)) - 8) true).1) ((pickI x (16 : Int)) - 8, (pickI y (16 : Int)) - 8) false).1) ((withC ((ofC (rawMap raw i)).1) ((pickI x (16 : Int)) - 8, (pickI y (16 : Int)) - 8) false).1))) rfl (not_f (by simp only [hE1_, hE2_, hE3_, hE4_, hE5_]; exact same_self _)) rfl) rfl rfl rfl ?_
   refine rw_ev (ev_move rfl) rfl rfl rfl ?_
   refine rw_ev (ev_move rfl) (gd_ff rfl (not_f (by simp only [hE1_, hE2_, hE3_, hE4_, hE5_]; first | exact hR1_ | exact hR2_ | exact hR3_))) rfl rfl ?_
   refine rw_op (op_fn (xs := [.tmp 141]) ent_58 rfl (c_cright w196 u180 ((withC ((ofC (rawMap raw i)).1) ((pickI x (16 : Int)) - 8, (pickI y (16 : Int)) - 8) true).1) (Sl.below sl183))) (gd_ff rfl (not_f (by simp only [hE1_, hE2_, hE3_, hE4_, hE5_]; first | exact hR1_ | exact hR2_ | exact hR3_))) rfl rfl ?_
   rintro _ w198 ⟨rfl, k199⟩
   replace K0 := Ex.trans K0 k199
   replace f5 := f5.ex k199
   replace f6 := f6.ex k199
   replace sl141 := sl141.ex k199
   replace sl143 := sl143.ex k199
   replace ow155 := ow155.ex k199
   replace sl159 := sl159.ex k199
   replace sl163 := sl163.ex k199
   replace b179 := b179.ex k199
   replace sl183 := sl183.ex k199
   replace sl187 := sl187.ex k199
   replace sl191 := sl191.ex k199
   have zw198 := k199.size
   refine rw_ev (ev_not (b := rightC ((withC ((ofC (rawMap raw i)).1) ((pickI x (16 : Int)) - 8, (pickI y (16 : Int)) - 8) true).1)) rfl rfl) (gd_ff rfl (not_f (by simp only [hE1_, hE2_, hE3_, hE4_, hE5_]; first | exact hR1_ | exact hR2_ | exact hR3_))) rfl rfl ?_
   refine rw_ev (ev_pk_f rfl (not_f (by simp only [hE1_, hE2_, hE3_, hE4_, hE5_]; first | exact hR1_ | exact hR2_ | exact hR3_)) rfl) rfl rfl rfl ?_
   refine rw_ev (ev_move rfl) rfl rfl rfl ?_
   refine rw_ev (ev_move rfl) (gd_ff rfl (not_f (by simp only [hE1_, hE2_, hE3_, hE4_, hE5_]; first | exact hR1_ | exact hR2_ | exact hR3_))) rfl rfl ?_
   refine rw_op (op_fn (xs := [.tmp 146]) ent_58 rfl (c_cright w198 u188 ((withC ((ofC (rawMap raw i)).1) ((pickI x (16 : Int)) - 8, (pickI y (16 : Int)) - 8) false).1) (Sl.below sl191))) (gd_ff rfl (not_f (by simp only [hE1_, hE2_, hE3_, hE4_, hE5_]; first | exact hR1_ | exact hR2_ | exact hR3_))) rfl rfl ?_
   rintro _ w200 ⟨rfl, k201⟩
   replace K0 := Ex.trans K0 k201
   replace f5 := f5.ex k201
   replace f6 := f6.ex k201
   replace sl141 := sl141.ex k201
   replace sl143 := sl143.ex k201
   replace ow155 := ow155.ex k201
   replace sl159 := sl159.ex k201
   replace sl163 := sl163.ex k201
   replace b179 := b179.ex k201
   replace sl183 := sl183.ex k201
   replace sl187 := sl187.ex k201
   replace sl191 := sl191.ex k201
   have zw200 := k201.size
   refine rw_ev (ev_not (b := rightC ((withC ((ofC (rawMap raw i)).1) ((pickI x (16 : Int)) - 8, (pickI y (16 : Int)) - 8) false).1)) rfl rfl) (gd_ff rfl (not_f (by simp only [hE1_, hE2_, hE3_, hE4_, hE5_]; first | exact hR1_ | exact hR2_ | exact hR3_))) rfl rfl ?_
   refine rw_ev (ev_pk_f (b := !(rightC ((withC ((ofC (rawMap raw i)).1) ((pickI x (16 : Int)) - 8, (pickI y (16 : Int)) - 8) true).1))) rfl (not_f (by simp only [hE1_, hE2_, hE3_, hE4_, hE5_]; first | exact hR1_ | exact hR2_ | exact hR3_)) rfl) rfl rfl rfl ?_
   refine rw_nil ?_
   refine nw_seq ?_
   refine cw_f (b := !(rightC ((withC ((ofC (rawMap raw i)).1) ((pickI x (16 : Int)) - 8, (pickI y (16 : Int)) - 8) false).1))) rfl (not_f (by simp only [hE1_, hE2_, hE3_, hE4_, hE5_]; first | exact hR1_ | exact hR2_ | exact hR3_)) ?_
   refine cw_skip ?_
   refine nw_seq ?_
   refine cw_seq ?_
   refine cw_seq ?_
   refine cw_region ?_
   refine rw_ev (ev_assign rfl) rfl rfl rfl ?_
   refine rw_nil ?_
   refine nw_seq ?_
   refine cw_block ?_
   refine cw_loop (σ := Nat) (fun j => [(8, .bool false), (9, .bool true), (10, v), (14, u156), (18, .pointer (some ⟨g170, 0, none⟩)), (19, u180), (23, u188), (25, .int .i64 (j : Int))]) (fun j wr => Ex w wr ∧ w200.heap.size ≤ wr.heap.size ∧ Sl wr (fun b => b < w.heap.size) rv 2 (raw.map encC) ∧ Ow wr w1.heap.size 55 v 2 ((rawMap raw i).map encC) ∧ Sl wr (fun b => w1.heap.size ≤ b ∧ b < w138.heap.size) (subSl v ((pickI at_ (((rawMap raw i).length : Int) + 1)).toNat) ((rawMap raw i).length) 2) 2 ((((rawMap raw i).take ((rawMap raw i).length)).drop ((pickI at_ (((rawMap raw i).length : Int) + 1)).toNat)).map encC) ∧ Sl wr (fun b => w1.heap.size ≤ b ∧ b < w138.heap.size) (subSl v 0 ((pickI at_ (((rawMap raw i).length : Int) + 1)).toNat) 2) 2 ((((rawMap raw i).take ((pickI at_ (((rawMap raw i).length : Int) + 1)).toNat)).drop 0).map encC) ∧ Ow wr w138.heap.size 55 v152 2 (((([] ++ (((rawMap raw i).take ((rawMap raw i).length)).drop ((pickI at_ (((rawMap raw i).length : Int) + 1)).toNat))) ++ (rawMap raw i)) ++ (((rawMap raw i).take ((pickI at_ (((rawMap raw i).length : Int) + 1)).toNat)).drop 0)).map encC) ∧ Sl wr (fun b => w153.heap.size ≤ b ∧ b < w157.heap.size) u156 2 (((ofC (rawMap raw i)).1).map encC) ∧ Sl wr (fun b => w157.heap.size ≤ b ∧ b < w161.heap.size) u160 2 (((ofC ((([] ++ (((rawMap raw i).take ((rawMap raw i).length)).drop ((pickI at_ (((rawMap raw i).length : Int) + 1)).toNat))) ++ (rawMap raw i)) ++ (((rawMap raw i).take ((pickI at_ (((rawMap raw i).length : Int) + 1)).toNat)).drop 0))).1).map encC) ∧ Bx wr g170 55 #[.int .i64 ((pickI x (16 : Int)) - 8), .int .i64 ((pickI y (16 : Int)) - 8)] ∧ Sl wr (fun b => w177.heap.size ≤ b ∧ b < w181.heap.size) u180 2 (((withC ((ofC (rawMap raw i)).1) ((pickI x (16 : Int)) - 8, (pickI y (16 : Int)) - 8) true).1).map encC) ∧ Sl wr (fun b => w181.heap.size ≤ b ∧ b < w185.heap.size) u184 2 (((withC ((withC ((ofC (rawMap raw i)).1) ((pickI x (16 : Int)) - 8, (pickI y (16 : Int)) - 8) true).1) ((pickI x (16 : Int)) - 8, (pickI y (16 : Int)) - 8) false).1).map encC) ∧ Sl wr (fun b => w185.heap.size ≤ b ∧ b < w189.heap.size) u188 2 (((withC ((ofC (rawMap raw i)).1) ((pickI x (16 : Int)) - 8, (pickI y (16 : Int)) - 8) false).1).map encC) ∧ j ≤ (rawMap raw i).length) (fun j => (rawMap raw i).length - j) 0 (Sub.cons rfl (Sub.cons rfl (Sub.cons rfl (Sub.cons rfl (Sub.cons rfl (Sub.cons rfl (Sub.cons rfl (Sub.int (b := (0 : Int)) rfl (by omega) Sub.nil)))))))) ⟨K0, (Nat.le_refl _), f5, f6, sl141, sl143, ow155, sl159, sl163, b179, sl183, sl187, sl191, (by omega)⟩ ?_
   rintro j w202 ⟨K0, z203, f204, f205, f206, f207, f208, f209, f210, f211, f212, f213, f214, pr215⟩
   show CW _ _ _ _ _ _ [(8, .bool false), (9, .bool true), (10, v), (14, u156), (18, .pointer (some ⟨g170, 0, none⟩)), (19, u180), (23, u188), (25, .int .i64 (j : Int))] _
   refine cw_seq ?_
   refine cw_seq ?_
   refine cw_region ?_
   refine rw_ev (ev_move rfl) rfl rfl rfl ?_
   refine rw_ev (ev_move rfl) rfl rfl rfl ?_
   refine rw_ev (v := .int .i64 ((rawMap raw i).length : Int)) (ev_lenm (l := (rawMap raw i)) ⟨_, f205.sl⟩ rfl el_46 rfl) rfl rfl rfl ?_
   refine rw_ev (ev_lss rfl rfl) rfl rfl rfl ?_
   refine rw_nil ?_
   refine nw_seq ?_
   by_cases h216 : (j : Int) < ((rawMap raw i).length : Int)
   ·
    refine cw_t (b := decide ((j : Int) < ((rawMap raw i).length : Int))) rfl (dec_t h216) ?_
    refine cw_skip ?_
    refine nw_seq ?_
    refine cw_seq ?_
    refine cw_block ?_
    refine cw_seq ?_
    refine cw_drawn (fun w217 w_ => Ex w217 w_) [] (.take 0 (.take 1 (.take 2 (.take 3 (.take 4 (.one 5 (.take 6 (.take 7 (.take 8 (.take 9 (.take 10 (.take 11 (.take 12 (.one 13 (.take 14 (.take 15 (.take 16 (.take 17 (.take 18 (.take 19 (.take 20 (.take 21 (.take 23 (.take 24 (.take 25 (.take 26 (.take 27 (.take 28 (.one 22 (.take 29 (.take 30 .done))))))))))))))))))))))))))))))) mixed (by kernel_rfl) (by kernel_rfl) (Nat.le_of_ble_eq_true (by kernel_rfl)) ?_; intro w217 k218 hs_
    replace K0 := Ex.trans K0 k218
    replace f204 := f204.ex k218
    replace f205 := f205.ex k218
    replace f206 := f206.ex k218
    replace f207 := f207.ex k218
    replace f208 := f208.ex k218
    replace f209 := f209.ex k218
    replace f210 := f210.ex k218
    replace f211 := f211.ex k218
    replace f212 := f212.ex k218
    replace f213 := f213.ex k218
    replace f214 := f214.ex k218
    have zw217 := k218.size
    have hS : (fun w_ => Ex w217 w_) w217 := Kp.refl _ _
    refine rp_take hs_ hS rfl rfl (ev_move rfl) rfl rfl rfl ?_
    refine rp_take hs_ hS rfl rfl (ev_move rfl) rfl rfl rfl ?_
    refine rp_take hs_ hS rfl rfl (ev_move rfl) rfl rfl rfl ?_
    obtain ⟨c219, hc220⟩ := get_of (l := (rawMap raw i)) (i := j) (by omega)
    
    refine rp_take (v := elemPtr v j 2 0) hs_ hS rfl rfl (ev_slAt (i := (j : Int)) ⟨_, (f205.ex hS).sl⟩ rfl rfl el_46 (idx_ok (i := (j : Int)) hc220 (by omega))) rfl rfl rfl ?_
    refine rp_take (v := .agg #[.int .i64 c219.1, .int .i64 c219.2]) hs_ hS rfl rfl (ev_elLoadk (us := [.int .i64 c219.1, .int .i64 c219.2]) (fun _ h => Sl.mono (A' := fun _ => True) (f205.ex h).sl (fun _ _ _ => trivial)) ⟨_, hS⟩ rfl (get_enc (f := encC) hc220) agg_55 (by decide) rfl rfl) rfl rfl rfl ?_
    refine rp_up (up_op rfl (op_fn (xs := [.tmp 156, .tmp 160]) ent_63 rfl (c_chas w217 u156 ((ofC (rawMap raw i)).1) (Sl.below (f209.ex hS)) c219)) rfl rfl rfl ?_)
    rintro _ w221 ⟨rfl, k222⟩
    replace K0 := Ex.trans K0 k222
    replace hS := Ex.trans hS k222
    have zw221 := k222.size
    refine ⟨(fun _ => hS), ?_⟩
    refine rp_take hs_ hS rfl rfl (ev_not rfl rfl) rfl rfl rfl ?_
    refine rp_take hs_ hS rfl rfl (ev_move rfl) rfl rfl rfl ?_
    refine rp_take hs_ hS rfl rfl (ev_move rfl) (gd_ff rfl (not_f (by simp only [hE1_, hE2_, hE3_, hE4_, hE5_]; exact (hH_ _ (List.mem_of_getElem? (by assumption : (rawMap raw i)[j]? = some _))).1))) rfl rfl ?_
    refine rp_take hs_ hS rfl rfl (ev_move rfl) (gd_ff rfl (not_f (by simp only [hE1_, hE2_, hE3_, hE4_, hE5_]; exact (hH_ _ (List.mem_of_getElem? (by assumption : (rawMap raw i)[j]? = some _))).1))) rfl rfl ?_
    refine rp_take hs_ hS rfl rfl (ev_move rfl) (gd_ff rfl (not_f (by simp only [hE1_, hE2_, hE3_, hE4_, hE5_]; exact (hH_ _ (List.mem_of_getElem? (by assumption : (rawMap raw i)[j]? = some _))).1))) rfl rfl ?_
    refine rp_take (v := elemPtr v j 2 0) hs_ hS rfl rfl (ev_slAt (i := (j : Int)) ⟨_, (f205.ex hS).sl⟩ rfl rfl el_46 (idx_ok (i := (j : Int)) hc220 (by omega))) (gd_ff rfl (not_f (by simp only [hE1_, hE2_, hE3_, hE4_, hE5_]; exact (hH_ _ (List.mem_of_getElem? (by assumption : (rawMap raw i)[j]? = some _))).1))) rfl rfl ?_
    refine rp_take (v := .agg #[.int .i64 c219.1, .int .i64 c219.2]) hs_ hS rfl rfl (ev_elLoadk (us := [.int .i64 c219.1, .int .i64 c219.2]) (fun _ h => Sl.mono (A' := fun _ => True) (f205.ex h).sl (fun _ _ _ => trivial)) ⟨_, hS⟩ rfl (get_enc (f := encC) hc220) agg_55 (by decide) rfl rfl) (gd_ff rfl (not_f (by simp only [hE1_, hE2_, hE3_, hE4_, hE5_]; exact (hH_ _ (List.mem_of_getElem? (by assumption : (rawMap raw i)[j]? = some _))).1))) rfl rfl ?_
    refine rp_up (up_op rfl (op_fn (xs := [.tmp 164, .tmp 168]) ent_63 rfl (c_chas w221 u180 ((withC ((ofC (rawMap raw i)).1) ((pickI x (16 : Int)) - 8, (pickI y (16 : Int)) - 8) true).1) (Sl.below (f212.ex hS)) c219)) (gd_ff rfl (not_f (by simp only [hE1_, hE2_, hE3_, hE4_, hE5_]; exact (hH_ _ (List.mem_of_getElem? (by assumption : (rawMap raw i)[j]? = some _))).1))) rfl rfl ?_)
    rintro _ w223 ⟨rfl, k224⟩
    replace K0 := Ex.trans K0 k224
    replace hS := Ex.trans hS k224
    have zw223 := k224.size
    refine ⟨(fun _ => hS), ?_⟩
    refine rp_take hs_ hS rfl rfl (ev_not (b := hasC ((withC ((ofC (rawMap raw i)).1) ((pickI x (16 : Int)) - 8, (pickI y (16 : Int)) - 8) true).1) c219) rfl rfl) (gd_ff rfl (not_f (by simp only [hE1_, hE2_, hE3_, hE4_, hE5_]; exact (hH_ _ (List.mem_of_getElem? (by assumption : (rawMap raw i)[j]? = some _))).1))) rfl rfl ?_
    refine rp_take hs_ hS rfl rfl (ev_pk_f rfl (not_f (by simp only [hE1_, hE2_, hE3_, hE4_, hE5_]; exact (hH_ _ (List.mem_of_getElem? (by assumption : (rawMap raw i)[j]? = some _))).1)) rfl) rfl rfl rfl ?_
    refine rp_take hs_ hS rfl rfl (ev_move rfl) rfl rfl rfl ?_
    refine rp_take hs_ hS rfl rfl (ev_move rfl) (gd_ff rfl (not_f (by simp only [hE1_, hE2_, hE3_, hE4_, hE5_]; exact (hH_ _ (List.mem_of_getElem? (by assumption : (rawMap raw i)[j]? = some _))).2.1))) rfl rfl ?_
    refine rp_take hs_ hS rfl rfl (ev_move rfl) (gd_ff rfl (not_f (by simp only [hE1_, hE2_, hE3_, hE4_, hE5_]; exact (hH_ _ (List.mem_of_getElem? (by assumption : (rawMap raw i)[j]? = some _))).2.1))) rfl rfl ?_
    refine rp_take hs_ hS rfl rfl (ev_move rfl) (gd_ff rfl (not_f (by simp only [hE1_, hE2_, hE3_, hE4_, hE5_]; exact (hH_ _ (List.mem_of_getElem? (by assumption : (rawMap raw i)[j]? = some _))).2.1))) rfl rfl ?_
    refine rp_take (v := elemPtr v j 2 0) hs_ hS rfl rfl (ev_slAt (i := (j : Int)) ⟨_, (f205.ex hS).sl⟩ rfl rfl el_46 (idx_ok (i := (j : Int)) hc220 (by omega))) (gd_ff rfl (not_f (by simp only [hE1_, hE2_, hE3_, hE4_, hE5_]; exact (hH_ _ (List.mem_of_getElem? (by assumption : (rawMap raw i)[j]? = some _))).2.1))) rfl rfl ?_
    refine rp_take (v := .agg #[.int .i64 c219.1, .int .i64 c219.2]) hs_ hS rfl rfl (ev_elLoadk (us := [.int .i64 c219.1, .int .i64 c219.2]) (fun _ h => Sl.mono (A' := fun _ => True) (f205.ex h).sl (fun _ _ _ => trivial)) ⟨_, hS⟩ rfl (get_enc (f := encC) hc220) agg_55 (by decide) rfl rfl) (gd_ff rfl (not_f (by simp only [hE1_, hE2_, hE3_, hE4_, hE5_]; exact (hH_ _ (List.mem_of_getElem? (by assumption : (rawMap raw i)[j]? = some _))).2.1))) rfl rfl ?_
    refine rp_take hs_ hS rfl rfl (ev_move rfl) (gd_ff rfl (not_f (by simp only [hE1_, hE2_, hE3_, hE4_, hE5_]; exact (hH_ _ (List.mem_of_getElem? (by assumption : (rawMap raw i)[j]? = some _))).2.1))) rfl rfl ?_
    refine rp_take hs_ hS rfl rfl (ev_move rfl) (gd_ff rfl (not_f (by simp only [hE1_, hE2_, hE3_, hE4_, hE5_]; exact (hH_ _ (List.mem_of_getElem? (by assumption : (rawMap raw i)[j]? = some _))).2.1))) rfl rfl ?_
    refine rp_take (v := elemPtr v j 2 0) hs_ hS rfl rfl (ev_slAt (i := (j : Int)) ⟨_, (f205.ex hS).sl⟩ rfl rfl el_46 (idx_ok (i := (j : Int)) hc220 (by omega))) (gd_ff rfl (not_f (by simp only [hE1_, hE2_, hE3_, hE4_, hE5_]; exact (hH_ _ (List.mem_of_getElem? (by assumption : (rawMap raw i)[j]? = some _))).2.1))) rfl rfl ?_
    refine rp_take (v := .agg #[.int .i64 c219.1, .int .i64 c219.2]) hs_ hS rfl rfl (ev_elLoadk (us := [.int .i64 c219.1, .int .i64 c219.2]) (fun _ h => Sl.mono (A' := fun _ => True) (f205.ex h).sl (fun _ _ _ => trivial)) ⟨_, hS⟩ rfl (get_enc (f := encC) hc220) agg_55 (by decide) rfl rfl) (gd_ff rfl (not_f (by simp only [hE1_, hE2_, hE3_, hE4_, hE5_]; exact (hH_ _ (List.mem_of_getElem? (by assumption : (rawMap raw i)[j]? = some _))).2.1))) rfl rfl ?_
    refine rp_take (v := .agg #[.int .i64 ((pickI x (16 : Int)) - 8), .int .i64 ((pickI y (16 : Int)) - 8)]) hs_ hS rfl rfl (ev_lbk (off := 0) (vs := [.int .i64 ((pickI x (16 : Int)) - 8), .int .i64 ((pickI y (16 : Int)) - 8)]) (fun _ h => f211.ex h) rfl agg_55 rfl rfl) (gd_ff rfl (not_f (by simp only [hE1_, hE2_, hE3_, hE4_, hE5_]; exact (hH_ _ (List.mem_of_getElem? (by assumption : (rawMap raw i)[j]? = some _))).2.1))) rfl rfl ?_
    refine rp_take hs_ hS rfl rfl (ev_neq_55 rfl rfl) (gd_ff rfl (not_f (by simp only [hE1_, hE2_, hE3_, hE4_, hE5_]; exact (hH_ _ (List.mem_of_getElem? (by assumption : (rawMap raw i)[j]? = some _))).2.1))) rfl rfl ?_
    refine rp_up (up_op rfl (op_fn (xs := [.tmp 173, .tmp 177]) ent_63 rfl (c_chas w223 u188 ((withC ((ofC (rawMap raw i)).1) ((pickI x (16 : Int)) - 8, (pickI y (16 : Int)) - 8) false).1) (Sl.below (f214.ex hS)) c219)) (gd_ff rfl (not_f (by simp only [hE1_, hE2_, hE3_, hE4_, hE5_]; exact (hH_ _ (List.mem_of_getElem? (by assumption : (rawMap raw i)[j]? = some _))).2.1))) rfl rfl ?_)
    rintro _ w225 ⟨rfl, k226⟩
    replace K0 := Ex.trans K0 k226
    replace hS := Ex.trans hS k226
    have zw225 := k226.size
    refine ⟨(fun _ => hS), ?_⟩
    refine rp_take hs_ hS rfl rfl (ev_neb (p := hasC ((withC ((ofC (rawMap raw i)).1) ((pickI x (16 : Int)) - 8, (pickI y (16 : Int)) - 8) false).1) c219) (q := decide ((c219 : Cell) ≠ ((pickI x (16 : Int)) - 8, (pickI y (16 : Int)) - 8))) bool_4 rfl rfl) (gd_ff rfl (not_f (by simp only [hE1_, hE2_, hE3_, hE4_, hE5_]; exact (hH_ _ (List.mem_of_getElem? (by assumption : (rawMap raw i)[j]? = some _))).2.1))) rfl rfl ?_
    refine rp_take hs_ hS rfl rfl (ev_pk_f (b := !(hasC ((withC ((ofC (rawMap raw i)).1) ((pickI x (16 : Int)) - 8, (pickI y (16 : Int)) - 8) true).1) c219)) rfl (not_f (by simp only [hE1_, hE2_, hE3_, hE4_, hE5_]; exact (hH_ _ (List.mem_of_getElem? (by assumption : (rawMap raw i)[j]? = some _))).2.1)) rfl) rfl rfl rfl ?_
    refine rp_done ?_
    clear hs_
    replace f204 := f204.ex hS
    replace f205 := f205.ex hS
    replace f206 := f206.ex hS
    replace f207 := f207.ex hS
    replace f208 := f208.ex hS
    replace f209 := f209.ex hS
    replace f210 := f210.ex hS
    replace f211 := f211.ex hS
    replace f212 := f212.ex hS
    replace f213 := f213.ex hS
    replace f214 := f214.ex hS
    refine nw_seq ?_
    refine cw_f (b := decide ((hasC ((withC ((ofC (rawMap raw i)).1) ((pickI x (16 : Int)) - 8, (pickI y (16 : Int)) - 8) false).1) c219) ≠ (decide ((c219 : Cell) ≠ ((pickI x (16 : Int)) - 8, (pickI y (16 : Int)) - 8))))) rfl (dec_f (by simp only [hE1_, hE2_, hE3_, hE4_, hE5_]; exact fun h_ => h_ (hH_ _ (List.mem_of_getElem? (by assumption : (rawMap raw i)[j]? = some _))).2.2)) ?_
    refine cw_skip ?_
    refine nw_block ?_
    refine nw_seq ?_
    refine cw_region ?_
    refine rw_ev (ev_move rfl) rfl rfl rfl ?_
    refine rw_ev (ev_add rfl rfl (by omega)) rfl rfl rfl ?_
    refine rw_ev (ev_assign rfl) rfl rfl rfl ?_
    refine rw_nil ?_
    exact nw_round (j + 1) (Sub.cons rfl (Sub.cons rfl (Sub.cons rfl (Sub.cons rfl (Sub.cons rfl (Sub.cons rfl (Sub.cons rfl (Sub.int (b := ((j + 1) : Int)) rfl (by omega) Sub.nil)))))))) ⟨K0, (Nat.le_trans z203 (Nat.le_trans zw217 (Nat.le_trans zw221 (Nat.le_trans zw223 zw225)))), f204, f205, f206, f207, f208, f209, f210, f211, f212, f213, f214, (by omega)⟩ (by first | omega | (dsimp only; omega))
   ·
    refine cw_f (b := decide ((j : Int) < ((rawMap raw i).length : Int))) rfl (dec_f h216) ?_
    refine cw_exit ?_
    refine xw_seq ?_
    refine xw_goal ?_
    refine xw_hit ?_
    refine nw_seq ?_
    refine cw_seq ?_
    refine cw_seq ?_
    refine cw_region ?_
    refine rw_ev (ev_move rfl) rfl rfl rfl ?_
    refine rw_ev (v := .agg #[.int .i64 ((pickI x (16 : Int)) - 8), .int .i64 ((pickI y (16 : Int)) - 8)]) (ev_lbk (off := 0) (vs := [.int .i64 ((pickI x (16 : Int)) - 8), .int .i64 ((pickI y (16 : Int)) - 8)]) (fun _ h => h ▸ f211) rfl agg_55 rfl rfl) rfl rfl rfl ?_
    refine rw_op (op_fn (xs := [.tmp 187, .tmp 188]) ent_63 rfl (c_chas w202 u156 ((ofC (rawMap raw i)).1) (Sl.below f209) ((pickI x (16 : Int)) - 8, (pickI y (16 : Int)) - 8))) rfl rfl rfl ?_
    rintro _ w227 ⟨rfl, k228⟩
    replace K0 := Ex.trans K0 k228
    replace f204 := f204.ex k228
    replace f205 := f205.ex k228
    replace f206 := f206.ex k228
    replace f207 := f207.ex k228
    replace f208 := f208.ex k228
    replace f209 := f209.ex k228
    replace f210 := f210.ex k228
    replace f211 := f211.ex k228
    replace f212 := f212.ex k228
    replace f213 := f213.ex k228
    replace f214 := f214.ex k228
    have zw227 := k228.size
    refine rw_nil ?_
    refine nw_seq ?_
    rcases Bool.eq_false_or_eq_true (hasC ((ofC (rawMap raw i)).1) ((pickI x (16 : Int)) - 8, (pickI y (16 : Int)) - 8)) with h229 | h229
    ·
     refine cw_t (b := hasC ((ofC (rawMap raw i)).1) ((pickI x (16 : Int)) - 8, (pickI y (16 : Int)) - 8)) rfl h229 ?_
     refine cw_seq ?_
     refine cw_region ?_
     refine rw_ev (ev_move rfl) rfl rfl rfl ?_
     refine rw_ev (ev_move rfl) rfl rfl rfl ?_
     refine rw_ev (ev_move rfl) rfl rfl rfl ?_
     refine rw_ev (ev_move rfl) rfl rfl rfl ?_
     refine rw_op (op_fn (xs := [.tmp 192, .tmp 193]) ent_37 rfl (c_same w227 u180 ((withC ((ofC (rawMap raw i)).1) ((pickI x (16 : Int)) - 8, (pickI y (16 : Int)) - 8) true).1) (Sl.below f212) u156 ((ofC (rawMap raw i)).1) (Sl.below f209))) rfl rfl rfl ?_
     rintro _ w230 ⟨rfl, k231⟩
     replace K0 := Ex.trans K0 k231
     replace f204 := f204.ex k231
     replace f205 := f205.ex k231
     replace f206 := f206.ex k231
     replace f207 := f207.ex k231
     replace f208 := f208.ex k231
     replace f209 := f209.ex k231
     replace f210 := f210.ex k231
     replace f211 := f211.ex k231
     replace f212 := f212.ex k231
     replace f213 := f213.ex k231
     replace f214 := f214.ex k231
     have zw230 := k231.size
     refine rw_ev (ev_pk_t rfl rfl rfl) rfl rfl rfl ?_
     refine rw_ev (ev_move rfl) rfl rfl rfl ?_
     refine rw_ev (ev_move rfl) (gd_tt rfl (by have hb_ := (by assumption : hasC ((ofC (rawMap raw i)).1) (pickI x 16 - 8, pickI y 16 - 8) = true); simp only [hE1_] at hb_; simp only [hE1_, hE2_, hE3_, hE4_, hE5_]; rw [(hF1_ hb_).1]; exact same_self _)) rfl rfl ?_
     refine rw_ev (v := .int .i64 (((withC ((ofC (rawMap raw i)).1) ((pickI x (16 : Int)) - 8, (pickI y (16 : Int)) - 8) false).1).length : Int)) (ev_lenm (l := (withC ((ofC (rawMap raw i)).1) ((pickI x (16 : Int)) - 8, (pickI y (16 : Int)) - 8) false).1) ⟨_, f214⟩ rfl el_46 rfl) (gd_tt rfl (by have hb_ := (by assumption : hasC ((ofC (rawMap raw i)).1) (pickI x 16 - 8, pickI y 16 - 8) = true); simp only [hE1_] at hb_; simp only [hE1_, hE2_, hE3_, hE4_, hE5_]; rw [(hF1_ hb_).1]; exact same_self _)) rfl rfl ?_
     refine rw_ev (ev_move rfl) (gd_tt rfl (by have hb_ := (by assumption : hasC ((ofC (rawMap raw i)).1) (pickI x 16 - 8, pickI y 16 - 8) = true); simp only [hE1_] at hb_; simp only [hE1_, hE2_, hE3_, hE4_, hE5_]; rw [(hF1_ hb_).1]; exact same_self _)) rfl rfl ?_
     refine rw_ev (v := .int .i64 (((ofC (rawMap raw i)).1).length : Int)) (ev_lenm (l := (ofC (rawMap raw i)).1) ⟨_, f209⟩ rfl el_46 rfl) (gd_tt rfl (by have hb_ := (by assumption : hasC ((ofC (rawMap raw i)).1) (pickI x 16 - 8, pickI y 16 - 8) = true); simp only [hE1_] at hb_; simp only [hE1_, hE2_, hE3_, hE4_, hE5_]; rw [(hF1_ hb_).1]; exact same_self _)) rfl rfl ?_
     refine rw_ev (ev_sub rfl rfl (by omega)) (gd_tt rfl (by have hb_ := (by assumption : hasC ((ofC (rawMap raw i)).1) (pickI x 16 - 8, pickI y 16 - 8) = true); simp only [hE1_] at hb_; simp only [hE1_, hE2_, hE3_, hE4_, hE5_]; rw [(hF1_ hb_).1]; exact same_self _)) rfl rfl ?_
     refine rw_ev (ev_eq (p := (((withC ((ofC (rawMap raw i)).1) ((pickI x (16 : Int)) - 8, (pickI y (16 : Int)) - 8) false).1).length : Int)) (q := (((ofC (rawMap raw i)).1).length : Int) - 1) rfl rfl) (gd_tt rfl (by have hb_ := (by assumption : hasC ((ofC (rawMap raw i)).1) (pickI x 16 - 8, pickI y 16 - 8) = true); simp only [hE1_] at hb_; simp only [hE1_, hE2_, hE3_, hE4_, hE5_]; rw [(hF1_ hb_).1]; exact same_self _)) rfl rfl ?_
     refine rw_ev (ev_pk_t (b := sameC ((withC ((ofC (rawMap raw i)).1) ((pickI x (16 : Int)) - 8, (pickI y (16 : Int)) - 8) true).1) ((ofC (rawMap raw i)).1)) rfl (by have hb_ := (by assumption : hasC ((ofC (rawMap raw i)).1) (pickI x 16 - 8, pickI y 16 - 8) = true); simp only [hE1_] at hb_; simp only [hE1_, hE2_, hE3_, hE4_, hE5_]; rw [(hF1_ hb_).1]; exact same_self _) rfl) rfl rfl rfl ?_
     refine rw_ev (ev_move rfl) rfl rfl rfl ?_
     refine rw_ev (ev_move rfl) (gd_tt rfl (dec_t (by have hb_ := (by assumption : hasC ((ofC (rawMap raw i)).1) (pickI x 16 - 8, pickI y 16 - 8) = true); simp only [hE1_] at hb_; simp only [hE1_, hE2_, hE3_, hE4_, hE5_]; exact (hF1_ hb_).2))) rfl rfl ?_
     refine rw_ev (v := .agg #[.int .i64 ((pickI x (16 : Int)) - 8), .int .i64 ((pickI y (16 : Int)) - 8)]) (ev_lbk (off := 0) (vs := [.int .i64 ((pickI x (16 : Int)) - 8), .int .i64 ((pickI y (16 : Int)) - 8)]) (fun _ h => h ▸ f211) rfl agg_55 rfl rfl) (gd_tt rfl (dec_t (by have hb_ := (by assumption : hasC ((ofC (rawMap raw i)).1) (pickI x 16 - 8, pickI y 16 - 8) = true); simp only [hE1_] at hb_; simp only [hE1_, hE2_, hE3_, hE4_, hE5_]; exact (hF1_ hb_).2))) rfl rfl ?_
     refine rw_op (op_fn (xs := [.tmp 205, .tmp 206]) ent_63 rfl (c_chas w230 u180 ((withC ((ofC (rawMap raw i)).1) ((pickI x (16 : Int)) - 8, (pickI y (16 : Int)) - 8) true).1) (Sl.below f212) ((pickI x (16 : Int)) - 8, (pickI y (16 : Int)) - 8))) (gd_tt rfl (dec_t (by have hb_ := (by assumption : hasC ((ofC (rawMap raw i)).1) (pickI x 16 - 8, pickI y 16 - 8) = true); simp only [hE1_] at hb_; simp only [hE1_, hE2_, hE3_, hE4_, hE5_]; exact (hF1_ hb_).2))) rfl rfl ?_
     rintro _ w232 ⟨rfl, k233⟩
     replace K0 := Ex.trans K0 k233
     replace f204 := f204.ex k233
     replace f205 := f205.ex k233
     replace f206 := f206.ex k233
     replace f207 := f207.ex k233
     replace f208 := f208.ex k233
     replace f209 := f209.ex k233
     replace f210 := f210.ex k233
     replace f211 := f211.ex k233
     replace f212 := f212.ex k233
     replace f213 := f213.ex k233
     replace f214 := f214.ex k233
     have zw232 := k233.size
     refine rw_ev (ev_pk_t (b := decide ((((withC ((ofC (rawMap raw i)).1) ((pickI x (16 : Int)) - 8, (pickI y (16 : Int)) - 8) false).1).length : Int) = ((((ofC (rawMap raw i)).1).length : Int) - 1))) rfl (dec_t (by have hb_ := (by assumption : hasC ((ofC (rawMap raw i)).1) (pickI x 16 - 8, pickI y 16 - 8) = true); simp only [hE1_] at hb_; simp only [hE1_, hE2_, hE3_, hE4_, hE5_]; exact (hF1_ hb_).2)) rfl) rfl rfl rfl ?_
     refine rw_ev (ev_assign rfl) rfl rfl rfl ?_
     refine rw_nil ?_
     refine nw_seq ?_
     refine cw_ret ?_
     refine ret_post (rs := [.tmp 8]) (vs := [.bool (hasC ((withC ((ofC (rawMap raw i)).1) ((pickI x (16 : Int)) - 8, (pickI y (16 : Int)) - 8) true).1) ((pickI x (16 : Int)) - 8, (pickI y (16 : Int)) - 8))]) rfl (.tmp rfl .nil) ?_
     refine ⟨?_, K0⟩
     · show (.bool (hasC ((withC ((ofC (rawMap raw i)).1) ((pickI x (16 : Int)) - 8, (pickI y (16 : Int)) - 8) true).1) ((pickI x (16 : Int)) - 8, (pickI y (16 : Int)) - 8)) : Value) = _
       refine congrArg Value.bool ?_
       first | rfl | (simp only [hE1_, hE2_, hE3_, hE4_, hE5_]; exact hF3_)
    ·
     refine cw_f (b := hasC ((ofC (rawMap raw i)).1) ((pickI x (16 : Int)) - 8, (pickI y (16 : Int)) - 8)) rfl h229 ?_
     refine cw_skip ?_
     refine nw_seq ?_
     refine cw_seq ?_
     refine cw_region ?_
     refine rw_ev (ev_move rfl) rfl rfl rfl ?_
     refine rw_ev (ev_move rfl) rfl rfl rfl ?_
     refine rw_ev (ev_move rfl) rfl rfl rfl ?_
     refine rw_ev (ev_move rfl) rfl rfl rfl ?_
     refine rw_op (op_fn (xs := [.tmp 211, .tmp 212]) ent_37 rfl (c_same w227 u188 ((withC ((ofC (rawMap raw i)).1) ((pickI x (16 : Int)) - 8, (pickI y (16 : Int)) - 8) false).1) (Sl.below f214) u156 ((ofC (rawMap raw i)).1) (Sl.below f209))) rfl rfl rfl ?_
     rintro _ w234 ⟨rfl, k235⟩
     replace K0 := Ex.trans K0 k235
     replace f204 := f204.ex k235
     replace f205 := f205.ex k235
     replace f206 := f206.ex k235
     replace f207 := f207.ex k235
     replace f208 := f208.ex k235
     replace f209 := f209.ex k235
     replace f210 := f210.ex k235
     replace f211 := f211.ex k235
     replace f212 := f212.ex k235
     replace f213 := f213.ex k235
     replace f214 := f214.ex k235
     have zw234 := k235.size
     refine rw_ev (ev_pk_t rfl rfl rfl) rfl rfl rfl ?_
     refine rw_ev (ev_move rfl) rfl rfl rfl ?_
     refine rw_ev (ev_move rfl) (gd_tt rfl (by have hb_ := (by assumption : hasC ((ofC (rawMap raw i)).1) (pickI x 16 - 8, pickI y 16 - 8) = false); simp only [hE1_] at hb_; simp only [hE1_, hE2_, hE3_, hE4_, hE5_]; rw [(hF2_ hb_).1]; exact same_self _)) rfl rfl ?_
     refine rw_ev (v := .int .i64 (((withC ((ofC (rawMap raw i)).1) ((pickI x (16 : Int)) - 8, (pickI y (16 : Int)) - 8) true).1).length : Int)) (ev_lenm (l := (withC ((ofC (rawMap raw i)).1) ((pickI x (16 : Int)) - 8, (pickI y (16 : Int)) - 8) true).1) ⟨_, f212⟩ rfl el_46 rfl) (gd_tt rfl (by have hb_ := (by assumption : hasC ((ofC (rawMap raw i)).1) (pickI x 16 - 8, pickI y 16 - 8) = false); simp only [hE1_] at hb_; simp only [hE1_, hE2_, hE3_, hE4_, hE5_]; rw [(hF2_ hb_).1]; exact same_self _)) rfl rfl ?_
     refine rw_ev (ev_move rfl) (gd_tt rfl (by have hb_ := (by assumption : hasC ((ofC (rawMap raw i)).1) (pickI x 16 - 8, pickI y 16 - 8) = false); simp only [hE1_] at hb_; simp only [hE1_, hE2_, hE3_, hE4_, hE5_]; rw [(hF2_ hb_).1]; exact same_self _)) rfl rfl ?_
     refine rw_ev (v := .int .i64 (((ofC (rawMap raw i)).1).length : Int)) (ev_lenm (l := (ofC (rawMap raw i)).1) ⟨_, f209⟩ rfl el_46 rfl) (gd_tt rfl (by have hb_ := (by assumption : hasC ((ofC (rawMap raw i)).1) (pickI x 16 - 8, pickI y 16 - 8) = false); simp only [hE1_] at hb_; simp only [hE1_, hE2_, hE3_, hE4_, hE5_]; rw [(hF2_ hb_).1]; exact same_self _)) rfl rfl ?_
     refine rw_ev (ev_add rfl rfl (by omega)) (gd_tt rfl (by have hb_ := (by assumption : hasC ((ofC (rawMap raw i)).1) (pickI x 16 - 8, pickI y 16 - 8) = false); simp only [hE1_] at hb_; simp only [hE1_, hE2_, hE3_, hE4_, hE5_]; rw [(hF2_ hb_).1]; exact same_self _)) rfl rfl ?_
     refine rw_ev (ev_eq (p := (((withC ((ofC (rawMap raw i)).1) ((pickI x (16 : Int)) - 8, (pickI y (16 : Int)) - 8) true).1).length : Int)) (q := (((ofC (rawMap raw i)).1).length : Int) + 1) rfl rfl) (gd_tt rfl (by have hb_ := (by assumption : hasC ((ofC (rawMap raw i)).1) (pickI x 16 - 8, pickI y 16 - 8) = false); simp only [hE1_] at hb_; simp only [hE1_, hE2_, hE3_, hE4_, hE5_]; rw [(hF2_ hb_).1]; exact same_self _)) rfl rfl ?_
     refine rw_ev (ev_pk_t (b := sameC ((withC ((ofC (rawMap raw i)).1) ((pickI x (16 : Int)) - 8, (pickI y (16 : Int)) - 8) false).1) ((ofC (rawMap raw i)).1)) rfl (by have hb_ := (by assumption : hasC ((ofC (rawMap raw i)).1) (pickI x 16 - 8, pickI y 16 - 8) = false); simp only [hE1_] at hb_; simp only [hE1_, hE2_, hE3_, hE4_, hE5_]; rw [(hF2_ hb_).1]; exact same_self _) rfl) rfl rfl rfl ?_
     refine rw_ev (ev_move rfl) rfl rfl rfl ?_
     refine rw_ev (ev_move rfl) (gd_tt rfl (dec_t (by have hb_ := (by assumption : hasC ((ofC (rawMap raw i)).1) (pickI x 16 - 8, pickI y 16 - 8) = false); simp only [hE1_] at hb_; simp only [hE1_, hE2_, hE3_, hE4_, hE5_]; exact (hF2_ hb_).2))) rfl rfl ?_
     refine rw_ev (v := .agg #[.int .i64 ((pickI x (16 : Int)) - 8), .int .i64 ((pickI y (16 : Int)) - 8)]) (ev_lbk (off := 0) (vs := [.int .i64 ((pickI x (16 : Int)) - 8), .int .i64 ((pickI y (16 : Int)) - 8)]) (fun _ h => h ▸ f211) rfl agg_55 rfl rfl) (gd_tt rfl (dec_t (by have hb_ := (by assumption : hasC ((ofC (rawMap raw i)).1) (pickI x 16 - 8, pickI y 16 - 8) = false); simp only [hE1_] at hb_; simp only [hE1_, hE2_, hE3_, hE4_, hE5_]; exact (hF2_ hb_).2))) rfl rfl ?_
     refine rw_op (op_fn (xs := [.tmp 224, .tmp 225]) ent_63 rfl (c_chas w234 u180 ((withC ((ofC (rawMap raw i)).1) ((pickI x (16 : Int)) - 8, (pickI y (16 : Int)) - 8) true).1) (Sl.below f212) ((pickI x (16 : Int)) - 8, (pickI y (16 : Int)) - 8))) (gd_tt rfl (dec_t (by have hb_ := (by assumption : hasC ((ofC (rawMap raw i)).1) (pickI x 16 - 8, pickI y 16 - 8) = false); simp only [hE1_] at hb_; simp only [hE1_, hE2_, hE3_, hE4_, hE5_]; exact (hF2_ hb_).2))) rfl rfl ?_
     rintro _ w236 ⟨rfl, k237⟩
     replace K0 := Ex.trans K0 k237
     replace f204 := f204.ex k237
     replace f205 := f205.ex k237
     replace f206 := f206.ex k237
     replace f207 := f207.ex k237
     replace f208 := f208.ex k237
     replace f209 := f209.ex k237
     replace f210 := f210.ex k237
     replace f211 := f211.ex k237
     replace f212 := f212.ex k237
     replace f213 := f213.ex k237
     replace f214 := f214.ex k237
     have zw236 := k237.size
     refine rw_ev (ev_pk_t (b := decide ((((withC ((ofC (rawMap raw i)).1) ((pickI x (16 : Int)) - 8, (pickI y (16 : Int)) - 8) true).1).length : Int) = ((((ofC (rawMap raw i)).1).length : Int) + 1))) rfl (dec_t (by have hb_ := (by assumption : hasC ((ofC (rawMap raw i)).1) (pickI x 16 - 8, pickI y 16 - 8) = false); simp only [hE1_] at hb_; simp only [hE1_, hE2_, hE3_, hE4_, hE5_]; exact (hF2_ hb_).2)) rfl) rfl rfl rfl ?_
     refine rw_ev (ev_assign rfl) rfl rfl rfl ?_
     refine rw_nil ?_
     refine nw_seq ?_
     refine cw_ret ?_
     refine ret_post (rs := [.tmp 8]) (vs := [.bool (hasC ((withC ((ofC (rawMap raw i)).1) ((pickI x (16 : Int)) - 8, (pickI y (16 : Int)) - 8) true).1) ((pickI x (16 : Int)) - 8, (pickI y (16 : Int)) - 8))]) rfl (.tmp rfl .nil) ?_
     refine ⟨?_, K0⟩
     · show (.bool (hasC ((withC ((ofC (rawMap raw i)).1) ((pickI x (16 : Int)) - 8, (pickI y (16 : Int)) - 8) true).1) ((pickI x (16 : Int)) - 8, (pickI y (16 : Int)) - 8)) : Value) = _
       refine congrArg Value.bool ?_
       first | rfl | (simp only [hE1_, hE2_, hE3_, hE4_, hE5_]; exact hF3_)

end Go.Proofs.Ythpaadmpgdglnaa
