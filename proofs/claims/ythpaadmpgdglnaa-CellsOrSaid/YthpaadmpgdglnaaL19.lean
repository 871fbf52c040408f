/- The law CellsOr: it returns true. Its condition: numbers of 64 bits. -/
import Derived.Test.YthpaadmpgdglnaaFg
import Derived.Test.YthpaadmpgdglnaaDa
namespace Go.Proofs.Ythpaadmpgdglnaa
open Go Go.RowKit
set_option linter.unusedVariables false
set_option linter.unusedSimpArgs false
set_option maxRecDepth 100000
set_option maxHeartbeats 4000000

theorem law_CellsOr (w : World) (rv : Value) (raw : List Cell) (hrv : Sl w (fun b => b < w.heap.size) rv 2 (raw.map encC)) (hrvr : RawOk raw) (at_ : Int) (hat_64 : -9223372036854775808 ≤ at_ ∧ at_ ≤ 9223372036854775807) : Fn Try.prog 19 [rv, .int .i64 at_] w (fun v w' =>  v = .bool true ∧ Ex w w') := by
  have K0 : Ex w w := Kp.refl _ _
  refine fn_enter (n := 97) Try.func19 rfl rfl (Nat.le_of_ble_eq_true rfl) ?_
  show CW _ _ _ _ _ _ [(0, rv), (1, .int .i64 at_)] _
  refine cw_seq ?_
  refine cw_region ?_
  refine rw_ev (ev_assign rfl) rfl rfl rfl ?_
  refine rw_nil ?_
  refine nw_seq ?_
  refine cw_seq ?_
  refine cw_region ?_
  refine rw_op (op_fn (xs := []) ent_56 rfl (c_awake1 w )) rfl rfl rfl ?_
  rintro _ w1 ⟨rfl, k2⟩
  replace K0 := Ex.trans K0 k2
  replace hrv := hrv.ex k2
  have zw1 := k2.size
  refine rw_ev (ev_assign rfl) rfl rfl rfl ?_
  refine rw_nil ?_
  refine nw_seq ?_
  refine cw_seq ?_
  refine cw_region ?_
  refine rw_ev (ev_move rfl) rfl rfl rfl ?_
  refine rw_op (op_fn (xs := [.tmp 15]) ent_44 rfl (c_set w1 rv raw (Sl.below hrv) (by exact hrvr))) rfl rfl rfl ?_
  rintro u3 w4 ⟨_, rfl, k5, sl6⟩
  replace K0 := Ex.trans K0 k5
  replace hrv := hrv.ex k5
  have zw4 := k5.size
  refine rw_ev (ev_assign rfl) rfl rfl rfl ?_
  refine rw_nil ?_
  refine nw_seq ?_
  refine cw_seq ?_
  refine cw_region ?_
  refine rw_ev (ev_assign rfl) rfl rfl rfl ?_
  refine rw_nil ?_
  refine nw_seq ?_
  refine cw_seq ?_
  refine cw_seq ?_
  refine cw_region ?_
  refine rw_ev (ev_assign rfl) rfl rfl rfl ?_
  refine rw_nil ?_
  refine nw_seq ?_
  refine cw_block ?_
  refine cw_loop (σ := Nat × Value) (fun s_ => match s_ with | (i, va) => [(0, rv), (1, .int .i64 at_), (4, .bool false), (5, .bool true), (6, u3), (7, va), (8, .int .i64 (i : Int))]) (fun s_ wr => match s_ with | (i, va) => Ex w wr ∧ w4.heap.size ≤ wr.heap.size ∧ Sl wr (fun b => b < w.heap.size) rv 2 (raw.map encC) ∧ Sl wr (fun b => w1.heap.size ≤ b ∧ b < w4.heap.size) u3 2 ((setC raw).map encC) ∧ Sl wr (fun b => w.heap.size ≤ b) va 2 ((rawPut (raw.take i)).map encC) ∧ i ≤ raw.length ∧ i ≤ 60) (fun s_ => match s_ with | (i, va) => raw.length - i) (0, .slice none 0 0) (Sub.cons rfl (Sub.cons rfl (Sub.cons rfl (Sub.cons rfl (Sub.cons rfl (Sub.cons rfl (Sub.int (b := (0 : Int)) rfl (by omega) Sub.nil))))))) ⟨K0, (Nat.le_refl _), hrv, sl6, (Sl.nil _ _ _), (by omega), (by omega)⟩ ?_
  rintro ⟨i, va⟩ w7 ⟨K0, z8, f9, f10, f11, pr12, pr13⟩
  show CW _ _ _ _ _ _ [(0, rv), (1, .int .i64 at_), (4, .bool false), (5, .bool true), (6, u3), (7, va), (8, .int .i64 (i : Int))] _
  refine cw_seq ?_
  refine cw_seq ?_
  refine cw_region ?_
  refine rw_ev (ev_move rfl) rfl rfl rfl ?_
  refine rw_ev (ev_move rfl) rfl rfl rfl ?_
  refine rw_ev (v := .int .i64 (raw.length : Int)) (ev_lenm (l := raw) ⟨_, f9⟩ rfl el_23 rfl) rfl rfl rfl ?_
  refine rw_ev (ev_lss rfl rfl) rfl rfl rfl ?_
  refine rw_ev (ev_move rfl) rfl rfl rfl ?_
  by_cases h14 : (i : Int) < (raw.length : Int)
  ·
   refine rw_ev (ev_move rfl) (gd_tt rfl (dec_t h14)) rfl rfl ?_
   refine rw_ev (ev_lss rfl rfl) (gd_tt rfl (dec_t h14)) rfl rfl ?_
   refine rw_ev (ev_pk_t rfl (dec_t h14) rfl) rfl rfl rfl ?_
   refine rw_nil ?_
   refine nw_seq ?_
   by_cases h15 : (i : Int) < 60
   ·
    refine cw_t (b := decide ((i : Int) < 60)) rfl (dec_t h15) ?_
    refine cw_skip ?_
    refine nw_seq ?_
    refine cw_seq ?_
    refine cw_block ?_
    refine cw_seq ?_
    refine cw_drawn (fun w16 w_ => Ex w16 w_) [] (.take 0 (.take 1 (.take 2 (.take 3 (.take 4 (.take 5 (.take 8 (.take 9 (.take 10 (.take 11 (.take 12 (.one 6 (.take 7 (.one 13 (.take 14 (.take 15 (.one 16 (.take 17 (.take 18 (.take 19 (.take 20 (.take 21 .done)))))))))))))))))))))) mixed (by kernel_rfl) (by kernel_rfl) (Nat.le_of_ble_eq_true (by kernel_rfl)) ?_; intro w16 k17 hs_
    replace K0 := Ex.trans K0 k17
    replace f9 := f9.ex k17
    replace f10 := f10.ex k17
    replace f11 := f11.ex k17
    have zw16 := k17.size
    have hS : (fun w_ => Ex w16 w_) w16 := Kp.refl _ _
    refine rp_take hs_ hS rfl rfl (ev_move rfl) rfl rfl rfl ?_
    refine rp_take hs_ hS rfl rfl (ev_move rfl) rfl rfl rfl ?_
    refine rp_take hs_ hS rfl rfl (ev_move rfl) rfl rfl rfl ?_
    obtain ⟨c18, hc19⟩ := get_of (l := raw) (i := i) (by omega)
    obtain ⟨⟨_, _⟩, ⟨_, _⟩⟩ := hrvr _ (List.mem_of_getElem? hc19)
    refine rp_take (v := elemPtr rv i 2 0) hs_ hS rfl rfl (ev_slAt (i := (i : Int)) ⟨_, (f9.ex hS)⟩ rfl rfl el_23 (idx_ok (i := (i : Int)) hc19 (by omega))) rfl rfl rfl ?_
    refine rp_take (v := elemPtr rv i 2 0) hs_ hS rfl rfl (ev_elArr (i := 0) (m := 2) (q := 1) ⟨_, (f9.ex hS)⟩ (len_enc hc19) rfl rfl arr_45 (by omega)) rfl rfl rfl ?_
    refine rp_take (v := .int .i64 c18.1) hs_ hS rfl rfl (ev_elLoad1 (u := .int .i64 c18.1) (fun _ h => (f9.ex h)) ⟨_, hS⟩ rfl (get_enc hc19) one_3 (by decide) rfl) rfl rfl rfl ?_
    refine rp_take hs_ hS rfl rfl (ev_move rfl) rfl rfl rfl ?_
    refine rp_take hs_ hS rfl rfl (ev_move rfl) rfl rfl rfl ?_
    refine rp_take (v := elemPtr rv i 2 0) hs_ hS rfl rfl (ev_slAt (i := (i : Int)) ⟨_, (f9.ex hS)⟩ rfl rfl el_23 (idx_ok (i := (i : Int)) hc19 (by omega))) rfl rfl rfl ?_
    refine rp_take (v := elemPtr rv i 2 1) hs_ hS rfl rfl (ev_elArr (i := 1) (m := 2) (q := 1) ⟨_, (f9.ex hS)⟩ (len_enc hc19) rfl rfl arr_45 (by omega)) rfl rfl rfl ?_
    refine rp_take (v := .int .i64 c18.2) hs_ hS rfl rfl (ev_elLoad1 (u := .int .i64 c18.2) (fun _ h => (f9.ex h)) ⟨_, hS⟩ rfl (get_enc hc19) one_3 (by decide) rfl) rfl rfl rfl ?_
    refine rp_up (up_op rfl (op_fn (xs := [.tmp 33, .const (.int .i64 16)]) ent_60 rfl (c_pick60 w16 c18.1 (16 : Int) (by omega) (by omega))) rfl rfl rfl ?_)
    rintro _ w20 ⟨rfl, k21, pr22⟩
    replace K0 := Ex.trans K0 k21
    replace hS := Ex.trans hS k21
    have zw20 := k21.size
    refine ⟨(fun _ => hS), ?_⟩
    refine rp_take hs_ hS rfl rfl (ev_sub rfl rfl (by omega)) rfl rfl rfl ?_
    refine rp_up (up_op rfl (op_fn (xs := [.tmp 40, .const (.int .i64 16)]) ent_60 rfl (c_pick60 w20 c18.2 (16 : Int) (by omega) (by omega))) rfl rfl rfl ?_)
    rintro _ w23 ⟨rfl, k24, pr25⟩
    replace K0 := Ex.trans K0 k24
    replace hS := Ex.trans hS k24
    have zw23 := k24.size
    refine ⟨(fun _ => hS), ?_⟩
    refine rp_take hs_ hS rfl rfl (ev_sub rfl rfl (by omega)) rfl rfl rfl ?_
    refine rp_take (v := .agg #[.int .i64 ((pickI c18.1 (16 : Int)) - 8), .int .i64 ((pickI c18.2 (16 : Int)) - 8)]) hs_ hS rfl rfl (ev_pure rfl rfl (fun _ => by kernel_rfl)) rfl rfl rfl ?_
    refine rp_up (up_op rfl (op_fn (xs := [.tmp 28, .tmp 43, .const (.bool true)]) ent_61 rfl (c_cwith w23 va (rawPut (raw.take i)) (Sl.below (f11.ex hS)) ((pickI c18.1 (16 : Int)) - 8, (pickI c18.2 (16 : Int)) - 8) true)) rfl rfl rfl ?_)
    rintro _ w27 ⟨u26, rfl, k28, sl29⟩
    replace K0 := Ex.trans K0 k28
    replace hS := Ex.trans hS k28
    have zw27 := k28.size
    refine ⟨(fun _ => hS), ?_⟩
    refine rp_take hs_ hS rfl rfl (ev_move rfl) rfl rfl rfl ?_
    refine rp_take hs_ hS rfl rfl (ev_extract (vs := #[u26, .int .i64 ((withC (rawPut (raw.take i)) ((pickI c18.1 (16 : Int)) - 8, (pickI c18.2 (16 : Int)) - 8) true).2)]) rfl rfl) rfl rfl rfl ?_
    refine rp_take hs_ hS rfl rfl (ev_extract (vs := #[u26, .int .i64 ((withC (rawPut (raw.take i)) ((pickI c18.1 (16 : Int)) - 8, (pickI c18.2 (16 : Int)) - 8) true).2)]) rfl rfl) rfl rfl rfl ?_
    refine rp_take hs_ hS rfl rfl (ev_assign rfl) rfl rfl rfl ?_
    refine rp_take hs_ hS rfl rfl (ev_assign rfl) rfl rfl rfl ?_
    refine rp_done ?_
    clear hs_
    replace f9 := f9.ex hS
    replace f10 := f10.ex hS
    replace f11 := f11.ex hS
    refine nw_seq ?_
    refine cw_seq ?_
    refine cw_seq ?_
    refine cw_region ?_
    refine rw_ev (ev_move rfl) rfl rfl rfl ?_
    refine rw_ev (ev_ne rfl rfl) rfl rfl rfl ?_
    refine rw_nil ?_
    refine nw_seq ?_
    refine cw_f (b := decide (((withC (rawPut (raw.take i)) ((pickI c18.1 (16 : Int)) - 8, (pickI c18.2 (16 : Int)) - 8) true).2) ≠ 0)) rfl (dec_f (by exact fun h_ => h_ (congrArg Prod.snd (raw_with (by assumption) (by assumption))))) ?_
    refine cw_skip ?_
    refine nw_seq ?_
    refine cw_region ?_
    refine rw_ev (ev_move rfl) rfl rfl rfl ?_
    refine rw_ev (ev_assign rfl) rfl rfl rfl ?_
    refine rw_nil ?_
    refine nw_block ?_
    refine nw_seq ?_
    refine cw_region ?_
    refine rw_ev (ev_move rfl) rfl rfl rfl ?_
    refine rw_ev (ev_add rfl rfl (by omega)) rfl rfl rfl ?_
    refine rw_ev (ev_assign rfl) rfl rfl rfl ?_
    refine rw_nil ?_
    exact nw_round ((i + 1), u26) (Sub.cons rfl (Sub.cons rfl (Sub.cons rfl (Sub.cons rfl (Sub.cons rfl (Sub.cons rfl (Sub.int (b := ((i + 1) : Int)) rfl (by omega) Sub.nil))))))) ⟨K0, (Nat.le_trans z8 (Nat.le_trans zw16 (Nat.le_trans zw20 (Nat.le_trans zw23 zw27)))), f9, f10, (by have hq := (Sl.mono sl29 (fun _ _ hb => Nat.le_trans (Nat.le_trans zw1 (Nat.le_trans zw4 (Nat.le_trans z8 (Nat.le_trans zw16 (Nat.le_trans zw20 zw23))))) hb.1)); have e_ := congrArg Prod.fst (raw_with (by assumption : raw[i]? = some _) (by assumption : i ≤ 60)); simp only at e_; rw [← e_]; exact hq), (by omega), (by omega)⟩ (by first | omega | (dsimp only; omega))
   ·
    refine cw_f (b := decide ((i : Int) < 60)) rfl (dec_f h15) ?_
    refine cw_exit ?_
    refine xw_seq ?_
    refine xw_goal ?_
    refine xw_hit ?_
    refine nw_seq ?_
    refine cw_seq ?_
    refine cw_seq ?_
    refine cw_region ?_
    refine rw_ev (ev_move rfl) rfl rfl rfl ?_
    refine rw_ev (ev_move rfl) rfl rfl rfl ?_
    refine rw_op (op_fn (xs := [.tmp 50, .tmp 51]) ent_37 rfl (c_same w7 va (rawPut (raw.take i)) (Sl.below f11) u3 (setC raw) (Sl.below f10))) rfl rfl rfl ?_
    rintro _ w30 ⟨rfl, k31⟩
    replace K0 := Ex.trans K0 k31
    replace f9 := f9.ex k31
    replace f10 := f10.ex k31
    replace f11 := f11.ex k31
    have zw30 := k31.size
    refine rw_ev (ev_not rfl rfl) rfl rfl rfl ?_
    refine rw_nil ?_
    refine nw_seq ?_
    refine cw_f (b := !(sameC (rawPut (raw.take i)) (setC raw))) rfl (not_f (by rw [take_cap (n := 60) (by assumption : i ≤ 60) (by omega : raw.length ≤ i ∨ 60 ≤ i)]; exact same_self _)) ?_
    refine cw_skip ?_
    refine nw_seq ?_
    refine cw_seq ?_
    refine cw_seq ?_
    refine cw_region ?_
    refine rw_ev (ev_assign rfl) rfl rfl rfl ?_
    refine rw_nil ?_
    refine nw_seq ?_
    refine cw_block ?_
    refine cw_loop (σ := Nat × Value × List Cell) (fun s_ => match s_ with | (j, vb, b) => [(1, .int .i64 at_), (4, .bool false), (5, .bool true), (7, vb), (11, .int .i64 (j : Int))]) (fun s_ wr => match s_ with | (j, vb, b) => Ex w wr ∧ w30.heap.size ≤ wr.heap.size ∧ Sl wr (fun b => b < w.heap.size) rv 2 (raw.map encC) ∧ Sl wr (fun b => w1.heap.size ≤ b ∧ b < w4.heap.size) u3 2 ((setC raw).map encC) ∧ Sl wr (fun b => w.heap.size ≤ b) va 2 ((rawPut (raw.take i)).map encC) ∧ Sl wr (fun b => w.heap.size ≤ b) vb 2 (b.map encC) ∧ rightC b = true ∧ b.length + j ≤ 60) (fun s_ => match s_ with | (j, vb, b) => 60 - j) (0, va, (rawPut (raw.take i))) (Sub.cons rfl (Sub.cons rfl (Sub.cons rfl (Sub.cons rfl (Sub.int (b := (0 : Int)) rfl (by omega) Sub.nil))))) ⟨K0, (Nat.le_refl _), f9, f10, f11, f11, (by first | exact rawPut_right raw i (by assumption) | (have := rawPut_len raw i; omega)), (by first | exact rawPut_right raw i (by assumption) | (have := rawPut_len raw i; omega))⟩ ?_
    rintro ⟨j, vb, b⟩ w32 ⟨K0, z33, f34, f35, f36, f37, pr38, pr39⟩
    show CW _ _ _ _ _ _ [(1, .int .i64 at_), (4, .bool false), (5, .bool true), (7, vb), (11, .int .i64 (j : Int))] _
    refine cw_seq ?_
    refine cw_seq ?_
    refine cw_region ?_
    refine rw_ev (ev_move rfl) rfl rfl rfl ?_
    refine rw_ev (v := .int .i64 (b.length : Int)) (ev_lenm (l := b) ⟨_, f37⟩ rfl el_46 rfl) rfl rfl rfl ?_
    refine rw_ev (ev_gtr rfl rfl) rfl rfl rfl ?_
    refine rw_ev (ev_move rfl) rfl rfl rfl ?_
    by_cases h40 : (0 : Int) < (b.length : Int)
    ·
     refine rw_ev (ev_move rfl) (gd_tt rfl (dec_t h40)) rfl rfl ?_
     refine rw_ev (ev_lss rfl rfl) (gd_tt rfl (dec_t h40)) rfl rfl ?_
     refine rw_ev (ev_pk_t rfl (dec_t h40) rfl) rfl rfl rfl ?_
     refine rw_nil ?_
     refine nw_seq ?_
     by_cases h41 : (j : Int) < 60
     ·
      refine cw_t (b := decide ((j : Int) < 60)) rfl (dec_t h41) ?_
      refine cw_skip ?_
      refine nw_seq ?_
      refine cw_seq ?_
      refine cw_block ?_
      refine cw_seq ?_
      refine cw_region ?_
      refine rw_ev (ev_move rfl) rfl rfl rfl ?_
      refine rw_ev (ev_move rfl) rfl rfl rfl ?_
      refine rw_ev (ev_move rfl) rfl rfl rfl ?_
      refine rw_ev (ev_move rfl) rfl rfl rfl ?_
      refine rw_ev (v := .int .i64 (b.length : Int)) (ev_lenm (l := b) ⟨_, f37⟩ rfl el_46 rfl) rfl rfl rfl ?_
      refine rw_op (op_fn (xs := [.tmp 66, .tmp 68]) ent_60 rfl (c_pick60 w32 at_ (b.length : Int) (by omega) (by omega))) rfl rfl rfl ?_
      rintro _ w42 ⟨rfl, k43, pr44⟩
      replace K0 := Ex.trans K0 k43
      replace f34 := f34.ex k43
      replace f35 := f35.ex k43
      replace f36 := f36.ex k43
      replace f37 := f37.ex k43
      have zw42 := k43.size
      obtain ⟨c45, hc46⟩ := get_of (l := b) (i := (pickI at_ (b.length : Int)).toNat) (by omega)
      have hmc45 := List.mem_of_getElem? hc46
      have hwc45 := with_del (by assumption : rightC b = true) (right_in2 (by assumption : rightC b = true) hmc45)
      have hdc45 := del_len (by assumption : rightC b = true) hmc45
      refine rw_ev (v := elemPtr vb ((pickI at_ (b.length : Int)).toNat) 2 0) (ev_slAt (i := pickI at_ (b.length : Int)) ⟨_, f37⟩ rfl rfl el_46 (idx_ok (i := pickI at_ (b.length : Int)) hc46 (by omega))) rfl rfl rfl ?_
      refine rw_ev (v := .agg #[.int .i64 c45.1, .int .i64 c45.2]) (ev_elLoadk (us := [.int .i64 c45.1, .int .i64 c45.2]) (fun _ h => h ▸ f37) ⟨_, rfl⟩ rfl (get_enc hc46) agg_55 (by decide) rfl rfl) rfl rfl rfl ?_
      refine rw_op (op_fn (xs := [.tmp 64, .tmp 71, .const (.bool false)]) ent_61 rfl (c_cwith w42 vb b (Sl.below f37) c45 false)) rfl rfl rfl ?_
      rintro _ w48 ⟨u47, rfl, k49, sl50⟩
      replace K0 := Ex.trans K0 k49
      replace f34 := f34.ex k49
      replace f35 := f35.ex k49
      replace f36 := f36.ex k49
      replace f37 := f37.ex k49
      have zw48 := k49.size
      refine rw_ev (ev_move rfl) rfl rfl rfl ?_
      refine rw_ev (ev_extract rfl rfl) rfl rfl rfl ?_
      refine rw_ev (ev_extract rfl rfl) rfl rfl rfl ?_
      refine rw_ev (ev_assign rfl) rfl rfl rfl ?_
      refine rw_ev (ev_assign rfl) rfl rfl rfl ?_
      refine rw_nil ?_
      refine nw_seq ?_
      refine cw_seq ?_
      refine cw_seq ?_
      refine cw_region ?_
      refine rw_ev (ev_move rfl) rfl rfl rfl ?_
      refine rw_ev (ev_ne rfl rfl) rfl rfl rfl ?_
      refine rw_ev (ev_move rfl) rfl rfl rfl ?_
      refine rw_ev (ev_move rfl) (gd_ff rfl (dec_f (by exact fun h_ => h_ (congrArg Prod.snd (by assumption : withC b _ false = _))))) rfl rfl ?_
      refine rw_ev (v := .int .i64 (((withC b c45 false).1).length : Int)) (ev_lenm (l := (withC b c45 false).1) ⟨_, sl50⟩ rfl el_46 rfl) (gd_ff rfl (dec_f (by exact fun h_ => h_ (congrArg Prod.snd (by assumption : withC b _ false = _))))) rfl rfl ?_
      refine rw_ev (ev_move rfl) (gd_ff rfl (dec_f (by exact fun h_ => h_ (congrArg Prod.snd (by assumption : withC b _ false = _))))) rfl rfl ?_
      refine rw_ev (v := .int .i64 (b.length : Int)) (ev_lenm (l := b) ⟨_, f37⟩ rfl el_46 rfl) (gd_ff rfl (dec_f (by exact fun h_ => h_ (congrArg Prod.snd (by assumption : withC b _ false = _))))) rfl rfl ?_
      refine rw_ev (ev_sub rfl rfl (by omega)) (gd_ff rfl (dec_f (by exact fun h_ => h_ (congrArg Prod.snd (by assumption : withC b _ false = _))))) rfl rfl ?_
      refine rw_ev (ev_ne rfl rfl) (gd_ff rfl (dec_f (by exact fun h_ => h_ (congrArg Prod.snd (by assumption : withC b _ false = _))))) rfl rfl ?_
      refine rw_ev (ev_pk_f rfl (dec_f (by exact fun h_ => h_ (congrArg Prod.snd (by assumption : withC b _ false = _)))) rfl) rfl rfl rfl ?_
      refine rw_ev (ev_move rfl) rfl rfl rfl ?_
      refine rw_ev (ev_move rfl) (gd_ff rfl (dec_f (by rw [(by assumption : withC b _ false = _)]; simp only; omega))) rfl rfl ?_
      refine rw_op (op_fn (xs := [.tmp 86]) ent_58 rfl (c_cright w48 u47 ((withC b c45 false).1) (Sl.below sl50))) (gd_ff rfl (dec_f (by rw [(by assumption : withC b _ false = _)]; simp only; omega))) rfl rfl ?_
      rintro _ w51 ⟨rfl, k52⟩
      replace K0 := Ex.trans K0 k52
      replace f34 := f34.ex k52
      replace f35 := f35.ex k52
      replace f36 := f36.ex k52
      replace f37 := f37.ex k52
      replace sl50 := sl50.ex k52
      have zw51 := k52.size
      refine rw_ev (ev_not rfl rfl) (gd_ff rfl (dec_f (by rw [(by assumption : withC b _ false = _)]; simp only; omega))) rfl rfl ?_
      refine rw_ev (ev_pk_f rfl (dec_f (by rw [(by assumption : withC b _ false = _)]; simp only; omega)) rfl) rfl rfl rfl ?_
      refine rw_nil ?_
      refine nw_seq ?_
      refine cw_f (b := !(rightC ((withC b c45 false).1))) rfl (not_f (by rw [(by assumption : withC b _ false = _)]; exact right_del (by assumption))) ?_
      refine cw_skip ?_
      refine nw_seq ?_
      refine cw_region ?_
      refine rw_ev (ev_move rfl) rfl rfl rfl ?_
      refine rw_ev (ev_assign rfl) rfl rfl rfl ?_
      refine rw_nil ?_
      refine nw_block ?_
      refine nw_seq ?_
      refine cw_region ?_
      refine rw_ev (ev_move rfl) rfl rfl rfl ?_
      refine rw_ev (ev_add rfl rfl (by omega)) rfl rfl rfl ?_
      refine rw_ev (ev_assign rfl) rfl rfl rfl ?_
      refine rw_nil ?_
      exact nw_round ((j + 1), u47, (withC b c45 false).1) (Sub.cons rfl (Sub.cons rfl (Sub.cons rfl (Sub.cons rfl (Sub.int (b := ((j + 1) : Int)) rfl (by omega) Sub.nil))))) ⟨K0, (Nat.le_trans z33 (Nat.le_trans zw42 (Nat.le_trans zw48 zw51))), f34, f35, f36, (by simpa using (Sl.mono sl50 (fun _ _ hb => Nat.le_trans (Nat.le_trans zw1 (Nat.le_trans zw4 (Nat.le_trans z8 (Nat.le_trans zw30 (Nat.le_trans z33 zw42))))) hb.1))), (by rw [(by assumption : withC b _ false = _)]; first | exact right_del (by assumption) | (simp only; omega)), (by rw [(by assumption : withC b _ false = _)]; first | exact right_del (by assumption) | (simp only; omega))⟩ (by first | omega | (dsimp only; omega))
     ·
      refine cw_f (b := decide ((j : Int) < 60)) rfl (dec_f h41) ?_
      refine cw_exit ?_
      refine xw_seq ?_
      refine xw_goal ?_
      refine xw_hit ?_
      refine nw_seq ?_
      refine cw_seq ?_
      refine cw_region ?_
      refine rw_ev (ev_move rfl) rfl rfl rfl ?_
      refine rw_ev (ev_move rfl) rfl rfl rfl ?_
      refine rw_ev (ev_move rfl) rfl rfl rfl ?_
      refine rw_ev (v := .int .i64 (b.length : Int)) (ev_lenm (l := b) ⟨_, f37⟩ rfl el_46 rfl) rfl rfl rfl ?_
      refine rw_ev (ev_eq rfl rfl) rfl rfl rfl ?_
      refine rw_ev (ev_pk_t rfl rfl rfl) rfl rfl rfl ?_
      refine rw_ev (ev_assign rfl) rfl rfl rfl ?_
      refine rw_nil ?_
      refine nw_seq ?_
      refine cw_ret ?_
      refine ret_post (rs := [.tmp 4]) (vs := [.bool (decide ((b.length : Int) = 0))]) rfl (.tmp rfl .nil) ?_
      refine ⟨?_, K0⟩
      · show (.bool (decide ((b.length : Int) = 0)) : Value) = _
        refine congrArg Value.bool ?_
        first | rfl | exact decide_eq_true (by omega) | (exfalso; omega)
    ·
     refine rw_skip (gd_tf rfl (dec_f h40)) rfl rfl ?_
     refine rw_skip (gd_tf rfl (dec_f h40)) rfl rfl ?_
     refine rw_ev (ev_pk_f rfl (dec_f h40) rfl) rfl rfl rfl ?_
     refine rw_nil ?_
     refine nw_seq ?_
     refine cw_f (b := false) rfl rfl ?_
     refine cw_exit ?_
     refine xw_seq ?_
     refine xw_goal ?_
     refine xw_hit ?_
     refine nw_seq ?_
     refine cw_seq ?_
     refine cw_region ?_
     refine rw_ev (ev_move rfl) rfl rfl rfl ?_
     refine rw_ev (ev_move rfl) rfl rfl rfl ?_
     refine rw_ev (ev_move rfl) rfl rfl rfl ?_
     refine rw_ev (v := .int .i64 (b.length : Int)) (ev_lenm (l := b) ⟨_, f37⟩ rfl el_46 rfl) rfl rfl rfl ?_
     refine rw_ev (ev_eq rfl rfl) rfl rfl rfl ?_
     refine rw_ev (ev_pk_t rfl rfl rfl) rfl rfl rfl ?_
     refine rw_ev (ev_assign rfl) rfl rfl rfl ?_
     refine rw_nil ?_
     refine nw_seq ?_
     refine cw_ret ?_
     refine ret_post (rs := [.tmp 4]) (vs := [.bool (decide ((b.length : Int) = 0))]) rfl (.tmp rfl .nil) ?_
     refine ⟨?_, K0⟩
     · show (.bool (decide ((b.length : Int) = 0)) : Value) = _
       refine congrArg Value.bool ?_
       first | rfl | exact decide_eq_true (by omega) | (exfalso; omega)
  ·
   refine rw_skip (gd_tf rfl (dec_f h14)) rfl rfl ?_
   refine rw_skip (gd_tf rfl (dec_f h14)) rfl rfl ?_
   refine rw_ev (ev_pk_f rfl (dec_f h14) rfl) rfl rfl rfl ?_
   refine rw_nil ?_
   refine nw_seq ?_
   refine cw_f (b := false) rfl rfl ?_
   refine cw_exit ?_
   refine xw_seq ?_
   refine xw_goal ?_
   refine xw_hit ?_
   refine nw_seq ?_
   refine cw_seq ?_
   refine cw_seq ?_
   refine cw_region ?_
   refine rw_ev (ev_move rfl) rfl rfl rfl ?_
   refine rw_ev (ev_move rfl) rfl rfl rfl ?_
   refine rw_op (op_fn (xs := [.tmp 50, .tmp 51]) ent_37 rfl (c_same w7 va (rawPut (raw.take i)) (Sl.below f11) u3 (setC raw) (Sl.below f10))) rfl rfl rfl ?_
   rintro _ w53 ⟨rfl, k54⟩
   replace K0 := Ex.trans K0 k54
   replace f9 := f9.ex k54
   replace f10 := f10.ex k54
   replace f11 := f11.ex k54
   have zw53 := k54.size
   refine rw_ev (ev_not rfl rfl) rfl rfl rfl ?_
   refine rw_nil ?_
   refine nw_seq ?_
   refine cw_f (b := !(sameC (rawPut (raw.take i)) (setC raw))) rfl (not_f (by rw [take_cap (n := 60) (by assumption : i ≤ 60) (by omega : raw.length ≤ i ∨ 60 ≤ i)]; exact same_self _)) ?_
   refine cw_skip ?_
   refine nw_seq ?_
   refine cw_seq ?_
   refine cw_seq ?_
   refine cw_region ?_
   refine rw_ev (ev_assign rfl) rfl rfl rfl ?_
   refine rw_nil ?_
   refine nw_seq ?_
   refine cw_block ?_
   refine cw_loop (σ := Nat × Value × List Cell) (fun s_ => match s_ with | (j, vb, b) => [(1, .int .i64 at_), (4, .bool false), (5, .bool true), (7, vb), (11, .int .i64 (j : Int))]) (fun s_ wr => match s_ with | (j, vb, b) => Ex w wr ∧ w53.heap.size ≤ wr.heap.size ∧ Sl wr (fun b => b < w.heap.size) rv 2 (raw.map encC) ∧ Sl wr (fun b => w1.heap.size ≤ b ∧ b < w4.heap.size) u3 2 ((setC raw).map encC) ∧ Sl wr (fun b => w.heap.size ≤ b) va 2 ((rawPut (raw.take i)).map encC) ∧ Sl wr (fun b => w.heap.size ≤ b) vb 2 (b.map encC) ∧ rightC b = true ∧ b.length + j ≤ 60) (fun s_ => match s_ with | (j, vb, b) => 60 - j) (0, va, (rawPut (raw.take i))) (Sub.cons rfl (Sub.cons rfl (Sub.cons rfl (Sub.cons rfl (Sub.int (b := (0 : Int)) rfl (by omega) Sub.nil))))) ⟨K0, (Nat.le_refl _), f9, f10, f11, f11, (by first | exact rawPut_right raw i (by assumption) | (have := rawPut_len raw i; omega)), (by first | exact rawPut_right raw i (by assumption) | (have := rawPut_len raw i; omega))⟩ ?_
   rintro ⟨j, vb, b⟩ w55 ⟨K0, z56, f57, f58, f59, f60, pr61, pr62⟩
   show CW _ _ _ _ _ _ [(1, .int .i64 at_), (4, .bool false), (5, .bool true), (7, vb), (11, .int .i64 (j : Int))] _
   refine cw_seq ?_
   refine cw_seq ?_
   refine cw_region ?_
   refine rw_ev (ev_move rfl) rfl rfl rfl ?_
   refine rw_ev (v := .int .i64 (b.length : Int)) (ev_lenm (l := b) ⟨_, f60⟩ rfl el_46 rfl) rfl rfl rfl ?_
   refine rw_ev (ev_gtr rfl rfl) rfl rfl rfl ?_
   refine rw_ev (ev_move rfl) rfl rfl rfl ?_
   by_cases h63 : (0 : Int) < (b.length : Int)
   ·
    refine rw_ev (ev_move rfl) (gd_tt rfl (dec_t h63)) rfl rfl ?_
    refine rw_ev (ev_lss rfl rfl) (gd_tt rfl (dec_t h63)) rfl rfl ?_
    refine rw_ev (ev_pk_t rfl (dec_t h63) rfl) rfl rfl rfl ?_
    refine rw_nil ?_
    refine nw_seq ?_
    by_cases h64 : (j : Int) < 60
    ·
     refine cw_t (b := decide ((j : Int) < 60)) rfl (dec_t h64) ?_
     refine cw_skip ?_
     refine nw_seq ?_
     refine cw_seq ?_
     refine cw_block ?_
     refine cw_seq ?_
     refine cw_region ?_
     refine rw_ev (ev_move rfl) rfl rfl rfl ?_
     refine rw_ev (ev_move rfl) rfl rfl rfl ?_
     refine rw_ev (ev_move rfl) rfl rfl rfl ?_
     refine rw_ev (ev_move rfl) rfl rfl rfl ?_
     refine rw_ev (v := .int .i64 (b.length : Int)) (ev_lenm (l := b) ⟨_, f60⟩ rfl el_46 rfl) rfl rfl rfl ?_
     refine rw_op (op_fn (xs := [.tmp 66, .tmp 68]) ent_60 rfl (c_pick60 w55 at_ (b.length : Int) (by omega) (by omega))) rfl rfl rfl ?_
     rintro _ w65 ⟨rfl, k66, pr67⟩
     replace K0 := Ex.trans K0 k66
     replace f57 := f57.ex k66
     replace f58 := f58.ex k66
     replace f59 := f59.ex k66
     replace f60 := f60.ex k66
     have zw65 := k66.size
     obtain ⟨c68, hc69⟩ := get_of (l := b) (i := (pickI at_ (b.length : Int)).toNat) (by omega)
     have hmc68 := List.mem_of_getElem? hc69
     have hwc68 := with_del (by assumption : rightC b = true) (right_in2 (by assumption : rightC b = true) hmc68)
     have hdc68 := del_len (by assumption : rightC b = true) hmc68
     refine rw_ev (v := elemPtr vb ((pickI at_ (b.length : Int)).toNat) 2 0) (ev_slAt (i := pickI at_ (b.length : Int)) ⟨_, f60⟩ rfl rfl el_46 (idx_ok (i := pickI at_ (b.length : Int)) hc69 (by omega))) rfl rfl rfl ?_
     refine rw_ev (v := .agg #[.int .i64 c68.1, .int .i64 c68.2]) (ev_elLoadk (us := [.int .i64 c68.1, .int .i64 c68.2]) (fun _ h => h ▸ f60) ⟨_, rfl⟩ rfl (get_enc hc69) agg_55 (by decide) rfl rfl) rfl rfl rfl ?_
     refine rw_op (op_fn (xs := [.tmp 64, .tmp 71, .const (.bool false)]) ent_61 rfl (c_cwith w65 vb b (Sl.below f60) c68 false)) rfl rfl rfl ?_
     rintro _ w71 ⟨u70, rfl, k72, sl73⟩
     replace K0 := Ex.trans K0 k72
     replace f57 := f57.ex k72
     replace f58 := f58.ex k72
     replace f59 := f59.ex k72
     replace f60 := f60.ex k72
     have zw71 := k72.size
     refine rw_ev (ev_move rfl) rfl rfl rfl ?_
     refine rw_ev (ev_extract rfl rfl) rfl rfl rfl ?_
     refine rw_ev (ev_extract rfl rfl) rfl rfl rfl ?_
     refine rw_ev (ev_assign rfl) rfl rfl rfl ?_
     refine rw_ev (ev_assign rfl) rfl rfl rfl ?_
     refine rw_nil ?_
     refine nw_seq ?_
     refine cw_seq ?_
     refine cw_seq ?_
     refine cw_region ?_
     refine rw_ev (ev_move rfl) rfl rfl rfl ?_
     refine rw_ev (ev_ne rfl rfl) rfl rfl rfl ?_
     refine rw_ev (ev_move rfl) rfl rfl rfl ?_
     refine rw_ev (ev_move rfl) (gd_ff rfl (dec_f (by exact fun h_ => h_ (congrArg Prod.snd (by assumption : withC b _ false = _))))) rfl rfl ?_
     refine rw_ev (v := .int .i64 (((withC b c68 false).1).length : Int)) (ev_lenm (l := (withC b c68 false).1) ⟨_, sl73⟩ rfl el_46 rfl) (gd_ff rfl (dec_f (by exact fun h_ => h_ (congrArg Prod.snd (by assumption : withC b _ false = _))))) rfl rfl ?_
     refine rw_ev (ev_move rfl) (gd_ff rfl (dec_f (by exact fun h_ => h_ (congrArg Prod.snd (by assumption : withC b _ false = _))))) rfl rfl ?_
     refine rw_ev (v := .int .i64 (b.length : Int)) (ev_lenm (l := b) ⟨_, f60⟩ rfl el_46 rfl) (gd_ff rfl (dec_f (by exact fun h_ => h_ (congrArg Prod.snd (by assumption : withC b _ false = _))))) rfl rfl ?_
     refine rw_ev (ev_sub rfl rfl (by omega)) (gd_ff rfl (dec_f (by exact fun h_ => h_ (congrArg Prod.snd (by assumption : withC b _ false = _))))) rfl rfl ?_
     refine rw_ev (ev_ne rfl rfl) (gd_ff rfl (dec_f (by exact fun h_ => h_ (congrArg Prod.snd (by assumption : withC b _ false = _))))) rfl rfl ?_
     refine rw_ev (ev_pk_f rfl (dec_f (by exact fun h_ => h_ (congrArg Prod.snd (by assumption : withC b _ false = _)))) rfl) rfl rfl rfl ?_
     refine rw_ev (ev_move rfl) rfl rfl rfl ?_
     refine rw_ev (ev_move rfl) (gd_ff rfl (dec_f (by rw [(by assumption : withC b _ false = _)]; simp only; omega))) rfl rfl ?_
     refine rw_op (op_fn (xs := [.tmp 86]) ent_58 rfl (c_cright w71 u70 ((withC b c68 false).1) (Sl.below sl73))) (gd_ff rfl (dec_f (by rw [(by assumption : withC b _ false = _)]; simp only; omega))) rfl rfl ?_
     rintro _ w74 ⟨rfl, k75⟩
     replace K0 := Ex.trans K0 k75
     replace f57 := f57.ex k75
     replace f58 := f58.ex k75
     replace f59 := f59.ex k75
     replace f60 := f60.ex k75
     replace sl73 := sl73.ex k75
     have zw74 := k75.size
     refine rw_ev (ev_not rfl rfl) (gd_ff rfl (dec_f (by rw [(by assumption : withC b _ false = _)]; simp only; omega))) rfl rfl ?_
     refine rw_ev (ev_pk_f rfl (dec_f (by rw [(by assumption : withC b _ false = _)]; simp only; omega)) rfl) rfl rfl rfl ?_
     refine rw_nil ?_
     refine nw_seq ?_
     refine cw_f (b := !(rightC ((withC b c68 false).1))) rfl (not_f (by rw [(by assumption : withC b _ false = _)]; exact right_del (by assumption))) ?_
     refine cw_skip ?_
     refine nw_seq ?_
     refine cw_region ?_
     refine rw_ev (ev_move rfl) rfl rfl rfl ?_
     refine rw_ev (ev_assign rfl) rfl rfl rfl ?_
     refine rw_nil ?_
     refine nw_block ?_
     refine nw_seq ?_
     refine cw_region ?_
     refine rw_ev (ev_move rfl) rfl rfl rfl ?_
     refine rw_ev (ev_add rfl rfl (by omega)) rfl rfl rfl ?_
     refine rw_ev (ev_assign rfl) rfl rfl rfl ?_
     refine rw_nil ?_
     exact nw_round ((j + 1), u70, (withC b c68 false).1) (Sub.cons rfl (Sub.cons rfl (Sub.cons rfl (Sub.cons rfl (Sub.int (b := ((j + 1) : Int)) rfl (by omega) Sub.nil))))) ⟨K0, (Nat.le_trans z56 (Nat.le_trans zw65 (Nat.le_trans zw71 zw74))), f57, f58, f59, (by simpa using (Sl.mono sl73 (fun _ _ hb => Nat.le_trans (Nat.le_trans zw1 (Nat.le_trans zw4 (Nat.le_trans z8 (Nat.le_trans zw53 (Nat.le_trans z56 zw65))))) hb.1))), (by rw [(by assumption : withC b _ false = _)]; first | exact right_del (by assumption) | (simp only; omega)), (by rw [(by assumption : withC b _ false = _)]; first | exact right_del (by assumption) | (simp only; omega))⟩ (by first | omega | (dsimp only; omega))
    ·
     refine cw_f (b := decide ((j : Int) < 60)) rfl (dec_f h64) ?_
     refine cw_exit ?_
     refine xw_seq ?_
     refine xw_goal ?_
     refine xw_hit ?_
     refine nw_seq ?_
     refine cw_seq ?_
     refine cw_region ?_
     refine rw_ev (ev_move rfl) rfl rfl rfl ?_
     refine rw_ev (ev_move rfl) rfl rfl rfl ?_
     refine rw_ev (ev_move rfl) rfl rfl rfl ?_
     refine rw_ev (v := .int .i64 (b.length : Int)) (ev_lenm (l := b) ⟨_, f60⟩ rfl el_46 rfl) rfl rfl rfl ?_
     refine rw_ev (ev_eq rfl rfl) rfl rfl rfl ?_
     refine rw_ev (ev_pk_t rfl rfl rfl) rfl rfl rfl ?_
     refine rw_ev (ev_assign rfl) rfl rfl rfl ?_
     refine rw_nil ?_
     refine nw_seq ?_
     refine cw_ret ?_
     refine ret_post (rs := [.tmp 4]) (vs := [.bool (decide ((b.length : Int) = 0))]) rfl (.tmp rfl .nil) ?_
     refine ⟨?_, K0⟩
     · show (.bool (decide ((b.length : Int) = 0)) : Value) = _
       refine congrArg Value.bool ?_
       first | rfl | exact decide_eq_true (by omega) | (exfalso; omega)
   ·
    refine rw_skip (gd_tf rfl (dec_f h63)) rfl rfl ?_
    refine rw_skip (gd_tf rfl (dec_f h63)) rfl rfl ?_
    refine rw_ev (ev_pk_f rfl (dec_f h63) rfl) rfl rfl rfl ?_
    refine rw_nil ?_
    refine nw_seq ?_
    refine cw_f (b := false) rfl rfl ?_
    refine cw_exit ?_
    refine xw_seq ?_
    refine xw_goal ?_
    refine xw_hit ?_
    refine nw_seq ?_
    refine cw_seq ?_
    refine cw_region ?_
    refine rw_ev (ev_move rfl) rfl rfl rfl ?_
    refine rw_ev (ev_move rfl) rfl rfl rfl ?_
    refine rw_ev (ev_move rfl) rfl rfl rfl ?_
    refine rw_ev (v := .int .i64 (b.length : Int)) (ev_lenm (l := b) ⟨_, f60⟩ rfl el_46 rfl) rfl rfl rfl ?_
    refine rw_ev (ev_eq rfl rfl) rfl rfl rfl ?_
    refine rw_ev (ev_pk_t rfl rfl rfl) rfl rfl rfl ?_
    refine rw_ev (ev_assign rfl) rfl rfl rfl ?_
    refine rw_nil ?_
    refine nw_seq ?_
    refine cw_ret ?_
    refine ret_post (rs := [.tmp 4]) (vs := [.bool (decide ((b.length : Int) = 0))]) rfl (.tmp rfl .nil) ?_
    refine ⟨?_, K0⟩
    · show (.bool (decide ((b.length : Int) = 0)) : Value) = _
      refine congrArg Value.bool ?_
      first | rfl | exact decide_eq_true (by omega) | (exfalso; omega)

end Go.Proofs.Ythpaadmpgdglnaa
