/- How a cell and a set are turned. Each theorem names its conditions. -/
import Derived.Test.YthpaadmpgdglnaaFk
import Derived.Test.YthpaadmpgdglnaaDh
namespace Go.Proofs.Ythpaadmpgdglnaa
open Go Go.RowKit
set_option linter.unusedVariables false
set_option linter.unusedSimpArgs false
set_option maxRecDepth 100000
set_option maxHeartbeats 4000000

theorem c_turn (w : World) (c : Cell) (way : Int) (hs : Small 1099511627776 c) (hway64 : -9223372036854775808 ≤ way ∧ way ≤ 9223372036854775807) : Fn Try.prog 97 [.agg #[.int .i64 c.1, .int .i64 c.2], .int .i64 way] w (fun v w' =>  v = .agg #[.int .i64 ((turnC way c).1), .int .i64 ((turnC way c).2)] ∧ Ex w w') := by
  have K0 : Ex w w := Kp.refl _ _
  refine fn_enter (n := 30) Try.func97 rfl rfl (Nat.le_of_ble_eq_true rfl) ?_
  show CW _ _ _ _ _ _ [(0, .agg #[.int .i64 c.1, .int .i64 c.2]), (1, .int .i64 way)] _
  have hp_ := pickI_bd way 8 (by omega)
  have hs0_ := hs
  unfold Small at hs0_
  have hf_ := flip_small way hs
  refine cw_seq ?_
  refine cw_region ?_
  refine rw_op (op_box (v := .agg #[.int .i64 c.1, .int .i64 c.2]) (cs := #[.int .i64 c.1, .int .i64 c.2]) rfl rfl) rfl rfl rfl ?_
  rintro _ w2 ⟨g1, rfl, hg3, k4, b5⟩
  replace K0 := Ex.trans K0 k4
  have zw2 := k4.size
  have lg1 := b5.lt
  refine rw_op (op_alloc zero_55) rfl rfl rfl ?_
  rintro _ w7 ⟨g6, rfl, hg8, k9, b10⟩
  replace K0 := Ex.trans K0 k9
  replace b5 := b5.ex k9
  have zw7 := k9.size
  have lg6 := b10.lt
  refine rw_nil ?_
  refine nw_seq ?_
  refine cw_seq ?_
  refine cw_region ?_
  refine rw_ev (ev_move rfl) rfl rfl rfl ?_
  refine rw_op (op_fn (xs := [.tmp 7, .const (.int .i64 8)]) ent_46 rfl (c_pick46 w7 way (8 : Int) (by omega) (by omega))) rfl rfl rfl ?_
  rintro _ w11 ⟨rfl, k12, pr13⟩
  replace K0 := Ex.trans K0 k12
  replace b5 := b5.ex k12
  replace b10 := b10.ex k12
  have zw11 := k12.size
  refine rw_ev (ev_assign rfl) rfl rfl rfl ?_
  refine rw_nil ?_
  refine nw_seq ?_
  refine cw_seq ?_
  refine cw_seq ?_
  refine cw_region ?_
  refine rw_ev (ev_move rfl) rfl rfl rfl ?_
  refine rw_ev (ev_geq rfl rfl) rfl rfl rfl ?_
  refine rw_nil ?_
  refine nw_seq ?_
  refine cw_mid (σ := Unit) (fun _ => [(2, .pointer (some ⟨g1, 0, none⟩)), (4, .pointer (some ⟨g6, 0, none⟩)), (5, .int .i64 (pickI way (8 : Int)))]) (fun _ wr => Ex w wr ∧ w11.heap.size ≤ wr.heap.size ∧ Bx wr g6 55 #[.int .i64 0, .int .i64 0] ∧ Bx wr g1 55 #[.int .i64 ((flipC way c).1), .int .i64 ((flipC way c).2)]) ?_ ?_
  ·
   by_cases h14 : (4 : Int) ≤ (pickI way (8 : Int))
   ·
    refine cw_t (b := decide ((4 : Int) ≤ (pickI way (8 : Int)))) rfl (dec_t h14) ?_
    refine cw_region ?_
    refine rw_ev (v := .pointer (some ⟨g1, 0, none⟩)) (ev_field (o := 0) rfl foff_55_0) rfl rfl rfl ?_
    refine rw_ev (v := .int .i64 c.1) (ev_lb1 (off := 0) (fun _ h => h ▸ b5) rfl one_3 rfl) rfl rfl rfl ?_
    refine rw_ev (ev_neg rfl (by omega)) rfl rfl rfl ?_
    refine rw_ev (v := .pointer (some ⟨g1, 1, none⟩)) (ev_field (o := 1) rfl foff_55_1) rfl rfl rfl ?_
    refine rw_ev (v := .int .i64 c.2) (ev_lb1 (off := 1) (fun _ h => h ▸ b5) rfl one_3 rfl) rfl rfl rfl ?_
    refine rw_ev (v := .agg #[.int .i64 (-c.1), .int .i64 c.2]) (ev_pure rfl rfl (fun _ => by kernel_rfl)) rfl rfl rfl ?_
    refine rw_none (op_store (off := 0) (v := .agg #[.int .i64 (-c.1), .int .i64 c.2]) (cs' := #[.int .i64 (-c.1), .int .i64 c.2]) b5 rfl rfl size_55 rfl (Nat.le_of_ble_eq_true rfl) (one_cons rfl (one_cons rfl one_nil)) rfl) rfl rfl ?_
    rintro _ w15 ⟨k16, b17⟩
    replace K0 := Ex.kp_new K0 k16 (fun _ h => h ▸ Nat.le_trans (Nat.le_refl _) hg3)
    replace b10 := b10.kp k16 (Nat.ne_of_gt (Nat.lt_of_lt_of_le lg1 (Nat.le_trans (Nat.le_refl _) hg8)))
    have zw15 := k16.size
    refine rw_nil ?_
    exact nw_cut () (Sub.cons rfl (Sub.cons rfl (Sub.cons rfl Sub.nil))) ⟨K0, zw15, b10, (by have hq := b17; unfold flipC; first | (rw [if_pos (by assumption)]; exact hq) | (rw [if_neg (by assumption)]; exact hq))⟩
   ·
    refine cw_f (b := decide ((4 : Int) ≤ (pickI way (8 : Int)))) rfl (dec_f h14) ?_
    refine cw_skip ?_
    exact nw_cut () (Sub.cons rfl (Sub.cons rfl (Sub.cons rfl Sub.nil))) ⟨K0, (Nat.le_refl _), b10, (by have hq := b5; unfold flipC; first | (rw [if_pos (by assumption)]; exact hq) | (rw [if_neg (by assumption)]; exact hq))⟩
  ·
   rintro _ w18 ⟨K0, z19, f20, f21⟩
   show NW _ _ _ _ _ [(2, .pointer (some ⟨g1, 0, none⟩)), (4, .pointer (some ⟨g6, 0, none⟩)), (5, .int .i64 (pickI way (8 : Int)))] _
   refine nw_seq ?_
   refine cw_seq ?_
   refine cw_seq ?_
   refine cw_region ?_
   refine rw_ev (ev_assign rfl) rfl rfl rfl ?_
   refine rw_nil ?_
   refine nw_seq ?_
   refine cw_block ?_
   refine cw_loop (σ := Nat) (fun i => [(2, .pointer (some ⟨g1, 0, none⟩)), (4, .pointer (some ⟨g6, 0, none⟩)), (5, .int .i64 (pickI way (8 : Int))), (6, .int .i64 (i : Int))]) (fun i wr => Ex w wr ∧ w18.heap.size ≤ wr.heap.size ∧ Bx wr g6 55 #[.int .i64 0, .int .i64 0] ∧ Bx wr g1 55 #[.int .i64 ((rotN i (flipC way c)).1), .int .i64 ((rotN i (flipC way c)).2)] ∧ (i : Int) ≤ pickI way 8 % 4) (fun i => (pickI way 8 % 4).toNat - i) 0 (Sub.cons rfl (Sub.cons rfl (Sub.cons rfl (Sub.int (b := (0 : Int)) rfl (by omega) Sub.nil)))) ⟨K0, (Nat.le_refl _), f20, (by exact f21), (by omega)⟩ ?_
   rintro i w22 ⟨K0, z23, f24, f25, pr26⟩
   show CW _ _ _ _ _ _ [(2, .pointer (some ⟨g1, 0, none⟩)), (4, .pointer (some ⟨g6, 0, none⟩)), (5, .int .i64 (pickI way (8 : Int))), (6, .int .i64 (i : Int))] _
   have hs_ := rotN_small hf_ i
   unfold Small at hs_
   refine cw_seq ?_
   refine cw_seq ?_
   refine cw_region ?_
   refine rw_ev (ev_move rfl) rfl rfl rfl ?_
   refine rw_ev (ev_move rfl) rfl rfl rfl ?_
   refine rw_ev (ev_rem rfl rfl (by omega)) rfl rfl rfl ?_
   refine rw_ev (ev_lss rfl rfl) rfl rfl rfl ?_
   refine rw_nil ?_
   refine nw_seq ?_
   by_cases h27 : (i : Int) < ((pickI way (8 : Int)) % 4)
   ·
    refine cw_t (b := decide ((i : Int) < ((pickI way (8 : Int)) % 4))) rfl (dec_t h27) ?_
    refine cw_skip ?_
    refine nw_seq ?_
    refine cw_seq ?_
    refine cw_block ?_
    refine cw_region ?_
    refine rw_ev (v := .pointer (some ⟨g1, 1, none⟩)) (ev_field (o := 1) rfl foff_55_1) rfl rfl rfl ?_
    refine rw_ev (v := .int .i64 ((rotN i (flipC way c)).2)) (ev_lb1 (off := 1) (fun _ h => h ▸ f25) rfl one_3 rfl) rfl rfl rfl ?_
    refine rw_ev (ev_neg rfl (by omega)) rfl rfl rfl ?_
    refine rw_ev (v := .pointer (some ⟨g1, 0, none⟩)) (ev_field (o := 0) rfl foff_55_0) rfl rfl rfl ?_
    refine rw_ev (v := .int .i64 ((rotN i (flipC way c)).1)) (ev_lb1 (off := 0) (fun _ h => h ▸ f25) rfl one_3 rfl) rfl rfl rfl ?_
    refine rw_ev (v := .agg #[.int .i64 (-((rotN i (flipC way c)).2)), .int .i64 ((rotN i (flipC way c)).1)]) (ev_pure rfl rfl (fun _ => by kernel_rfl)) rfl rfl rfl ?_
    refine rw_none (op_store (off := 0) (v := .agg #[.int .i64 (-((rotN i (flipC way c)).2)), .int .i64 ((rotN i (flipC way c)).1)]) (cs' := #[.int .i64 (-((rotN i (flipC way c)).2)), .int .i64 ((rotN i (flipC way c)).1)]) f25 rfl rfl size_55 rfl (Nat.le_of_ble_eq_true rfl) (one_cons rfl (one_cons rfl one_nil)) rfl) rfl rfl ?_
    rintro _ w28 ⟨k29, b30⟩
    replace K0 := Ex.kp_new K0 k29 (fun _ h => h ▸ Nat.le_trans (Nat.le_refl _) hg3)
    replace f24 := f24.kp k29 (Nat.ne_of_gt (Nat.lt_of_lt_of_le lg1 (Nat.le_trans (Nat.le_refl _) hg8)))
    have zw28 := k29.size
    refine rw_nil ?_
    refine nw_block ?_
    refine nw_seq ?_
    refine cw_region ?_
    refine rw_ev (ev_move rfl) rfl rfl rfl ?_
    refine rw_ev (ev_add rfl rfl (by omega)) rfl rfl rfl ?_
    refine rw_ev (ev_assign rfl) rfl rfl rfl ?_
    refine rw_nil ?_
    exact nw_round (i + 1) (Sub.cons rfl (Sub.cons rfl (Sub.cons rfl (Sub.int (b := ((i + 1) : Int)) rfl (by omega) Sub.nil)))) ⟨K0, (Nat.le_trans z23 zw28), f24, (by exact b30), (by omega)⟩ (by first | omega | (dsimp only; omega))
   ·
    refine cw_f (b := decide ((i : Int) < ((pickI way (8 : Int)) % 4))) rfl (dec_f h27) ?_
    refine cw_exit ?_
    refine xw_seq ?_
    refine xw_goal ?_
    refine xw_hit ?_
    refine nw_seq ?_
    refine cw_seq ?_
    refine cw_region ?_
    refine rw_ev (v := .agg #[.int .i64 ((rotN i (flipC way c)).1), .int .i64 ((rotN i (flipC way c)).2)]) (ev_lbk (off := 0) (vs := [.int .i64 ((rotN i (flipC way c)).1), .int .i64 ((rotN i (flipC way c)).2)]) (fun _ h => h ▸ f25) rfl agg_55 rfl rfl) rfl rfl rfl ?_
    refine rw_none (op_store (off := 0) (v := .agg #[.int .i64 ((rotN i (flipC way c)).1), .int .i64 ((rotN i (flipC way c)).2)]) (cs' := #[.int .i64 ((rotN i (flipC way c)).1), .int .i64 ((rotN i (flipC way c)).2)]) f24 rfl rfl size_55 rfl (Nat.le_of_ble_eq_true rfl) (one_cons rfl (one_cons rfl one_nil)) rfl) rfl rfl ?_
    rintro _ w31 ⟨k32, b33⟩
    replace K0 := Ex.kp_new K0 k32 (fun _ h => h ▸ Nat.le_trans zw2 hg8)
    replace f25 := f25.kp k32 (Nat.ne_of_lt (Nat.lt_of_lt_of_le lg1 (Nat.le_trans (Nat.le_refl _) hg8)))
    have zw31 := k32.size
    refine rw_nil ?_
    refine nw_seq ?_
    refine cw_ret ?_
    refine ret_post (rs := [.cell 4 55]) (vs := [.agg #[.int .i64 ((rotN i (flipC way c)).1), .int .i64 ((rotN i (flipC way c)).2)]]) rfl (.cell rfl b33 agg_55 rfl .nil) ?_
    have hk_ : turnC way c = rotN i (flipC way c) := by
      unfold turnC; rw [show (pickI way 8 % 4).toNat = i by omega]
    refine ⟨?_, K0⟩
    · show (.agg #[.int .i64 ((rotN i (flipC way c)).1), .int .i64 ((rotN i (flipC way c)).2)] : Value) = _
      simp only [hk_]

theorem c_turned (w : World) (v : Value) (l : List Cell) (hv : Sl w (fun b => b < w.heap.size) v 2 (l.map encC)) (way : Int) (hs : ∀ c ∈ l, Small 1099511627776 c) (hn : l.length ≤ 2000) (hway64 : -9223372036854775808 ≤ way ∧ way ≤ 9223372036854775807) : Fn Try.prog 52 [v, .int .i64 way] w (fun v w' => ∃ u : Value, v = u ∧ Ex w w' ∧ Sl w' (fun b => w.heap.size ≤ b ∧ b < w'.heap.size) u 2 ((turnedC l way).map encC)) := by
  have K0 : Ex w w := Kp.refl _ _
  refine fn_enter (n := 22) Try.func52 rfl rfl (Nat.le_of_ble_eq_true rfl) ?_
  show CW _ _ _ _ _ _ [(0, v), (1, .int .i64 way)] _
  have hlv_ := hv.lenm
  refine cw_seq ?_
  refine cw_region ?_
  refine rw_ev (ev_assign rfl) rfl rfl rfl ?_
  refine rw_nil ?_
  refine nw_seq ?_
  refine cw_seq ?_
  refine cw_region ?_
  refine rw_ev (ev_assign rfl) rfl rfl rfl ?_
  refine rw_nil ?_
  refine nw_seq ?_
  refine cw_seq ?_
  refine cw_seq ?_
  refine cw_region ?_
  refine rw_ev (ev_assign rfl) rfl rfl rfl ?_
  refine rw_nil ?_
  refine nw_seq ?_
  refine cw_block ?_
  refine cw_loop (σ := Nat × Value) (fun s_ => match s_ with | (i, x) => [(0, v), (1, .int .i64 way), (4, .slice none 0 0), (5, x), (6, .int .i64 (i : Int))]) (fun s_ wr => match s_ with | (i, x) => Ex w wr ∧ w.heap.size ≤ wr.heap.size ∧ Sl wr (fun b => b < w.heap.size) v 2 (l.map encC) ∧ Sl wr (fun b => w.heap.size ≤ b) x 2 (((l.take i).foldl (fun o r => putC o (turnC way r)) []).map encC) ∧ i ≤ l.length) (fun s_ => match s_ with | (i, x) => l.length - i) (0, .slice none 0 0) (Sub.cons rfl (Sub.cons rfl (Sub.cons rfl (Sub.cons rfl (Sub.int (b := (0 : Int)) rfl (by omega) Sub.nil))))) ⟨K0, (Nat.le_refl _), hv, (Sl.nil _ _ _), (by omega)⟩ ?_
  rintro ⟨i, x⟩ w1 ⟨K0, z2, f3, f4, pr5⟩
  show CW _ _ _ _ _ _ [(0, v), (1, .int .i64 way), (4, .slice none 0 0), (5, x), (6, .int .i64 (i : Int))] _
  refine cw_seq ?_
  refine cw_seq ?_
  refine cw_region ?_
  refine rw_ev (ev_move rfl) rfl rfl rfl ?_
  refine rw_ev (ev_move rfl) rfl rfl rfl ?_
  refine rw_ev (v := .int .i64 (l.length : Int)) (ev_lenm (l := l) ⟨_, f3⟩ rfl el_46 rfl) rfl rfl rfl ?_
  refine rw_ev (ev_lss rfl rfl) rfl rfl rfl ?_
  refine rw_nil ?_
  refine nw_seq ?_
  by_cases h6 : (i : Int) < (l.length : Int)
  ·
   refine cw_t (b := decide ((i : Int) < (l.length : Int))) rfl (dec_t h6) ?_
   refine cw_skip ?_
   refine nw_seq ?_
   refine cw_seq ?_
   refine cw_block ?_
   refine cw_region ?_
   refine rw_ev (ev_move rfl) rfl rfl rfl ?_
   refine rw_ev (ev_move rfl) rfl rfl rfl ?_
   refine rw_ev (ev_move rfl) rfl rfl rfl ?_
   obtain ⟨c7, hc8⟩ := get_of (l := l) (i := i) (by omega)
   have hsc7 := hs _ (List.mem_of_getElem? hc8)
   refine rw_ev (v := elemPtr v i 2 0) (ev_slAt (i := (i : Int)) ⟨_, f3⟩ rfl rfl el_46 (idx_ok (i := (i : Int)) hc8 (by omega))) rfl rfl rfl ?_
   refine rw_ev (v := .agg #[.int .i64 c7.1, .int .i64 c7.2]) (ev_elLoadk (us := [.int .i64 c7.1, .int .i64 c7.2]) (fun _ h => h ▸ f3) ⟨_, rfl⟩ rfl (get_enc (f := encC) hc8) agg_55 (by decide) rfl rfl) rfl rfl rfl ?_
   refine rw_ev (ev_move rfl) rfl rfl rfl ?_
   refine rw_op (op_fn (xs := [.tmp 17, .tmp 18]) ent_97 rfl (c_turn w1 c7 way (by assumption) (by omega))) rfl rfl rfl ?_
   rintro _ w9 ⟨rfl, k10⟩
   replace K0 := Ex.trans K0 k10
   replace f3 := f3.ex k10
   replace f4 := f4.ex k10
   have zw9 := k10.size
   refine rw_op (op_fn (xs := [.tmp 13, .tmp 19]) ent_41 rfl (c_put w9 x ((l.take i).foldl (fun o r => putC o (turnC way r)) []) (Sl.below f4) (turnC way c7) (by have hp := setTake_len (turnC way) l i; omega))) rfl rfl rfl ?_
   rintro u11 w12 ⟨_, rfl, k13, sl14⟩
   replace K0 := Ex.trans K0 k13
   replace f3 := f3.ex k13
   replace f4 := f4.ex k13
   have zw12 := k13.size
   refine rw_ev (ev_assign rfl) rfl rfl rfl ?_
   refine rw_nil ?_
   refine nw_block ?_
   refine nw_seq ?_
   refine cw_region ?_
   refine rw_ev (ev_move rfl) rfl rfl rfl ?_
   refine rw_ev (ev_add rfl rfl (by omega)) rfl rfl rfl ?_
   refine rw_ev (ev_assign rfl) rfl rfl rfl ?_
   refine rw_nil ?_
   exact nw_round ((i + 1), u11) (Sub.cons rfl (Sub.cons rfl (Sub.cons rfl (Sub.cons rfl (Sub.int (b := ((i + 1) : Int)) rfl (by omega) Sub.nil))))) ⟨K0, (Nat.le_trans z2 (Nat.le_trans zw9 zw12)), f3, (by have hq := (Sl.mono sl14 (fun _ _ hb => Nat.le_trans (Nat.le_trans z2 zw9) hb.1)); rw [take_succ_fold (by assumption : l[i]? = some _)]; exact hq), (by omega)⟩ (by first | omega | (dsimp only; omega))
  ·
   refine cw_f (b := decide ((i : Int) < (l.length : Int))) rfl (dec_f h6) ?_
   refine cw_exit ?_
   refine xw_seq ?_
   refine xw_goal ?_
   refine xw_hit ?_
   refine nw_seq ?_
   refine cw_seq ?_
   refine cw_region ?_
   refine rw_ev (ev_move rfl) rfl rfl rfl ?_
   refine rw_ev (ev_assign rfl) rfl rfl rfl ?_
   refine rw_nil ?_
   refine nw_seq ?_
   refine cw_ret ?_
   refine ret_post (rs := [.tmp 4]) (vs := [x]) rfl (.tmp rfl .nil) ?_
   refine ⟨x, ?_, K0, ?_⟩
   · show (x : Value) = _
     first | rfl | simp
   · have hl_ : ((l.take i).foldl (fun o r => putC o (turnC way r)) []) = turnedC l way := by unfold turnedC; rw [take_all (by assumption : ¬ (i : Int) < l.length)]
     rw [← hl_]; exact (Sl.since f4 (fun _ hb => Nat.le_trans (Nat.le_refl _) hb))

end Go.Proofs.Ythpaadmpgdglnaa
