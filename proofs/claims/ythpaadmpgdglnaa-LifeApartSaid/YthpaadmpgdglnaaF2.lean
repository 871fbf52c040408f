/- What more functions of the document on sets compute. Each theorem names its conditions. -/
import Derived.Test.YthpaadmpgdglnaaF1
import Derived.Test.YthpaadmpgdglnaaD2
namespace Go.Proofs.Ythpaadmpgdglnaa
open Go Go.RowKit
set_option linter.unusedVariables false
set_option linter.unusedSimpArgs false
set_option maxRecDepth 100000
set_option maxHeartbeats 4000000

theorem c_pick60 (w : World) (c : Int) (n : Int) (hc : -9223372036854775808 ≤ c ∧ c ≤ 9223372036854775807) (hn : 1 ≤ n) : Fn Try.prog 60 [.int .i64 c, .int .i64 n] w (fun v w' =>  v = .int .i64 (pickI c n) ∧ Ex w w' ∧ (0 ≤ pickI c n ∧ pickI c n < n)) := by
  have K0 : Ex w w := Kp.refl _ _
  refine fn_enter (n := 13) Try.func60 rfl rfl (Nat.le_of_ble_eq_true rfl) ?_
  show CW _ _ _ _ _ _ [(0, .int .i64 c), (1, .int .i64 n)] _
  refine cw_seq ?_
  refine cw_region ?_
  refine rw_ev (ev_assign rfl) rfl rfl rfl ?_
  refine rw_nil ?_
  refine nw_seq ?_
  refine cw_seq ?_
  refine cw_seq ?_
  refine cw_region ?_
  refine rw_ev (ev_move rfl) rfl rfl rfl ?_
  refine rw_ev (ev_lss rfl rfl) rfl rfl rfl ?_
  refine rw_nil ?_
  refine nw_seq ?_
  by_cases h1 : c < 0
  ·
   refine cw_t (b := decide (c < 0)) rfl (dec_t h1) ?_
   refine cw_region ?_
   refine rw_ev (ev_move rfl) rfl rfl rfl ?_
   refine rw_ev (ev_add rfl rfl (by omega)) rfl rfl rfl ?_
   refine rw_ev (ev_neg rfl (by omega)) rfl rfl rfl ?_
   refine rw_ev (ev_assign rfl) rfl rfl rfl ?_
   refine rw_nil ?_
   refine nw_seq ?_
   refine cw_seq ?_
   refine cw_region ?_
   refine rw_ev (ev_move rfl) rfl rfl rfl ?_
   refine rw_ev (ev_move rfl) rfl rfl rfl ?_
   refine rw_ev (ev_rem rfl rfl (by omega)) rfl rfl rfl ?_
   refine rw_ev (ev_assign rfl) rfl rfl rfl ?_
   refine rw_nil ?_
   refine nw_seq ?_
   refine cw_ret ?_
   refine ret_post (rs := [.tmp 4]) (vs := [.int .i64 ((-(c + 1)) % n)]) rfl (.tmp rfl .nil) ?_
   refine ⟨?_, K0, ?_⟩
   · show (.int .i64 ((-(c + 1)) % n) : Value) = _
     simp [pickI, *]
   · exact pickI_bd _ _ (by omega)
  ·
   refine cw_f (b := decide (c < 0)) rfl (dec_f h1) ?_
   refine cw_skip ?_
   refine nw_seq ?_
   refine cw_seq ?_
   refine cw_region ?_
   refine rw_ev (ev_move rfl) rfl rfl rfl ?_
   refine rw_ev (ev_move rfl) rfl rfl rfl ?_
   refine rw_ev (ev_rem rfl rfl (by omega)) rfl rfl rfl ?_
   refine rw_ev (ev_assign rfl) rfl rfl rfl ?_
   refine rw_nil ?_
   refine nw_seq ?_
   refine cw_ret ?_
   refine ret_post (rs := [.tmp 4]) (vs := [.int .i64 (c % n)]) rfl (.tmp rfl .nil) ?_
   refine ⟨?_, K0, ?_⟩
   · show (.int .i64 (c % n) : Value) = _
     simp [pickI, *]
   · exact pickI_bd _ _ (by omega)

theorem c_pick46 (w : World) (c : Int) (n : Int) (hc : -9223372036854775808 ≤ c ∧ c ≤ 9223372036854775807) (hn : 1 ≤ n) : Fn Try.prog 46 [.int .i64 c, .int .i64 n] w (fun v w' =>  v = .int .i64 (pickI c n) ∧ Ex w w' ∧ (0 ≤ pickI c n ∧ pickI c n < n)) := by
  have K0 : Ex w w := Kp.refl _ _
  refine fn_enter (n := 13) Try.func46 rfl rfl (Nat.le_of_ble_eq_true rfl) ?_
  show CW _ _ _ _ _ _ [(0, .int .i64 c), (1, .int .i64 n)] _
  refine cw_seq ?_
  refine cw_region ?_
  refine rw_ev (ev_assign rfl) rfl rfl rfl ?_
  refine rw_nil ?_
  refine nw_seq ?_
  refine cw_seq ?_
  refine cw_seq ?_
  refine cw_region ?_
  refine rw_ev (ev_move rfl) rfl rfl rfl ?_
  refine rw_ev (ev_lss rfl rfl) rfl rfl rfl ?_
  refine rw_nil ?_
  refine nw_seq ?_
  by_cases h1 : c < 0
  ·
   refine cw_t (b := decide (c < 0)) rfl (dec_t h1) ?_
   refine cw_region ?_
   refine rw_ev (ev_move rfl) rfl rfl rfl ?_
   refine rw_ev (ev_add rfl rfl (by omega)) rfl rfl rfl ?_
   refine rw_ev (ev_neg rfl (by omega)) rfl rfl rfl ?_
   refine rw_ev (ev_assign rfl) rfl rfl rfl ?_
   refine rw_nil ?_
   refine nw_seq ?_
   refine cw_seq ?_
   refine cw_region ?_
   refine rw_ev (ev_move rfl) rfl rfl rfl ?_
   refine rw_ev (ev_move rfl) rfl rfl rfl ?_
   refine rw_ev (ev_rem rfl rfl (by omega)) rfl rfl rfl ?_
   refine rw_ev (ev_assign rfl) rfl rfl rfl ?_
   refine rw_nil ?_
   refine nw_seq ?_
   refine cw_ret ?_
   refine ret_post (rs := [.tmp 4]) (vs := [.int .i64 ((-(c + 1)) % n)]) rfl (.tmp rfl .nil) ?_
   refine ⟨?_, K0, ?_⟩
   · show (.int .i64 ((-(c + 1)) % n) : Value) = _
     simp [pickI, *]
   · exact pickI_bd _ _ (by omega)
  ·
   refine cw_f (b := decide (c < 0)) rfl (dec_f h1) ?_
   refine cw_skip ?_
   refine nw_seq ?_
   refine cw_seq ?_
   refine cw_region ?_
   refine rw_ev (ev_move rfl) rfl rfl rfl ?_
   refine rw_ev (ev_move rfl) rfl rfl rfl ?_
   refine rw_ev (ev_rem rfl rfl (by omega)) rfl rfl rfl ?_
   refine rw_ev (ev_assign rfl) rfl rfl rfl ?_
   refine rw_nil ?_
   refine nw_seq ?_
   refine cw_ret ?_
   refine ret_post (rs := [.tmp 4]) (vs := [.int .i64 (c % n)]) rfl (.tmp rfl .nil) ?_
   refine ⟨?_, K0, ?_⟩
   · show (.int .i64 (c % n) : Value) = _
     simp [pickI, *]
   · exact pickI_bd _ _ (by omega)

theorem c_pick67 (w : World) (c : Int) (n : Int) (hc : -9223372036854775808 ≤ c ∧ c ≤ 9223372036854775807) (hn : 1 ≤ n) : Fn Try.prog 67 [.int .i64 c, .int .i64 n] w (fun v w' =>  v = .int .i64 (pickI c n) ∧ Ex w w' ∧ (0 ≤ pickI c n ∧ pickI c n < n)) := by
  have K0 : Ex w w := Kp.refl _ _
  refine fn_enter (n := 13) Try.func67 rfl rfl (Nat.le_of_ble_eq_true rfl) ?_
  show CW _ _ _ _ _ _ [(0, .int .i64 c), (1, .int .i64 n)] _
  refine cw_seq ?_
  refine cw_region ?_
  refine rw_ev (ev_assign rfl) rfl rfl rfl ?_
  refine rw_nil ?_
  refine nw_seq ?_
  refine cw_seq ?_
  refine cw_seq ?_
  refine cw_region ?_
  refine rw_ev (ev_move rfl) rfl rfl rfl ?_
  refine rw_ev (ev_lss rfl rfl) rfl rfl rfl ?_
  refine rw_nil ?_
  refine nw_seq ?_
  by_cases h1 : c < 0
  ·
   refine cw_t (b := decide (c < 0)) rfl (dec_t h1) ?_
   refine cw_region ?_
   refine rw_ev (ev_move rfl) rfl rfl rfl ?_
   refine rw_ev (ev_add rfl rfl (by omega)) rfl rfl rfl ?_
   refine rw_ev (ev_neg rfl (by omega)) rfl rfl rfl ?_
   refine rw_ev (ev_assign rfl) rfl rfl rfl ?_
   refine rw_nil ?_
   refine nw_seq ?_
   refine cw_seq ?_
   refine cw_region ?_
   refine rw_ev (ev_move rfl) rfl rfl rfl ?_
   refine rw_ev (ev_move rfl) rfl rfl rfl ?_
   refine rw_ev (ev_rem rfl rfl (by omega)) rfl rfl rfl ?_
   refine rw_ev (ev_assign rfl) rfl rfl rfl ?_
   refine rw_nil ?_
   refine nw_seq ?_
   refine cw_ret ?_
   refine ret_post (rs := [.tmp 4]) (vs := [.int .i64 ((-(c + 1)) % n)]) rfl (.tmp rfl .nil) ?_
   refine ⟨?_, K0, ?_⟩
   · show (.int .i64 ((-(c + 1)) % n) : Value) = _
     simp [pickI, *]
   · exact pickI_bd _ _ (by omega)
  ·
   refine cw_f (b := decide (c < 0)) rfl (dec_f h1) ?_
   refine cw_skip ?_
   refine nw_seq ?_
   refine cw_seq ?_
   refine cw_region ?_
   refine rw_ev (ev_move rfl) rfl rfl rfl ?_
   refine rw_ev (ev_move rfl) rfl rfl rfl ?_
   refine rw_ev (ev_rem rfl rfl (by omega)) rfl rfl rfl ?_
   refine rw_ev (ev_assign rfl) rfl rfl rfl ?_
   refine rw_nil ?_
   refine nw_seq ?_
   refine cw_ret ?_
   refine ret_post (rs := [.tmp 4]) (vs := [.int .i64 (c % n)]) rfl (.tmp rfl .nil) ?_
   refine ⟨?_, K0, ?_⟩
   · show (.int .i64 (c % n) : Value) = _
     simp [pickI, *]
   · exact pickI_bd _ _ (by omega)

theorem c_pick81 (w : World) (c : Int) (n : Int) (hc : -9223372036854775808 ≤ c ∧ c ≤ 9223372036854775807) (hn : 1 ≤ n) : Fn Try.prog 81 [.int .i64 c, .int .i64 n] w (fun v w' =>  v = .int .i64 (pickI c n) ∧ Ex w w' ∧ (0 ≤ pickI c n ∧ pickI c n < n)) := by
  have K0 : Ex w w := Kp.refl _ _
  refine fn_enter (n := 13) Try.func81 rfl rfl (Nat.le_of_ble_eq_true rfl) ?_
  show CW _ _ _ _ _ _ [(0, .int .i64 c), (1, .int .i64 n)] _
  refine cw_seq ?_
  refine cw_region ?_
  refine rw_ev (ev_assign rfl) rfl rfl rfl ?_
  refine rw_nil ?_
  refine nw_seq ?_
  refine cw_seq ?_
  refine cw_seq ?_
  refine cw_region ?_
  refine rw_ev (ev_move rfl) rfl rfl rfl ?_
  refine rw_ev (ev_lss rfl rfl) rfl rfl rfl ?_
  refine rw_nil ?_
  refine nw_seq ?_
  by_cases h1 : c < 0
  ·
   refine cw_t (b := decide (c < 0)) rfl (dec_t h1) ?_
   refine cw_region ?_
   refine rw_ev (ev_move rfl) rfl rfl rfl ?_
   refine rw_ev (ev_add rfl rfl (by omega)) rfl rfl rfl ?_
   refine rw_ev (ev_neg rfl (by omega)) rfl rfl rfl ?_
   refine rw_ev (ev_assign rfl) rfl rfl rfl ?_
   refine rw_nil ?_
   refine nw_seq ?_
   refine cw_seq ?_
   refine cw_region ?_
   refine rw_ev (ev_move rfl) rfl rfl rfl ?_
   refine rw_ev (ev_move rfl) rfl rfl rfl ?_
   refine rw_ev (ev_rem rfl rfl (by omega)) rfl rfl rfl ?_
   refine rw_ev (ev_assign rfl) rfl rfl rfl ?_
   refine rw_nil ?_
   refine nw_seq ?_
   refine cw_ret ?_
   refine ret_post (rs := [.tmp 4]) (vs := [.int .i64 ((-(c + 1)) % n)]) rfl (.tmp rfl .nil) ?_
   refine ⟨?_, K0, ?_⟩
   · show (.int .i64 ((-(c + 1)) % n) : Value) = _
     simp [pickI, *]
   · exact pickI_bd _ _ (by omega)
  ·
   refine cw_f (b := decide (c < 0)) rfl (dec_f h1) ?_
   refine cw_skip ?_
   refine nw_seq ?_
   refine cw_seq ?_
   refine cw_region ?_
   refine rw_ev (ev_move rfl) rfl rfl rfl ?_
   refine rw_ev (ev_move rfl) rfl rfl rfl ?_
   refine rw_ev (ev_rem rfl rfl (by omega)) rfl rfl rfl ?_
   refine rw_ev (ev_assign rfl) rfl rfl rfl ?_
   refine rw_nil ?_
   refine nw_seq ?_
   refine cw_ret ?_
   refine ret_post (rs := [.tmp 4]) (vs := [.int .i64 (c % n)]) rfl (.tmp rfl .nil) ?_
   refine ⟨?_, K0, ?_⟩
   · show (.int .i64 (c % n) : Value) = _
     simp [pickI, *]
   · exact pickI_bd _ _ (by omega)

theorem c_pick129 (w : World) (c : Int) (n : Int) (hc : -9223372036854775808 ≤ c ∧ c ≤ 9223372036854775807) (hn : 1 ≤ n) : Fn Try.prog 129 [.int .i64 c, .int .i64 n] w (fun v w' =>  v = .int .i64 (pickI c n) ∧ Ex w w' ∧ (0 ≤ pickI c n ∧ pickI c n < n)) := by
  have K0 : Ex w w := Kp.refl _ _
  refine fn_enter (n := 13) Try.func129 rfl rfl (Nat.le_of_ble_eq_true rfl) ?_
  show CW _ _ _ _ _ _ [(0, .int .i64 c), (1, .int .i64 n)] _
  refine cw_seq ?_
  refine cw_region ?_
  refine rw_ev (ev_assign rfl) rfl rfl rfl ?_
  refine rw_nil ?_
  refine nw_seq ?_
  refine cw_seq ?_
  refine cw_seq ?_
  refine cw_region ?_
  refine rw_ev (ev_move rfl) rfl rfl rfl ?_
  refine rw_ev (ev_lss rfl rfl) rfl rfl rfl ?_
  refine rw_nil ?_
  refine nw_seq ?_
  by_cases h1 : c < 0
  ·
   refine cw_t (b := decide (c < 0)) rfl (dec_t h1) ?_
   refine cw_region ?_
   refine rw_ev (ev_move rfl) rfl rfl rfl ?_
   refine rw_ev (ev_add rfl rfl (by omega)) rfl rfl rfl ?_
   refine rw_ev (ev_neg rfl (by omega)) rfl rfl rfl ?_
   refine rw_ev (ev_assign rfl) rfl rfl rfl ?_
   refine rw_nil ?_
   refine nw_seq ?_
   refine cw_seq ?_
   refine cw_region ?_
   refine rw_ev (ev_move rfl) rfl rfl rfl ?_
   refine rw_ev (ev_move rfl) rfl rfl rfl ?_
   refine rw_ev (ev_rem rfl rfl (by omega)) rfl rfl rfl ?_
   refine rw_ev (ev_assign rfl) rfl rfl rfl ?_
   refine rw_nil ?_
   refine nw_seq ?_
   refine cw_ret ?_
   refine ret_post (rs := [.tmp 4]) (vs := [.int .i64 ((-(c + 1)) % n)]) rfl (.tmp rfl .nil) ?_
   refine ⟨?_, K0, ?_⟩
   · show (.int .i64 ((-(c + 1)) % n) : Value) = _
     simp [pickI, *]
   · exact pickI_bd _ _ (by omega)
  ·
   refine cw_f (b := decide (c < 0)) rfl (dec_f h1) ?_
   refine cw_skip ?_
   refine nw_seq ?_
   refine cw_seq ?_
   refine cw_region ?_
   refine rw_ev (ev_move rfl) rfl rfl rfl ?_
   refine rw_ev (ev_move rfl) rfl rfl rfl ?_
   refine rw_ev (ev_rem rfl rfl (by omega)) rfl rfl rfl ?_
   refine rw_ev (ev_assign rfl) rfl rfl rfl ?_
   refine rw_nil ?_
   refine nw_seq ?_
   refine cw_ret ?_
   refine ret_post (rs := [.tmp 4]) (vs := [.int .i64 (c % n)]) rfl (.tmp rfl .nil) ?_
   refine ⟨?_, K0, ?_⟩
   · show (.int .i64 (c % n) : Value) = _
     simp [pickI, *]
   · exact pickI_bd _ _ (by omega)

theorem c_pick30 (w : World) (c : Int) (n : Int) (hc : -9223372036854775808 ≤ c ∧ c ≤ 9223372036854775807) (hn : 1 ≤ n) : Fn Try.prog 30 [.int .i64 c, .int .i64 n] w (fun v w' =>  v = .int .i64 (pickI c n) ∧ Ex w w' ∧ (0 ≤ pickI c n ∧ pickI c n < n)) := by
  have K0 : Ex w w := Kp.refl _ _
  refine fn_enter (n := 13) Try.func30 rfl rfl (Nat.le_of_ble_eq_true rfl) ?_
  show CW _ _ _ _ _ _ [(0, .int .i64 c), (1, .int .i64 n)] _
  refine cw_seq ?_
  refine cw_region ?_
  refine rw_ev (ev_assign rfl) rfl rfl rfl ?_
  refine rw_nil ?_
  refine nw_seq ?_
  refine cw_seq ?_
  refine cw_seq ?_
  refine cw_region ?_
  refine rw_ev (ev_move rfl) rfl rfl rfl ?_
  refine rw_ev (ev_lss rfl rfl) rfl rfl rfl ?_
  refine rw_nil ?_
  refine nw_seq ?_
  by_cases h1 : c < 0
  ·
   refine cw_t (b := decide (c < 0)) rfl (dec_t h1) ?_
   refine cw_region ?_
   refine rw_ev (ev_move rfl) rfl rfl rfl ?_
   refine rw_ev (ev_add rfl rfl (by omega)) rfl rfl rfl ?_
   refine rw_ev (ev_neg rfl (by omega)) rfl rfl rfl ?_
   refine rw_ev (ev_assign rfl) rfl rfl rfl ?_
   refine rw_nil ?_
   refine nw_seq ?_
   refine cw_seq ?_
   refine cw_region ?_
   refine rw_ev (ev_move rfl) rfl rfl rfl ?_
   refine rw_ev (ev_move rfl) rfl rfl rfl ?_
   refine rw_ev (ev_rem rfl rfl (by omega)) rfl rfl rfl ?_
   refine rw_ev (ev_assign rfl) rfl rfl rfl ?_
   refine rw_nil ?_
   refine nw_seq ?_
   refine cw_ret ?_
   refine ret_post (rs := [.tmp 4]) (vs := [.int .i64 ((-(c + 1)) % n)]) rfl (.tmp rfl .nil) ?_
   refine ⟨?_, K0, ?_⟩
   · show (.int .i64 ((-(c + 1)) % n) : Value) = _
     simp [pickI, *]
   · exact pickI_bd _ _ (by omega)
  ·
   refine cw_f (b := decide (c < 0)) rfl (dec_f h1) ?_
   refine cw_skip ?_
   refine nw_seq ?_
   refine cw_seq ?_
   refine cw_region ?_
   refine rw_ev (ev_move rfl) rfl rfl rfl ?_
   refine rw_ev (ev_move rfl) rfl rfl rfl ?_
   refine rw_ev (ev_rem rfl rfl (by omega)) rfl rfl rfl ?_
   refine rw_ev (ev_assign rfl) rfl rfl rfl ?_
   refine rw_nil ?_
   refine nw_seq ?_
   refine cw_ret ?_
   refine ret_post (rs := [.tmp 4]) (vs := [.int .i64 (c % n)]) rfl (.tmp rfl .nil) ?_
   refine ⟨?_, K0, ?_⟩
   · show (.int .i64 (c % n) : Value) = _
     simp [pickI, *]
   · exact pickI_bd _ _ (by omega)

theorem c_of (w : World) (v : Value) (l : List Cell) (hv : Sl w (fun b => b < w.heap.size) v 2 (l.map encC)) (hn : l.length ≤ 1000000) : Fn Try.prog 35 [v] w (fun v w' => ∃ u : Value, v = .tuple #[u, .int .i64 ((ofC l).2)] ∧ Ex w w' ∧ Sl w' (fun b => w.heap.size ≤ b ∧ b < w'.heap.size) u 2 (((ofC l).1).map encC)) := by
  have K0 : Ex w w := Kp.refl _ _
  refine fn_enter (n := 35) Try.func35 rfl rfl (Nat.le_of_ble_eq_true rfl) ?_
  show CW _ _ _ _ _ _ [(0, v)] _
  have hlv_ := hv.lenm
  refine cw_seq ?_
  refine cw_region ?_
  refine rw_ev (ev_assign rfl) rfl rfl rfl ?_
  refine rw_ev (ev_assign rfl) rfl rfl rfl ?_
  refine rw_nil ?_
  refine nw_seq ?_
  refine cw_seq ?_
  refine cw_seq ?_
  refine cw_region ?_
  refine rw_ev (ev_assign rfl) rfl rfl rfl ?_
  refine rw_nil ?_
  refine nw_seq ?_
  refine cw_block ?_
  refine cw_loop (σ := Nat) (fun i => [(0, v), (2, .slice none 0 0), (3, .int .i64 0), (4, .int .i64 (i : Int))]) (fun i wr => Ex w wr ∧ w.heap.size ≤ wr.heap.size ∧ Sl wr (fun b => b < w.heap.size) v 2 (l.map encC) ∧ (l.take i).all inC = true ∧ i ≤ l.length) (fun i => l.length - i) 0 (Sub.cons rfl (Sub.cons rfl (Sub.cons rfl (Sub.int (b := (0 : Int)) rfl (by omega) Sub.nil)))) ⟨K0, (Nat.le_refl _), hv, (by first | omega | simp), (by first | omega | simp)⟩ ?_
  rintro i w1 ⟨K0, z2, f3, pr4, pr5⟩
  show CW _ _ _ _ _ _ [(0, v), (2, .slice none 0 0), (3, .int .i64 0), (4, .int .i64 (i : Int))] _
  refine cw_seq ?_
  refine cw_seq ?_
  refine cw_region ?_
  refine rw_ev (ev_move rfl) rfl rfl rfl ?_
  refine rw_ev (ev_move rfl) rfl rfl rfl ?_
  refine rw_ev (v := .int .i64 (l.length : Int)) (ev_lenm (l := l) ⟨_, f3⟩ rfl el_46 rfl) rfl rfl rfl ?_
  refine rw_ev (ev_lss rfl rfl) rfl rfl rfl ?_
  refine rw_nil ?_
  refine nw_seq ?_
  by_cases h6 : (i : Int) < (l.length : Int)
  ·
   refine cw_t (b := decide ((i : Int) < (l.length : Int))) rfl (dec_t h6) ?_
   refine cw_skip ?_
   refine nw_seq ?_
   refine cw_seq ?_
   refine cw_block ?_
   refine cw_seq ?_
   refine cw_region ?_
   refine rw_ev (ev_move rfl) rfl rfl rfl ?_
   refine rw_ev (ev_move rfl) rfl rfl rfl ?_
   obtain ⟨c7, hc8⟩ := get_of (l := l) (i := i) (by omega)
   refine rw_ev (v := elemPtr v i 2 0) (ev_slAt (i := (i : Int)) ⟨_, f3⟩ rfl rfl el_46 (idx_ok (i := (i : Int)) hc8 (by omega))) rfl rfl rfl ?_
   refine rw_ev (v := .agg #[.int .i64 c7.1, .int .i64 c7.2]) (ev_elLoadk (us := [.int .i64 c7.1, .int .i64 c7.2]) (fun _ h => h ▸ f3) ⟨_, rfl⟩ rfl (get_enc hc8) agg_55 (by decide) rfl rfl) rfl rfl rfl ?_
   refine rw_op (op_fn (xs := [.tmp 16]) ent_89 rfl (c_in w1 c7)) rfl rfl rfl ?_
   rintro _ w9 ⟨rfl, k10⟩
   replace K0 := Ex.trans K0 k10
   replace f3 := f3.ex k10
   have zw9 := k10.size
   refine rw_ev (ev_not rfl rfl) rfl rfl rfl ?_
   refine rw_nil ?_
   refine nw_seq ?_
   rcases Bool.eq_false_or_eq_true (inC c7) with h11 | h11
   ·
    refine cw_f (b := !(inC c7)) rfl (not_f h11) ?_
    refine cw_skip ?_
    refine nw_block ?_
    refine nw_seq ?_
    refine cw_region ?_
    refine rw_ev (ev_move rfl) rfl rfl rfl ?_
    refine rw_ev (ev_add rfl rfl (by omega)) rfl rfl rfl ?_
    refine rw_ev (ev_assign rfl) rfl rfl rfl ?_
    refine rw_nil ?_
    exact nw_round (i + 1) (Sub.cons rfl (Sub.cons rfl (Sub.cons rfl (Sub.int (b := ((i + 1) : Int)) rfl (by omega) Sub.nil)))) ⟨K0, (Nat.le_trans z2 zw9), f3, (by first | omega | (rw [all_succ (by assumption : l[i]? = some _)]; simp_all)), (by first | omega | (rw [all_succ (by assumption : l[i]? = some _)]; simp_all))⟩ (by first | omega | (dsimp only; omega))
   ·
    refine cw_t (b := !(inC c7)) rfl (not_t h11) ?_
    refine cw_seq ?_
    refine cw_region ?_
    refine rw_ev (ev_assign rfl) rfl rfl rfl ?_
    refine rw_ev (ev_assign rfl) rfl rfl rfl ?_
    refine rw_nil ?_
    refine nw_seq ?_
    refine cw_ret ?_
    refine ret_post (rs := [.tmp 2, .tmp 3]) (vs := [.slice none 0 0, .int .i64 2]) rfl (.tmp rfl (.tmp rfl .nil)) ?_
    have hk_ : ofC l = ([], 2) := by
      unfold ofC; rw [all_stop (by assumption : l[i]? = some _) (by assumption)]; rfl
    refine ⟨(.slice none 0 0), ?_, K0, ?_⟩
    · show (.tuple #[.slice none 0 0, .int .i64 2] : Value) = _
      rw [hk_]
    · have hl_ : ([] : List Cell) = (ofC l).1 := by rw [hk_]
      rw [← hl_]; exact (Sl.nil _ _ 2)
  ·
   refine cw_f (b := decide ((i : Int) < (l.length : Int))) rfl (dec_f h6) ?_
   refine cw_exit ?_
   refine xw_seq ?_
   refine xw_goal ?_
   refine xw_hit ?_
   refine nw_seq ?_
   refine cw_seq ?_
   refine cw_region ?_
   refine rw_ev (ev_assign rfl) rfl rfl rfl ?_
   refine rw_nil ?_
   refine nw_seq ?_
   refine cw_seq ?_
   refine cw_seq ?_
   refine cw_region ?_
   refine rw_ev (ev_assign rfl) rfl rfl rfl ?_
   refine rw_nil ?_
   refine nw_seq ?_
   refine cw_block ?_
   refine cw_loop (σ := Nat × Value) (fun s_ => match s_ with | (j, x) => [(0, v), (2, .slice none 0 0), (3, .int .i64 0), (5, x), (6, .int .i64 (j : Int))]) (fun s_ wr => match s_ with | (j, x) => Ex w wr ∧ w1.heap.size ≤ wr.heap.size ∧ Sl wr (fun b => b < w.heap.size) v 2 (l.map encC) ∧ Sl wr (fun b => w.heap.size ≤ b) x 2 (((l.take j).foldl putC []).map encC) ∧ j ≤ l.length) (fun s_ => match s_ with | (j, x) => l.length - j) (0, .slice none 0 0) (Sub.cons rfl (Sub.cons rfl (Sub.cons rfl (Sub.cons rfl (Sub.int (b := (0 : Int)) rfl (by omega) Sub.nil))))) ⟨K0, (Nat.le_refl _), f3, (Sl.nil _ _ _), (by omega)⟩ ?_
   rintro ⟨j, x⟩ w12 ⟨K0, z13, f14, f15, pr16⟩
   show CW _ _ _ _ _ _ [(0, v), (2, .slice none 0 0), (3, .int .i64 0), (5, x), (6, .int .i64 (j : Int))] _
   refine cw_seq ?_
   refine cw_seq ?_
   refine cw_region ?_
   refine rw_ev (ev_move rfl) rfl rfl rfl ?_
   refine rw_ev (ev_move rfl) rfl rfl rfl ?_
   refine rw_ev (v := .int .i64 (l.length : Int)) (ev_lenm (l := l) ⟨_, f14⟩ rfl el_46 rfl) rfl rfl rfl ?_
   refine rw_ev (ev_lss rfl rfl) rfl rfl rfl ?_
   refine rw_nil ?_
   refine nw_seq ?_
   by_cases h17 : (j : Int) < (l.length : Int)
   ·
    refine cw_t (b := decide ((j : Int) < (l.length : Int))) rfl (dec_t h17) ?_
    refine cw_skip ?_
    refine nw_seq ?_
    refine cw_seq ?_
    refine cw_block ?_
    refine cw_region ?_
    refine rw_ev (ev_move rfl) rfl rfl rfl ?_
    refine rw_ev (ev_move rfl) rfl rfl rfl ?_
    refine rw_ev (ev_move rfl) rfl rfl rfl ?_
    obtain ⟨c18, hc19⟩ := get_of (l := l) (i := j) (by omega)
    refine rw_ev (v := elemPtr v j 2 0) (ev_slAt (i := (j : Int)) ⟨_, f14⟩ rfl rfl el_46 (idx_ok (i := (j : Int)) hc19 (by omega))) rfl rfl rfl ?_
    refine rw_ev (v := .agg #[.int .i64 c18.1, .int .i64 c18.2]) (ev_elLoadk (us := [.int .i64 c18.1, .int .i64 c18.2]) (fun _ h => h ▸ f14) ⟨_, rfl⟩ rfl (get_enc hc19) agg_55 (by decide) rfl rfl) rfl rfl rfl ?_
    refine rw_op (op_fn (xs := [.tmp 25, .tmp 29]) ent_41 rfl (c_put w12 x ((l.take j).foldl putC []) (Sl.below f15) c18 (by have hp := putTake_len l j; omega))) rfl rfl rfl ?_
    rintro u20 w21 ⟨_, rfl, k22, sl23⟩
    replace K0 := Ex.trans K0 k22
    replace f14 := f14.ex k22
    replace f15 := f15.ex k22
    have zw21 := k22.size
    refine rw_ev (ev_assign rfl) rfl rfl rfl ?_
    refine rw_nil ?_
    refine nw_block ?_
    refine nw_seq ?_
    refine cw_region ?_
    refine rw_ev (ev_move rfl) rfl rfl rfl ?_
    refine rw_ev (ev_add rfl rfl (by omega)) rfl rfl rfl ?_
    refine rw_ev (ev_assign rfl) rfl rfl rfl ?_
    refine rw_nil ?_
    exact nw_round ((j + 1), u20) (Sub.cons rfl (Sub.cons rfl (Sub.cons rfl (Sub.cons rfl (Sub.int (b := ((j + 1) : Int)) rfl (by omega) Sub.nil))))) ⟨K0, (Nat.le_trans z13 zw21), f14, (by have hq := (Sl.mono sl23 (fun _ _ hb => Nat.le_trans (Nat.le_trans z2 z13) hb.1)); rw [take_succ_fold (by assumption : l[j]? = some _)]; exact hq), (by omega)⟩ (by first | omega | (dsimp only; omega))
   ·
    refine cw_f (b := decide ((j : Int) < (l.length : Int))) rfl (dec_f h17) ?_
    refine cw_exit ?_
    refine xw_seq ?_
    refine xw_goal ?_
    refine xw_hit ?_
    refine nw_seq ?_
    refine cw_seq ?_
    refine cw_seq ?_
    refine cw_region ?_
    refine rw_ev (ev_move rfl) rfl rfl rfl ?_
    refine rw_ev (v := .int .i64 (((l.take j).foldl putC []).length : Int)) (ev_lenm (l := ((l.take j).foldl putC [])) ⟨_, f15⟩ rfl el_46 rfl) rfl rfl rfl ?_
    refine rw_ev (ev_gtr rfl rfl) rfl rfl rfl ?_
    refine rw_nil ?_
    refine nw_seq ?_
    by_cases h24 : (2000 : Int) < (((l.take j).foldl putC []).length : Int)
    ·
     refine cw_t (b := decide ((2000 : Int) < (((l.take j).foldl putC []).length : Int))) rfl (dec_t h24) ?_
     refine cw_seq ?_
     refine cw_region ?_
     refine rw_ev (ev_assign rfl) rfl rfl rfl ?_
     refine rw_ev (ev_assign rfl) rfl rfl rfl ?_
     refine rw_nil ?_
     refine nw_seq ?_
     refine cw_ret ?_
     refine ret_post (rs := [.tmp 2, .tmp 3]) (vs := [.slice none 0 0, .int .i64 3]) rfl (.tmp rfl (.tmp rfl .nil)) ?_
     have hk_ : ofC l = ([], 3) := by
       have ha : l.all inC = true := by rw [← take_all (by assumption : ¬ (i : Int) < l.length)]; assumption
       have hf : (l.take j).foldl putC [] = l.foldl putC [] := by rw [take_all (by assumption : ¬ (j : Int) < l.length)]
       unfold ofC fewC
       rw [if_pos ha, ← hf, if_neg (by omega)]
     refine ⟨(.slice none 0 0), ?_, K0, ?_⟩
     · show (.tuple #[.slice none 0 0, .int .i64 3] : Value) = _
       rw [hk_]
     · have hl_ : ([] : List Cell) = (ofC l).1 := by rw [hk_]
       rw [← hl_]; exact (Sl.nil _ _ 2)
    ·
     refine cw_f (b := decide ((2000 : Int) < (((l.take j).foldl putC []).length : Int))) rfl (dec_f h24) ?_
     refine cw_skip ?_
     refine nw_seq ?_
     refine cw_seq ?_
     refine cw_region ?_
     refine rw_ev (ev_move rfl) rfl rfl rfl ?_
     refine rw_ev (ev_assign rfl) rfl rfl rfl ?_
     refine rw_ev (ev_assign rfl) rfl rfl rfl ?_
     refine rw_nil ?_
     refine nw_seq ?_
     refine cw_ret ?_
     refine ret_post (rs := [.tmp 2, .tmp 3]) (vs := [x, .int .i64 0]) rfl (.tmp rfl (.tmp rfl .nil)) ?_
     have hk_ : ofC l = ((l.take j).foldl putC [], 0) := by
       have ha : l.all inC = true := by rw [← take_all (by assumption : ¬ (i : Int) < l.length)]; assumption
       have hf : (l.take j).foldl putC [] = l.foldl putC [] := by rw [take_all (by assumption : ¬ (j : Int) < l.length)]
       unfold ofC fewC
       rw [if_pos ha, ← hf, if_pos (by omega)]
     refine ⟨x, ?_, K0, ?_⟩
     · show (.tuple #[x, .int .i64 0] : Value) = _
       rw [hk_]
     · have hl_ : ((l.take j).foldl putC []) = (ofC l).1 := by rw [hk_]
       rw [← hl_]; exact (Sl.since f15 (fun _ hb => Nat.le_trans (Nat.le_refl _) hb))

theorem c_with (w : World) (v : Value) (l : List Cell) (hv : Sl w (fun b => b < w.heap.size) v 2 (l.map encC)) (c : Cell) (alive : Bool) : Fn Try.prog 62 [v, .agg #[.int .i64 c.1, .int .i64 c.2], .bool alive] w (fun v w' => ∃ u : Value, v = .tuple #[u, .int .i64 ((withC l c alive).2)] ∧ Ex w w' ∧ Sl w' (fun b => w.heap.size ≤ b ∧ b < w'.heap.size) u 2 (((withC l c alive).1).map encC)) := by
  have K0 : Ex w w := Kp.refl _ _
  refine fn_enter (n := 47) Try.func62 rfl rfl (Nat.le_of_ble_eq_true rfl) ?_
  show CW _ _ _ _ _ _ [(0, v), (1, .agg #[.int .i64 c.1, .int .i64 c.2]), (2, .bool alive)] _
  have hlv_ := hv.lenm
  refine cw_seq ?_
  refine cw_region ?_
  refine rw_op (op_box (v := .agg #[.int .i64 c.1, .int .i64 c.2]) (cs := #[.int .i64 c.1, .int .i64 c.2]) rfl rfl) rfl rfl rfl ?_
  rintro _ w2 ⟨g1, rfl, hg3, k4, b5⟩
  replace K0 := Ex.trans K0 k4
  replace hv := hv.ex k4
  have zw2 := k4.size
  have lg1 := b5.lt
  refine rw_ev (ev_assign rfl) rfl rfl rfl ?_
  refine rw_ev (ev_assign rfl) rfl rfl rfl ?_
  refine rw_nil ?_
  refine nw_seq ?_
  refine cw_seq ?_
  refine cw_seq ?_
  refine cw_region ?_
  refine rw_ev (ev_move rfl) rfl rfl rfl ?_
  refine rw_op (op_fn (xs := [.tmp 10]) ent_54 rfl (c_right w2 v l (Sl.below hv))) rfl rfl rfl ?_
  rintro _ w6 ⟨rfl, k7⟩
  replace K0 := Ex.trans K0 k7
  replace hv := hv.ex k7
  replace b5 := b5.ex k7
  have zw6 := k7.size
  refine rw_ev (ev_not rfl rfl) rfl rfl rfl ?_
  refine rw_nil ?_
  refine nw_seq ?_
  rcases Bool.eq_false_or_eq_true (rightC l) with h8 | h8
  ·
   refine cw_f (b := !(rightC l)) rfl (not_f h8) ?_
   refine cw_skip ?_
   refine nw_seq ?_
   refine cw_seq ?_
   refine cw_seq ?_
   refine cw_region ?_
   refine rw_ev (v := .agg #[.int .i64 c.1, .int .i64 c.2]) (ev_lbk (off := 0) (vs := [.int .i64 c.1, .int .i64 c.2]) (fun _ h => h ▸ b5) rfl agg_55 rfl rfl) rfl rfl rfl ?_
   refine rw_op (op_fn (xs := [.tmp 13]) ent_89 rfl (c_in w6 c)) rfl rfl rfl ?_
   rintro _ w9 ⟨rfl, k10⟩
   replace K0 := Ex.trans K0 k10
   replace hv := hv.ex k10
   replace b5 := b5.ex k10
   have zw9 := k10.size
   refine rw_ev (ev_not rfl rfl) rfl rfl rfl ?_
   refine rw_nil ?_
   refine nw_seq ?_
   rcases Bool.eq_false_or_eq_true (inC c) with h11 | h11
   ·
    refine cw_f (b := !(inC c)) rfl (not_f h11) ?_
    refine cw_skip ?_
    refine nw_seq ?_
    refine cw_seq ?_
    refine cw_region ?_
    refine rw_ev (ev_assign rfl) rfl rfl rfl ?_
    refine rw_nil ?_
    refine nw_seq ?_
    refine cw_seq ?_
    refine cw_seq ?_
    refine cw_region ?_
    refine rw_ev (ev_move rfl) rfl rfl rfl ?_
    refine rw_nil ?_
    refine nw_seq ?_
    rcases Bool.eq_false_or_eq_true (alive) with h12 | h12
    ·
     refine cw_t (b := alive) rfl h12 ?_
     refine cw_region ?_
     refine rw_ev (ev_move rfl) rfl rfl rfl ?_
     refine rw_ev (v := .agg #[.int .i64 c.1, .int .i64 c.2]) (ev_lbk (off := 0) (vs := [.int .i64 c.1, .int .i64 c.2]) (fun _ h => h ▸ b5) rfl agg_55 rfl rfl) rfl rfl rfl ?_
     refine rw_op (op_fn (xs := [.tmp 17, .tmp 18]) ent_41 rfl (c_put w9 v l (Sl.below hv) c (by have hy := right_len (by assumption : rightC l = true); omega))) rfl rfl rfl ?_
     rintro u13 w14 ⟨_, rfl, k15, sl16⟩
     replace K0 := Ex.trans K0 k15
     replace hv := hv.ex k15
     replace b5 := b5.ex k15
     have zw14 := k15.size
     refine rw_ev (ev_assign rfl) rfl rfl rfl ?_
     refine rw_nil ?_
     refine nw_seq ?_
     refine cw_seq ?_
     refine cw_seq ?_
     refine cw_region ?_
     refine rw_ev (ev_assign rfl) rfl rfl rfl ?_
     refine rw_nil ?_
     refine nw_seq ?_
     refine cw_block ?_
     refine cw_loop (σ := Nat) (fun i => [(0, v), (2, .bool alive), (4, .pointer (some ⟨g1, 0, none⟩)), (6, .slice none 0 0), (7, .int .i64 0), (8, u13), (9, .int .i64 (i : Int))]) (fun i wr => Ex w wr ∧ w14.heap.size ≤ wr.heap.size ∧ Sl wr (fun b => b < w.heap.size) v 2 (l.map encC) ∧ Bx wr g1 55 #[.int .i64 c.1, .int .i64 c.2] ∧ Sl wr (fun b => w9.heap.size ≤ b ∧ b < w14.heap.size) u13 2 ((putC l c).map encC)) (fun i => l.length - i) 0 (Sub.cons rfl (Sub.cons rfl (Sub.cons rfl (Sub.cons rfl (Sub.cons rfl (Sub.cons rfl (Sub.int (b := (0 : Int)) rfl (by omega) Sub.nil))))))) ⟨K0, (Nat.le_refl _), hv, b5, sl16⟩ ?_
     rintro i w17 ⟨K0, z18, f19, f20, f21⟩
     show CW _ _ _ _ _ _ [(0, v), (2, .bool alive), (4, .pointer (some ⟨g1, 0, none⟩)), (6, .slice none 0 0), (7, .int .i64 0), (8, u13), (9, .int .i64 (i : Int))] _
     refine cw_seq ?_
     refine cw_seq ?_
     refine cw_region ?_
     refine rw_ev (ev_move rfl) rfl rfl rfl ?_
     refine rw_ev (ev_move rfl) rfl rfl rfl ?_
     refine rw_ev (v := .int .i64 (l.length : Int)) (ev_lenm (l := l) ⟨_, f19⟩ rfl el_46 rfl) rfl rfl rfl ?_
     refine rw_ev (ev_lss rfl rfl) rfl rfl rfl ?_
     refine rw_ev (ev_move rfl) rfl rfl rfl ?_
     by_cases h22 : (i : Int) < (l.length : Int)
     ·
      refine rw_ev (ev_move rfl) (gd_tt rfl (dec_t h22)) rfl rfl ?_
      refine rw_ev (ev_not rfl rfl) (gd_tt rfl (dec_t h22)) rfl rfl ?_
      refine rw_ev (ev_pk_t rfl (dec_t h22) rfl) rfl rfl rfl ?_
      refine rw_nil ?_
      refine nw_seq ?_
      refine cw_f (b := !alive) rfl (not_f h12) ?_
      refine cw_exit ?_
      refine xw_seq ?_
      refine xw_goal ?_
      refine xw_hit ?_
      refine nw_seq ?_
      refine cw_seq ?_
      refine cw_seq ?_
      refine cw_region ?_
      refine rw_ev (ev_move rfl) rfl rfl rfl ?_
      refine rw_ev (v := .int .i64 ((putC l c).length : Int)) (ev_lenm (l := putC l c) ⟨_, f21⟩ rfl el_46 rfl) rfl rfl rfl ?_
      refine rw_ev (ev_gtr rfl rfl) rfl rfl rfl ?_
      refine rw_nil ?_
      refine nw_seq ?_
      by_cases h23 : (2000 : Int) < ((putC l c).length : Int)
      ·
       refine cw_t (b := decide ((2000 : Int) < ((putC l c).length : Int))) rfl (dec_t h23) ?_
       refine cw_seq ?_
       refine cw_region ?_
       refine rw_ev (ev_assign rfl) rfl rfl rfl ?_
       refine rw_ev (ev_assign rfl) rfl rfl rfl ?_
       refine rw_nil ?_
       refine nw_seq ?_
       refine cw_ret ?_
       refine ret_post (rs := [.tmp 6, .tmp 7]) (vs := [.slice none 0 0, .int .i64 3]) rfl (.tmp rfl (.tmp rfl .nil)) ?_
       have hk_ : withC l c alive = ([], 3) := by
         have hg : (if alive = true then putC l c else l.filter fun x => decide (x ≠ c)) = putC l c := by rw [if_pos (by assumption)]
         unfold withC fewC
         rw [if_pos (by assumption), if_pos (by assumption), hg, if_neg (by omega)]
       refine ⟨(.slice none 0 0), ?_, K0, ?_⟩
       · show (.tuple #[.slice none 0 0, .int .i64 3] : Value) = _
         rw [hk_]
       · have hl_ : ([] : List Cell) = (withC l c alive).1 := by rw [hk_]
         rw [← hl_]; exact (Sl.nil _ _ 2)
      ·
       refine cw_f (b := decide ((2000 : Int) < ((putC l c).length : Int))) rfl (dec_f h23) ?_
       refine cw_skip ?_
       refine nw_seq ?_
       refine cw_seq ?_
       refine cw_region ?_
       refine rw_ev (ev_move rfl) rfl rfl rfl ?_
       refine rw_ev (ev_assign rfl) rfl rfl rfl ?_
       refine rw_ev (ev_assign rfl) rfl rfl rfl ?_
       refine rw_nil ?_
       refine nw_seq ?_
       refine cw_ret ?_
       refine ret_post (rs := [.tmp 6, .tmp 7]) (vs := [u13, .int .i64 0]) rfl (.tmp rfl (.tmp rfl .nil)) ?_
       have hk_ : withC l c alive = (putC l c, 0) := by
         have hg : (if alive = true then putC l c else l.filter fun x => decide (x ≠ c)) = putC l c := by rw [if_pos (by assumption)]
         unfold withC fewC
         rw [if_pos (by assumption), if_pos (by assumption), hg, if_pos (by omega)]
       refine ⟨u13, ?_, K0, ?_⟩
       · show (.tuple #[u13, .int .i64 0] : Value) = _
         rw [hk_]
       · have hl_ : putC l c = (withC l c alive).1 := by rw [hk_]
         rw [← hl_]; exact (Sl.since f21 (fun _ hb => Nat.le_trans (Nat.le_trans zw2 (Nat.le_trans zw6 zw9)) hb.1))
     ·
      refine rw_skip (gd_tf rfl (dec_f h22)) rfl rfl ?_
      refine rw_skip (gd_tf rfl (dec_f h22)) rfl rfl ?_
      refine rw_ev (ev_pk_f rfl (dec_f h22) rfl) rfl rfl rfl ?_
      refine rw_nil ?_
      refine nw_seq ?_
      refine cw_f (b := false) rfl rfl ?_
      refine cw_exit ?_
      refine xw_seq ?_
      refine xw_goal ?_
      refine xw_hit ?_
      refine nw_seq ?_
      refine cw_seq ?_
      refine cw_seq ?_
      refine cw_region ?_
      refine rw_ev (ev_move rfl) rfl rfl rfl ?_
      refine rw_ev (v := .int .i64 ((putC l c).length : Int)) (ev_lenm (l := putC l c) ⟨_, f21⟩ rfl el_46 rfl) rfl rfl rfl ?_
      refine rw_ev (ev_gtr rfl rfl) rfl rfl rfl ?_
      refine rw_nil ?_
      refine nw_seq ?_
      by_cases h24 : (2000 : Int) < ((putC l c).length : Int)
      ·
       refine cw_t (b := decide ((2000 : Int) < ((putC l c).length : Int))) rfl (dec_t h24) ?_
       refine cw_seq ?_
       refine cw_region ?_
       refine rw_ev (ev_assign rfl) rfl rfl rfl ?_
       refine rw_ev (ev_assign rfl) rfl rfl rfl ?_
       refine rw_nil ?_
       refine nw_seq ?_
       refine cw_ret ?_
       refine ret_post (rs := [.tmp 6, .tmp 7]) (vs := [.slice none 0 0, .int .i64 3]) rfl (.tmp rfl (.tmp rfl .nil)) ?_
       have hk_ : withC l c alive = ([], 3) := by
         have hg : (if alive = true then putC l c else l.filter fun x => decide (x ≠ c)) = putC l c := by rw [if_pos (by assumption)]
         unfold withC fewC
         rw [if_pos (by assumption), if_pos (by assumption), hg, if_neg (by omega)]
       refine ⟨(.slice none 0 0), ?_, K0, ?_⟩
       · show (.tuple #[.slice none 0 0, .int .i64 3] : Value) = _
         rw [hk_]
       · have hl_ : ([] : List Cell) = (withC l c alive).1 := by rw [hk_]
         rw [← hl_]; exact (Sl.nil _ _ 2)
      ·
       refine cw_f (b := decide ((2000 : Int) < ((putC l c).length : Int))) rfl (dec_f h24) ?_
       refine cw_skip ?_
       refine nw_seq ?_
       refine cw_seq ?_
       refine cw_region ?_
       refine rw_ev (ev_move rfl) rfl rfl rfl ?_
       refine rw_ev (ev_assign rfl) rfl rfl rfl ?_
       refine rw_ev (ev_assign rfl) rfl rfl rfl ?_
       refine rw_nil ?_
       refine nw_seq ?_
       refine cw_ret ?_
       refine ret_post (rs := [.tmp 6, .tmp 7]) (vs := [u13, .int .i64 0]) rfl (.tmp rfl (.tmp rfl .nil)) ?_
       have hk_ : withC l c alive = (putC l c, 0) := by
         have hg : (if alive = true then putC l c else l.filter fun x => decide (x ≠ c)) = putC l c := by rw [if_pos (by assumption)]
         unfold withC fewC
         rw [if_pos (by assumption), if_pos (by assumption), hg, if_pos (by omega)]
       refine ⟨u13, ?_, K0, ?_⟩
       · show (.tuple #[u13, .int .i64 0] : Value) = _
         rw [hk_]
       · have hl_ : putC l c = (withC l c alive).1 := by rw [hk_]
         rw [← hl_]; exact (Sl.since f21 (fun _ hb => Nat.le_trans (Nat.le_trans zw2 (Nat.le_trans zw6 zw9)) hb.1))
    ·
     refine cw_f (b := alive) rfl h12 ?_
     refine cw_skip ?_
     refine nw_seq ?_
     refine cw_seq ?_
     refine cw_seq ?_
     refine cw_region ?_
     refine rw_ev (ev_assign rfl) rfl rfl rfl ?_
     refine rw_nil ?_
     refine nw_seq ?_
     refine cw_block ?_
     refine cw_loop (σ := Nat × Value) (fun s_ => match s_ with | (i, x) => [(0, v), (2, .bool alive), (4, .pointer (some ⟨g1, 0, none⟩)), (6, .slice none 0 0), (7, .int .i64 0), (8, x), (9, .int .i64 (i : Int))]) (fun s_ wr => match s_ with | (i, x) => Ex w wr ∧ w9.heap.size ≤ wr.heap.size ∧ Sl wr (fun b => b < w.heap.size) v 2 (l.map encC) ∧ Bx wr g1 55 #[.int .i64 c.1, .int .i64 c.2] ∧ Ow wr w9.heap.size 55 x 2 (((l.take i).filter fun x => decide (x ≠ c)).map encC) ∧ i ≤ l.length) (fun s_ => match s_ with | (i, x) => l.length - i) (0, .slice none 0 0) (Sub.cons rfl (Sub.cons rfl (Sub.cons rfl (Sub.cons rfl (Sub.cons rfl (Sub.cons rfl (Sub.int (b := (0 : Int)) rfl (by omega) Sub.nil))))))) ⟨K0, (Nat.le_refl _), hv, b5, (Ow.nil _ _ _ _), (by omega)⟩ ?_
     rintro ⟨i, x⟩ w25 ⟨K0, z26, f27, f28, f29, pr30⟩
     show CW _ _ _ _ _ _ [(0, v), (2, .bool alive), (4, .pointer (some ⟨g1, 0, none⟩)), (6, .slice none 0 0), (7, .int .i64 0), (8, x), (9, .int .i64 (i : Int))] _
     refine cw_seq ?_
     refine cw_seq ?_
     refine cw_region ?_
     refine rw_ev (ev_move rfl) rfl rfl rfl ?_
     refine rw_ev (ev_move rfl) rfl rfl rfl ?_
     refine rw_ev (v := .int .i64 (l.length : Int)) (ev_lenm (l := l) ⟨_, f27⟩ rfl el_46 rfl) rfl rfl rfl ?_
     refine rw_ev (ev_lss rfl rfl) rfl rfl rfl ?_
     refine rw_ev (ev_move rfl) rfl rfl rfl ?_
     by_cases h31 : (i : Int) < (l.length : Int)
     ·
      refine rw_ev (ev_move rfl) (gd_tt rfl (dec_t h31)) rfl rfl ?_
      refine rw_ev (ev_not rfl rfl) (gd_tt rfl (dec_t h31)) rfl rfl ?_
      refine rw_ev (ev_pk_t rfl (dec_t h31) rfl) rfl rfl rfl ?_
      refine rw_nil ?_
      refine nw_seq ?_
      refine cw_t (b := !alive) rfl (not_t h12) ?_
      refine cw_skip ?_
      refine nw_seq ?_
      refine cw_seq ?_
      refine cw_block ?_
      refine cw_seq ?_
      refine cw_drawn (fun w32 w_ => Ex w32 w_) [] (.take 0 (.take 1 (.take 2 (.take 3 (.take 4 (.take 5 .done)))))) mixed (by kernel_rfl) (by kernel_rfl) (Nat.le_of_ble_eq_true (by kernel_rfl)) ?_; intro w32 k33 hs_
      replace K0 := Ex.trans K0 k33
      replace f27 := f27.ex k33
      replace f28 := f28.ex k33
      replace f29 := f29.ex k33
      have zw32 := k33.size
      have hS : (fun w_ => Ex w32 w_) w32 := Kp.refl _ _
      refine rp_take hs_ hS rfl rfl (ev_move rfl) rfl rfl rfl ?_
      refine rp_take hs_ hS rfl rfl (ev_move rfl) rfl rfl rfl ?_
      obtain ⟨c34, hc35⟩ := get_of (l := l) (i := i) (by omega)
      refine rp_take (v := elemPtr v i 2 0) hs_ hS rfl rfl (ev_slAt (i := (i : Int)) ⟨_, (f27.ex hS)⟩ rfl rfl el_46 (idx_ok (i := (i : Int)) hc35 (by omega))) rfl rfl rfl ?_
      refine rp_take (v := .agg #[.int .i64 c34.1, .int .i64 c34.2]) hs_ hS rfl rfl (ev_elLoadk (us := [.int .i64 c34.1, .int .i64 c34.2]) (fun _ h => (f27.ex h)) ⟨_, hS⟩ rfl (get_enc hc35) agg_55 (by decide) rfl rfl) rfl rfl rfl ?_
      refine rp_take (v := .agg #[.int .i64 c.1, .int .i64 c.2]) hs_ hS rfl rfl (ev_lbk (off := 0) (vs := [.int .i64 c.1, .int .i64 c.2]) (fun _ h => f28.ex h) rfl agg_55 rfl rfl) rfl rfl rfl ?_
      refine rp_take hs_ hS rfl rfl (ev_neq_55 rfl rfl) rfl rfl rfl ?_
      refine rp_done ?_
      clear hs_
      refine nw_seq ?_
      by_cases h36 : (c34 : Cell) ≠ c
      ·
       refine cw_t (b := decide ((c34 : Cell) ≠ c)) rfl (dec_t h36) ?_
       refine cw_region ?_
       refine rw_ev (ev_move rfl) rfl rfl rfl ?_
       refine rw_ev (ev_move rfl) rfl rfl rfl ?_
       refine rw_ev (ev_move rfl) rfl rfl rfl ?_
       refine rw_ev (v := elemPtr v i 2 0) (ev_slAt (i := (i : Int)) ⟨_, f27⟩ rfl rfl el_46 (idx_ok (i := (i : Int)) hc35 (by omega))) rfl rfl rfl ?_
       refine rw_ev (v := .agg #[.int .i64 c34.1, .int .i64 c34.2]) (ev_elLoadk (us := [.int .i64 c34.1, .int .i64 c34.2]) (fun _ h => h ▸ f27) ⟨_, rfl⟩ rfl (get_enc hc35) agg_55 (by decide) rfl rfl) rfl rfl rfl ?_
       refine rw_op (op_buildSlice (E := 55) (m := 1) (pv := #[(0, .agg #[.int .i64 c34.1, .int .i64 c34.2])]) (cs := #[.int .i64 c34.1, .int .i64 c34.2]) rfl (fun _ => by kernel_rfl)) rfl rfl rfl ?_
       rintro _ w38 ⟨g37, rfl, hg39, k40, b41⟩
       have rw42 : ∀ b, (x : Value).ownBlock = some b → b < g37 := fun b h => Nat.lt_of_lt_of_le (f29.lt b h).2 hg39
       replace K0 := Ex.trans K0 k40
       replace f27 := f27.ex k40
       replace f28 := f28.ex k40
       replace f29 := f29.ex k40
       have zw38 := k40.size
       have lg37 := b41.lt
       refine rw_op (op_app1 (f := encC) (l := ((l.take i).filter fun x => decide (x ≠ c))) (c := c34) (B := w9.heap.size) row_46 plainC f29 b41 rfl rfl rfl (by decide) (by unfold maxLen; have hz := List.length_filter_le (fun x => decide (x ≠ c)) (l.take i); have hy := right_len (by assumption : rightC l = true); rw [List.length_take] at hz; omega) (by have hz := List.length_filter_le (fun x => decide (x ≠ c)) (l.take i); have hy := right_len (by assumption : rightC l = true); rw [List.length_take] at hz; omega) (Nat.le_trans z26 (Nat.le_trans zw32 zw38))) rfl rfl rfl ?_
       rintro v43 w44 ⟨k45, ow46⟩
       replace K0 := Ex.kp_new K0 k45 (fun b h => Nat.le_trans (Nat.le_trans zw2 (Nat.le_trans zw6 zw9)) (f29.lt b h).1)
       replace f27 := f27.kp k45 (fun b h e => Nat.lt_irrefl _ (Nat.lt_of_lt_of_le (show b < _ from h) (Nat.le_trans (Nat.le_trans zw2 (Nat.le_trans zw6 zw9)) (f29.lt b e).1)))
       replace f28 := f28.kp k45 (fun h => Nat.lt_irrefl _ (Nat.lt_of_lt_of_le lg1 (Nat.le_trans (Nat.le_trans zw6 zw9) (f29.lt _ h).1)))
       replace b41 := b41.kp k45 (fun h => Nat.lt_irrefl _ (rw42 _ h))
       have zw44 := k45.size
       refine rw_ev (ev_assign rfl) rfl rfl rfl ?_
       refine rw_nil ?_
       refine nw_block ?_
       refine nw_seq ?_
       refine cw_region ?_
       refine rw_ev (ev_move rfl) rfl rfl rfl ?_
       refine rw_ev (ev_add rfl rfl (by omega)) rfl rfl rfl ?_
       refine rw_ev (ev_assign rfl) rfl rfl rfl ?_
       refine rw_nil ?_
       exact nw_round ((i + 1), v43) (Sub.cons rfl (Sub.cons rfl (Sub.cons rfl (Sub.cons rfl (Sub.cons rfl (Sub.cons rfl (Sub.int (b := ((i + 1) : Int)) rfl (by omega) Sub.nil))))))) ⟨K0, (Nat.le_trans z26 (Nat.le_trans zw32 (Nat.le_trans zw38 zw44))), f27, f28, (by have hq := ow46; rw [filter_take_succ (by assumption : l[i]? = some _)]; first | (rw [if_pos (by simp [*])]; exact hq) | (rw [if_neg (by simp [*]), List.append_nil]; exact hq)), (by omega)⟩ (by first | omega | (dsimp only; omega))
      ·
       refine cw_f (b := decide ((c34 : Cell) ≠ c)) rfl (dec_f h36) ?_
       refine cw_skip ?_
       refine nw_block ?_
       refine nw_seq ?_
       refine cw_region ?_
       refine rw_ev (ev_move rfl) rfl rfl rfl ?_
       refine rw_ev (ev_add rfl rfl (by omega)) rfl rfl rfl ?_
       refine rw_ev (ev_assign rfl) rfl rfl rfl ?_
       refine rw_nil ?_
       exact nw_round ((i + 1), x) (Sub.cons rfl (Sub.cons rfl (Sub.cons rfl (Sub.cons rfl (Sub.cons rfl (Sub.cons rfl (Sub.int (b := ((i + 1) : Int)) rfl (by omega) Sub.nil))))))) ⟨K0, (Nat.le_trans z26 zw32), f27, f28, (by have hq := f29; rw [filter_take_succ (by assumption : l[i]? = some _)]; first | (rw [if_pos (by simp [*])]; exact hq) | (rw [if_neg (by simp [*]), List.append_nil]; exact hq)), (by omega)⟩ (by first | omega | (dsimp only; omega))
     ·
      refine rw_skip (gd_tf rfl (dec_f h31)) rfl rfl ?_
      refine rw_skip (gd_tf rfl (dec_f h31)) rfl rfl ?_
      refine rw_ev (ev_pk_f rfl (dec_f h31) rfl) rfl rfl rfl ?_
      refine rw_nil ?_
      refine nw_seq ?_
      refine cw_f (b := false) rfl rfl ?_
      refine cw_exit ?_
      refine xw_seq ?_
      refine xw_goal ?_
      refine xw_hit ?_
      refine nw_seq ?_
      refine cw_seq ?_
      refine cw_seq ?_
      refine cw_region ?_
      refine rw_ev (ev_move rfl) rfl rfl rfl ?_
      refine rw_ev (v := .int .i64 (((l.take i).filter fun x => decide (x ≠ c)).length : Int)) (ev_lenm (l := ((l.take i).filter fun x => decide (x ≠ c))) ⟨_, f29.sl⟩ rfl el_46 rfl) rfl rfl rfl ?_
      refine rw_ev (ev_gtr rfl rfl) rfl rfl rfl ?_
      refine rw_nil ?_
      refine nw_seq ?_
      by_cases h47 : (2000 : Int) < (((l.take i).filter fun x => decide (x ≠ c)).length : Int)
      ·
       refine cw_t (b := decide ((2000 : Int) < (((l.take i).filter fun x => decide (x ≠ c)).length : Int))) rfl (dec_t h47) ?_
       refine cw_seq ?_
       refine cw_region ?_
       refine rw_ev (ev_assign rfl) rfl rfl rfl ?_
       refine rw_ev (ev_assign rfl) rfl rfl rfl ?_
       refine rw_nil ?_
       refine nw_seq ?_
       refine cw_ret ?_
       refine ret_post (rs := [.tmp 6, .tmp 7]) (vs := [.slice none 0 0, .int .i64 3]) rfl (.tmp rfl (.tmp rfl .nil)) ?_
       have hk_ : withC l c alive = ([], 3) := by
         have hf : ((l.take i).filter fun x => decide (x ≠ c)) = l.filter (fun x => decide (x ≠ c)) := by rw [take_all (by assumption : ¬ (i : Int) < l.length)]
         have hg : (if alive = true then putC l c else l.filter fun x => decide (x ≠ c)) = (((l.take i).filter fun x => decide (x ≠ c))) := by rw [if_neg (by simp [*]), hf]
         unfold withC fewC
         rw [if_pos (by assumption), if_pos (by assumption), hg, if_neg (by omega)]
       refine ⟨(.slice none 0 0), ?_, K0, ?_⟩
       · show (.tuple #[.slice none 0 0, .int .i64 3] : Value) = _
         rw [hk_]
       · have hl_ : ([] : List Cell) = (withC l c alive).1 := by rw [hk_]
         rw [← hl_]; exact (Sl.nil _ _ 2)
      ·
       refine cw_f (b := decide ((2000 : Int) < (((l.take i).filter fun x => decide (x ≠ c)).length : Int))) rfl (dec_f h47) ?_
       refine cw_skip ?_
       refine nw_seq ?_
       refine cw_seq ?_
       refine cw_region ?_
       refine rw_ev (ev_move rfl) rfl rfl rfl ?_
       refine rw_ev (ev_assign rfl) rfl rfl rfl ?_
       refine rw_ev (ev_assign rfl) rfl rfl rfl ?_
       refine rw_nil ?_
       refine nw_seq ?_
       refine cw_ret ?_
       refine ret_post (rs := [.tmp 6, .tmp 7]) (vs := [x, .int .i64 0]) rfl (.tmp rfl (.tmp rfl .nil)) ?_
       have hk_ : withC l c alive = (((l.take i).filter fun x => decide (x ≠ c)), 0) := by
         have hf : ((l.take i).filter fun x => decide (x ≠ c)) = l.filter (fun x => decide (x ≠ c)) := by rw [take_all (by assumption : ¬ (i : Int) < l.length)]
         have hg : (if alive = true then putC l c else l.filter fun x => decide (x ≠ c)) = (((l.take i).filter fun x => decide (x ≠ c))) := by rw [if_neg (by simp [*]), hf]
         unfold withC fewC
         rw [if_pos (by assumption), if_pos (by assumption), hg, if_pos (by omega)]
       refine ⟨x, ?_, K0, ?_⟩
       · show (.tuple #[x, .int .i64 0] : Value) = _
         rw [hk_]
       · have hl_ : ((l.take i).filter fun x => decide (x ≠ c)) = (withC l c alive).1 := by rw [hk_]
         rw [← hl_]; exact f29.sl.since (fun _ hb => Nat.le_trans (Nat.le_trans zw2 (Nat.le_trans zw6 zw9)) hb.1)
   ·
    refine cw_t (b := !(inC c)) rfl (not_t h11) ?_
    refine cw_seq ?_
    refine cw_region ?_
    refine rw_ev (ev_assign rfl) rfl rfl rfl ?_
    refine rw_ev (ev_assign rfl) rfl rfl rfl ?_
    refine rw_nil ?_
    refine nw_seq ?_
    refine cw_ret ?_
    refine ret_post (rs := [.tmp 6, .tmp 7]) (vs := [.slice none 0 0, .int .i64 2]) rfl (.tmp rfl (.tmp rfl .nil)) ?_
    have hk_ : withC l c alive = ([], 2) := by
      simp [withC, *]
    refine ⟨(.slice none 0 0), ?_, K0, ?_⟩
    · show (.tuple #[.slice none 0 0, .int .i64 2] : Value) = _
      rw [hk_]
    · have hl_ : ([] : List Cell) = (withC l c alive).1 := by rw [hk_]
      rw [← hl_]; exact (Sl.nil _ _ 2)
  ·
   refine cw_t (b := !(rightC l)) rfl (not_t h8) ?_
   refine cw_seq ?_
   refine cw_region ?_
   refine rw_ev (ev_assign rfl) rfl rfl rfl ?_
   refine rw_ev (ev_assign rfl) rfl rfl rfl ?_
   refine rw_nil ?_
   refine nw_seq ?_
   refine cw_ret ?_
   refine ret_post (rs := [.tmp 6, .tmp 7]) (vs := [.slice none 0 0, .int .i64 1]) rfl (.tmp rfl (.tmp rfl .nil)) ?_
   have hk_ : withC l c alive = ([], 1) := by
     simp [withC, *]
   refine ⟨(.slice none 0 0), ?_, K0, ?_⟩
   · show (.tuple #[.slice none 0 0, .int .i64 1] : Value) = _
     rw [hk_]
   · have hl_ : ([] : List Cell) = (withC l c alive).1 := by rw [hk_]
     rw [← hl_]; exact (Sl.nil _ _ 2)

theorem c_shift (w : World) (v : Value) (l : List Cell) (hv : Sl w (fun b => b < w.heap.size) v 2 (l.map encC)) (dx : Int) (dy : Int) : Fn Try.prog 45 [v, .int .i64 dx, .int .i64 dy] w (fun v w' => ∃ u : Value, v = .tuple #[u, .int .i64 ((shiftC l dx dy).2)] ∧ Ex w w' ∧ Sl w' (fun b => w.heap.size ≤ b ∧ b < w'.heap.size) u 2 (((shiftC l dx dy).1).map encC)) := by
  have K0 : Ex w w := Kp.refl _ _
  refine fn_enter (n := 78) Try.func45 rfl rfl (Nat.le_of_ble_eq_true rfl) ?_
  show CW _ _ _ _ _ _ [(0, v), (1, .int .i64 dx), (2, .int .i64 dy)] _
  have hlv_ := hv.lenm
  refine cw_seq ?_
  refine cw_region ?_
  refine rw_ev (ev_assign rfl) rfl rfl rfl ?_
  refine rw_ev (ev_assign rfl) rfl rfl rfl ?_
  refine rw_nil ?_
  refine nw_seq ?_
  refine cw_seq ?_
  refine cw_seq ?_
  refine cw_region ?_
  refine rw_ev (ev_move rfl) rfl rfl rfl ?_
  refine rw_op (op_fn (xs := [.tmp 11]) ent_54 rfl (c_right w v l (Sl.below hv))) rfl rfl rfl ?_
  rintro _ w1 ⟨rfl, k2⟩
  replace K0 := Ex.trans K0 k2
  replace hv := hv.ex k2
  have zw1 := k2.size
  refine rw_ev (ev_not rfl rfl) rfl rfl rfl ?_
  refine rw_nil ?_
  refine nw_seq ?_
  rcases Bool.eq_false_or_eq_true (rightC l) with h3 | h3
  ·
   refine cw_f (b := !(rightC l)) rfl (not_f h3) ?_
   refine cw_skip ?_
   refine nw_seq ?_
   refine cw_seq ?_
   refine cw_region ?_
   refine rw_ev (ev_assign rfl) rfl rfl rfl ?_
   refine rw_nil ?_
   refine nw_seq ?_
   refine cw_seq ?_
   refine cw_region ?_
   refine rw_ev (ev_assign rfl) rfl rfl rfl ?_
   refine rw_nil ?_
   refine nw_seq ?_
   refine cw_seq ?_
   refine cw_seq ?_
   refine cw_region ?_
   refine rw_ev (ev_assign rfl) rfl rfl rfl ?_
   refine rw_nil ?_
   refine nw_seq ?_
   refine cw_block ?_
   refine cw_loop (σ := Nat × Value) (fun s_ => match s_ with | (i, x) => [(0, v), (1, .int .i64 dx), (2, .int .i64 dy), (6, .slice none 0 0), (7, .int .i64 0), (8, .int .i64 2199023255552), (9, x), (10, .int .i64 (i : Int))]) (fun s_ wr => match s_ with | (i, x) => Ex w wr ∧ w1.heap.size ≤ wr.heap.size ∧ Sl wr (fun b => b < w.heap.size) v 2 (l.map encC) ∧ Ow wr w1.heap.size 55 x 2 (((l.take i).map fun c => (c.1 + dx, c.2 + dy)).map encC) ∧ (l.take i).all (shOk dx dy) = true ∧ i ≤ l.length) (fun s_ => match s_ with | (i, x) => l.length - i) (0, .slice none 0 0) (Sub.cons rfl (Sub.cons rfl (Sub.cons rfl (Sub.cons rfl (Sub.cons rfl (Sub.cons rfl (Sub.cons rfl (Sub.int (b := (0 : Int)) rfl (by omega) Sub.nil)))))))) ⟨K0, (Nat.le_refl _), hv, (Ow.nil _ _ _ _), (by first | omega | simp), (by first | omega | simp)⟩ ?_
   rintro ⟨i, x⟩ w4 ⟨K0, z5, f6, f7, pr8, pr9⟩
   show CW _ _ _ _ _ _ [(0, v), (1, .int .i64 dx), (2, .int .i64 dy), (6, .slice none 0 0), (7, .int .i64 0), (8, .int .i64 2199023255552), (9, x), (10, .int .i64 (i : Int))] _
   refine cw_seq ?_
   refine cw_seq ?_
   refine cw_region ?_
   refine rw_ev (ev_move rfl) rfl rfl rfl ?_
   refine rw_ev (ev_move rfl) rfl rfl rfl ?_
   refine rw_ev (v := .int .i64 (l.length : Int)) (ev_lenm (l := l) ⟨_, f6⟩ rfl el_46 rfl) rfl rfl rfl ?_
   refine rw_ev (ev_lss rfl rfl) rfl rfl rfl ?_
   refine rw_nil ?_
   refine nw_seq ?_
   by_cases h10 : (i : Int) < (l.length : Int)
   ·
    refine cw_t (b := decide ((i : Int) < (l.length : Int))) rfl (dec_t h10) ?_
    refine cw_skip ?_
    refine nw_seq ?_
    refine cw_seq ?_
    refine cw_block ?_
    refine cw_seq ?_
    refine cw_seq ?_
    refine cw_drawn (fun w11 w_ => Ex w11 w_) [] (.take 0 (.take 1 (.take 2 (.take 3 (.take 4 (.take 5 (.take 6 (.take 7 (.take 8 (.take 9 (.take 10 (.take 11 (.take 12 (.take 13 (.take 14 (.take 15 (.take 16 (.take 17 (.take 18 (.take 19 (.take 20 (.take 21 (.take 22 (.take 23 (.take 24 (.take 25 (.take 26 (.take 27 (.take 28 (.take 29 (.take 30 (.take 31 (.take 32 (.take 33 (.take 34 (.take 35 (.one 36 (.take 37 (.take 38 .done))))))))))))))))))))))))))))))))))))))) mixed (by kernel_rfl) (by kernel_rfl) (Nat.le_of_ble_eq_true (by kernel_rfl)) ?_; intro w11 k12 hs_
    replace K0 := Ex.trans K0 k12
    replace f6 := f6.ex k12
    replace f7 := f7.ex k12
    have zw11 := k12.size
    have hS : (fun w_ => Ex w11 w_) w11 := Kp.refl _ _
    refine rp_take hs_ hS rfl rfl (ev_move rfl) rfl rfl rfl ?_
    refine rp_take hs_ hS rfl rfl (ev_move rfl) rfl rfl rfl ?_
    refine rp_take hs_ hS rfl rfl (ev_neg rfl (by omega)) rfl rfl rfl ?_
    refine rp_take hs_ hS rfl rfl (ev_lss rfl rfl) rfl rfl rfl ?_
    refine rp_take hs_ hS rfl rfl (ev_move rfl) rfl rfl rfl ?_
    by_cases h13 : dx < (-2199023255552)
    ·
     refine rp_skip hs_ hS rfl rfl (gd_ft rfl (dec_t h13)) rfl rfl ?_
     refine rp_skip hs_ hS rfl rfl (gd_ft rfl (dec_t h13)) rfl rfl ?_
     refine rp_skip hs_ hS rfl rfl (gd_ft rfl (dec_t h13)) rfl rfl ?_
     refine rp_take hs_ hS rfl rfl (ev_pk_t rfl (dec_t h13) rfl) rfl rfl rfl ?_
     refine rp_take hs_ hS rfl rfl (ev_move rfl) rfl rfl rfl ?_
     refine rp_skip hs_ hS rfl rfl rfl rfl rfl ?_
     refine rp_skip hs_ hS rfl rfl rfl rfl rfl ?_
     refine rp_skip hs_ hS rfl rfl rfl rfl rfl ?_
     refine rp_skip hs_ hS rfl rfl rfl rfl rfl ?_
     refine rp_take hs_ hS rfl rfl (ev_pk_t rfl rfl rfl) rfl rfl rfl ?_
     refine rp_take hs_ hS rfl rfl (ev_move rfl) rfl rfl rfl ?_
     refine rp_skip hs_ hS rfl rfl rfl rfl rfl ?_
     refine rp_skip hs_ hS rfl rfl rfl rfl rfl ?_
     refine rp_skip hs_ hS rfl rfl rfl rfl rfl ?_
     refine rp_take hs_ hS rfl rfl (ev_pk_t rfl rfl rfl) rfl rfl rfl ?_
     refine rp_take hs_ hS rfl rfl (ev_move rfl) rfl rfl rfl ?_
     refine rp_skip hs_ hS rfl rfl rfl rfl rfl ?_
     refine rp_skip hs_ hS rfl rfl rfl rfl rfl ?_
     refine rp_skip hs_ hS rfl rfl rfl rfl rfl ?_
     refine rp_skip hs_ hS rfl rfl rfl rfl rfl ?_
     refine rp_skip hs_ hS rfl rfl rfl rfl rfl ?_
     refine rp_skip hs_ hS rfl rfl rfl rfl rfl ?_
     refine rp_skip hs_ hS rfl rfl rfl rfl rfl ?_
     refine rp_skip hs_ hS rfl rfl rfl rfl rfl ?_
     refine rp_skip hs_ hS rfl rfl rfl rfl rfl ?_
     refine rp_skip hs_ hS rfl rfl rfl rfl rfl ?_
     refine rp_skip hs_ hS rfl rfl rfl rfl rfl ?_
     refine rp_skip hs_ hS rfl rfl rfl rfl rfl ?_
     refine rp_skip hs_ hS rfl rfl rfl rfl rfl ?_
     refine rp_skip hs_ hS rfl rfl rfl rfl rfl ?_
     refine rp_skip hs_ hS rfl rfl rfl rfl rfl ?_
     refine rp_up (up_skip rfl rfl rfl rfl (fun _ => hS) ?_)
     refine rp_skip hs_ hS rfl rfl rfl rfl rfl ?_
     refine rp_take hs_ hS rfl rfl (ev_pk_t rfl rfl rfl) rfl rfl rfl ?_
     refine rp_done ?_
     clear hs_
     refine nw_seq ?_
     refine cw_t (b := true) rfl rfl ?_
     refine cw_seq ?_
     refine cw_region ?_
     refine rw_ev (ev_assign rfl) rfl rfl rfl ?_
     refine rw_ev (ev_assign rfl) rfl rfl rfl ?_
     refine rw_nil ?_
     refine nw_seq ?_
     refine cw_ret ?_
     refine ret_post (rs := [.tmp 6, .tmp 7]) (vs := [.slice none 0 0, .int .i64 2]) rfl (.tmp rfl (.tmp rfl .nil)) ?_
     have hk_ : shiftC l dx dy = ([], 2) := by
       obtain ⟨cz, hz⟩ := get_of (l := l) (i := i) (by omega)
       unfold shiftC
       rw [if_pos (by assumption), if_neg (by rw [all_stop (by assumption : l[i]? = some _) (by simp only [shOk, Bool.and_eq_false_iff, decide_eq_false_iff_not]; first | omega | simp [*])]; simp)]
     refine ⟨(.slice none 0 0), ?_, K0, ?_⟩
     · show (.tuple #[.slice none 0 0, .int .i64 2] : Value) = _
       rw [hk_]
     · have hl_ : ([] : List Cell) = (shiftC l dx dy).1 := by rw [hk_]
       rw [← hl_]; exact (Sl.nil _ _ 2)
    ·
     refine rp_take hs_ hS rfl rfl (ev_move rfl) (gd_ff rfl (dec_f h13)) rfl rfl ?_
     refine rp_take hs_ hS rfl rfl (ev_move rfl) (gd_ff rfl (dec_f h13)) rfl rfl ?_
     refine rp_take hs_ hS rfl rfl (ev_gtr rfl rfl) (gd_ff rfl (dec_f h13)) rfl rfl ?_
     refine rp_take hs_ hS rfl rfl (ev_pk_f rfl (dec_f h13) rfl) rfl rfl rfl ?_
     refine rp_take hs_ hS rfl rfl (ev_move rfl) rfl rfl rfl ?_
     by_cases h14 : (2199023255552 : Int) < dx
     ·
      refine rp_skip hs_ hS rfl rfl (gd_ft rfl (dec_t h14)) rfl rfl ?_
      refine rp_skip hs_ hS rfl rfl (gd_ft rfl (dec_t h14)) rfl rfl ?_
      refine rp_skip hs_ hS rfl rfl (gd_ft rfl (dec_t h14)) rfl rfl ?_
      refine rp_skip hs_ hS rfl rfl (gd_ft rfl (dec_t h14)) rfl rfl ?_
      refine rp_take hs_ hS rfl rfl (ev_pk_t rfl (dec_t h14) rfl) rfl rfl rfl ?_
      refine rp_take hs_ hS rfl rfl (ev_move rfl) rfl rfl rfl ?_
      refine rp_skip hs_ hS rfl rfl rfl rfl rfl ?_
      refine rp_skip hs_ hS rfl rfl rfl rfl rfl ?_
      refine rp_skip hs_ hS rfl rfl rfl rfl rfl ?_
      refine rp_take hs_ hS rfl rfl (ev_pk_t rfl rfl rfl) rfl rfl rfl ?_
      refine rp_take hs_ hS rfl rfl (ev_move rfl) rfl rfl rfl ?_
      refine rp_skip hs_ hS rfl rfl rfl rfl rfl ?_
      refine rp_skip hs_ hS rfl rfl rfl rfl rfl ?_
      refine rp_skip hs_ hS rfl rfl rfl rfl rfl ?_
      refine rp_skip hs_ hS rfl rfl rfl rfl rfl ?_
      refine rp_skip hs_ hS rfl rfl rfl rfl rfl ?_
      refine rp_skip hs_ hS rfl rfl rfl rfl rfl ?_
      refine rp_skip hs_ hS rfl rfl rfl rfl rfl ?_
      refine rp_skip hs_ hS rfl rfl rfl rfl rfl ?_
      refine rp_skip hs_ hS rfl rfl rfl rfl rfl ?_
      refine rp_skip hs_ hS rfl rfl rfl rfl rfl ?_
      refine rp_skip hs_ hS rfl rfl rfl rfl rfl ?_
      refine rp_skip hs_ hS rfl rfl rfl rfl rfl ?_
      refine rp_skip hs_ hS rfl rfl rfl rfl rfl ?_
      refine rp_skip hs_ hS rfl rfl rfl rfl rfl ?_
      refine rp_skip hs_ hS rfl rfl rfl rfl rfl ?_
      refine rp_up (up_skip rfl rfl rfl rfl (fun _ => hS) ?_)
      refine rp_skip hs_ hS rfl rfl rfl rfl rfl ?_
      refine rp_take hs_ hS rfl rfl (ev_pk_t rfl rfl rfl) rfl rfl rfl ?_
      refine rp_done ?_
      clear hs_
      refine nw_seq ?_
      refine cw_t (b := true) rfl rfl ?_
      refine cw_seq ?_
      refine cw_region ?_
      refine rw_ev (ev_assign rfl) rfl rfl rfl ?_
      refine rw_ev (ev_assign rfl) rfl rfl rfl ?_
      refine rw_nil ?_
      refine nw_seq ?_
      refine cw_ret ?_
      refine ret_post (rs := [.tmp 6, .tmp 7]) (vs := [.slice none 0 0, .int .i64 2]) rfl (.tmp rfl (.tmp rfl .nil)) ?_
      have hk_ : shiftC l dx dy = ([], 2) := by
        obtain ⟨cz, hz⟩ := get_of (l := l) (i := i) (by omega)
        unfold shiftC
        rw [if_pos (by assumption), if_neg (by rw [all_stop (by assumption : l[i]? = some _) (by simp only [shOk, Bool.and_eq_false_iff, decide_eq_false_iff_not]; first | omega | simp [*])]; simp)]
      refine ⟨(.slice none 0 0), ?_, K0, ?_⟩
      · show (.tuple #[.slice none 0 0, .int .i64 2] : Value) = _
        rw [hk_]
      · have hl_ : ([] : List Cell) = (shiftC l dx dy).1 := by rw [hk_]
        rw [← hl_]; exact (Sl.nil _ _ 2)
     ·
      refine rp_take hs_ hS rfl rfl (ev_move rfl) (gd_ff rfl (dec_f h14)) rfl rfl ?_
      refine rp_take hs_ hS rfl rfl (ev_move rfl) (gd_ff rfl (dec_f h14)) rfl rfl ?_
      refine rp_take hs_ hS rfl rfl (ev_neg rfl (by omega)) (gd_ff rfl (dec_f h14)) rfl rfl ?_
      refine rp_take hs_ hS rfl rfl (ev_lss rfl rfl) (gd_ff rfl (dec_f h14)) rfl rfl ?_
      refine rp_take hs_ hS rfl rfl (ev_pk_f rfl (dec_f h14) rfl) rfl rfl rfl ?_
      refine rp_take hs_ hS rfl rfl (ev_move rfl) rfl rfl rfl ?_
      by_cases h15 : dy < (-2199023255552)
      ·
       refine rp_skip hs_ hS rfl rfl (gd_ft rfl (dec_t h15)) rfl rfl ?_
       refine rp_skip hs_ hS rfl rfl (gd_ft rfl (dec_t h15)) rfl rfl ?_
       refine rp_skip hs_ hS rfl rfl (gd_ft rfl (dec_t h15)) rfl rfl ?_
       refine rp_take hs_ hS rfl rfl (ev_pk_t rfl (dec_t h15) rfl) rfl rfl rfl ?_
       refine rp_take hs_ hS rfl rfl (ev_move rfl) rfl rfl rfl ?_
       refine rp_skip hs_ hS rfl rfl rfl rfl rfl ?_
       refine rp_skip hs_ hS rfl rfl rfl rfl rfl ?_
       refine rp_skip hs_ hS rfl rfl rfl rfl rfl ?_
       refine rp_skip hs_ hS rfl rfl rfl rfl rfl ?_
       refine rp_skip hs_ hS rfl rfl rfl rfl rfl ?_
       refine rp_skip hs_ hS rfl rfl rfl rfl rfl ?_
       refine rp_skip hs_ hS rfl rfl rfl rfl rfl ?_
       refine rp_skip hs_ hS rfl rfl rfl rfl rfl ?_
       refine rp_skip hs_ hS rfl rfl rfl rfl rfl ?_
       refine rp_skip hs_ hS rfl rfl rfl rfl rfl ?_
       refine rp_skip hs_ hS rfl rfl rfl rfl rfl ?_
       refine rp_skip hs_ hS rfl rfl rfl rfl rfl ?_
       refine rp_skip hs_ hS rfl rfl rfl rfl rfl ?_
       refine rp_skip hs_ hS rfl rfl rfl rfl rfl ?_
       refine rp_skip hs_ hS rfl rfl rfl rfl rfl ?_
       refine rp_up (up_skip rfl rfl rfl rfl (fun _ => hS) ?_)
       refine rp_skip hs_ hS rfl rfl rfl rfl rfl ?_
       refine rp_take hs_ hS rfl rfl (ev_pk_t rfl rfl rfl) rfl rfl rfl ?_
       refine rp_done ?_
       clear hs_
       refine nw_seq ?_
       refine cw_t (b := true) rfl rfl ?_
       refine cw_seq ?_
       refine cw_region ?_
       refine rw_ev (ev_assign rfl) rfl rfl rfl ?_
       refine rw_ev (ev_assign rfl) rfl rfl rfl ?_
       refine rw_nil ?_
       refine nw_seq ?_
       refine cw_ret ?_
       refine ret_post (rs := [.tmp 6, .tmp 7]) (vs := [.slice none 0 0, .int .i64 2]) rfl (.tmp rfl (.tmp rfl .nil)) ?_
       have hk_ : shiftC l dx dy = ([], 2) := by
         obtain ⟨cz, hz⟩ := get_of (l := l) (i := i) (by omega)
         unfold shiftC
         rw [if_pos (by assumption), if_neg (by rw [all_stop (by assumption : l[i]? = some _) (by simp only [shOk, Bool.and_eq_false_iff, decide_eq_false_iff_not]; first | omega | simp [*])]; simp)]
       refine ⟨(.slice none 0 0), ?_, K0, ?_⟩
       · show (.tuple #[.slice none 0 0, .int .i64 2] : Value) = _
         rw [hk_]
       · have hl_ : ([] : List Cell) = (shiftC l dx dy).1 := by rw [hk_]
         rw [← hl_]; exact (Sl.nil _ _ 2)
      ·
       refine rp_take hs_ hS rfl rfl (ev_move rfl) (gd_ff rfl (dec_f h15)) rfl rfl ?_
       refine rp_take hs_ hS rfl rfl (ev_move rfl) (gd_ff rfl (dec_f h15)) rfl rfl ?_
       refine rp_take hs_ hS rfl rfl (ev_gtr rfl rfl) (gd_ff rfl (dec_f h15)) rfl rfl ?_
       refine rp_take hs_ hS rfl rfl (ev_pk_f rfl (dec_f h15) rfl) rfl rfl rfl ?_
       refine rp_take hs_ hS rfl rfl (ev_move rfl) rfl rfl rfl ?_
       by_cases h16 : (2199023255552 : Int) < dy
       ·
        refine rp_skip hs_ hS rfl rfl (gd_ft rfl (dec_t h16)) rfl rfl ?_
        refine rp_skip hs_ hS rfl rfl (gd_ft rfl (dec_t h16)) rfl rfl ?_
        refine rp_skip hs_ hS rfl rfl (gd_ft rfl (dec_t h16)) rfl rfl ?_
        refine rp_skip hs_ hS rfl rfl (gd_ft rfl (dec_t h16)) rfl rfl ?_
        refine rp_skip hs_ hS rfl rfl (gd_ft rfl (dec_t h16)) rfl rfl ?_
        refine rp_skip hs_ hS rfl rfl (gd_ft rfl (dec_t h16)) rfl rfl ?_
        refine rp_skip hs_ hS rfl rfl (gd_ft rfl (dec_t h16)) rfl rfl ?_
        refine rp_skip hs_ hS rfl rfl (gd_ft rfl (dec_t h16)) rfl rfl ?_
        refine rp_skip hs_ hS rfl rfl (gd_ft rfl (dec_t h16)) rfl rfl ?_
        refine rp_skip hs_ hS rfl rfl (gd_ft rfl (dec_t h16)) rfl rfl ?_
        refine rp_skip hs_ hS rfl rfl (gd_ft rfl (dec_t h16)) rfl rfl ?_
        refine rp_skip hs_ hS rfl rfl (gd_ft rfl (dec_t h16)) rfl rfl ?_
        refine rp_skip hs_ hS rfl rfl (gd_ft rfl (dec_t h16)) rfl rfl ?_
        refine rp_skip hs_ hS rfl rfl (gd_ft rfl (dec_t h16)) rfl rfl ?_
        refine rp_skip hs_ hS rfl rfl (gd_ft rfl (dec_t h16)) rfl rfl ?_
        refine rp_up (up_skip rfl (gd_ft rfl (dec_t h16)) rfl rfl (fun _ => hS) ?_)
        refine rp_skip hs_ hS rfl rfl (gd_ft rfl (dec_t h16)) rfl rfl ?_
        refine rp_take hs_ hS rfl rfl (ev_pk_t rfl (dec_t h16) rfl) rfl rfl rfl ?_
        refine rp_done ?_
        clear hs_
        refine nw_seq ?_
        refine cw_t (b := true) rfl rfl ?_
        refine cw_seq ?_
        refine cw_region ?_
        refine rw_ev (ev_assign rfl) rfl rfl rfl ?_
        refine rw_ev (ev_assign rfl) rfl rfl rfl ?_
        refine rw_nil ?_
        refine nw_seq ?_
        refine cw_ret ?_
        refine ret_post (rs := [.tmp 6, .tmp 7]) (vs := [.slice none 0 0, .int .i64 2]) rfl (.tmp rfl (.tmp rfl .nil)) ?_
        have hk_ : shiftC l dx dy = ([], 2) := by
          obtain ⟨cz, hz⟩ := get_of (l := l) (i := i) (by omega)
          unfold shiftC
          rw [if_pos (by assumption), if_neg (by rw [all_stop (by assumption : l[i]? = some _) (by simp only [shOk, Bool.and_eq_false_iff, decide_eq_false_iff_not]; first | omega | simp [*])]; simp)]
        refine ⟨(.slice none 0 0), ?_, K0, ?_⟩
        · show (.tuple #[.slice none 0 0, .int .i64 2] : Value) = _
          rw [hk_]
        · have hl_ : ([] : List Cell) = (shiftC l dx dy).1 := by rw [hk_]
          rw [← hl_]; exact (Sl.nil _ _ 2)
       ·
        refine rp_take hs_ hS rfl rfl (ev_move rfl) (gd_ff rfl (dec_f h16)) rfl rfl ?_
        refine rp_take hs_ hS rfl rfl (ev_move rfl) (gd_ff rfl (dec_f h16)) rfl rfl ?_
        obtain ⟨c17, hc18⟩ := get_of (l := l) (i := i) (by omega)
        obtain ⟨_, _, _, _⟩ := right_in h3 hc18
        refine rp_take (v := elemPtr v i 2 0) hs_ hS rfl rfl (ev_slAt (i := (i : Int)) ⟨_, (f6.ex hS)⟩ rfl rfl el_46 (idx_ok (i := (i : Int)) hc18 (by omega))) (gd_ff rfl (dec_f h16)) rfl rfl ?_
        refine rp_take (v := elemPtr v i 2 0) hs_ hS rfl rfl (ev_elField (o := 0) ⟨_, (f6.ex hS)⟩ (len_enc hc18) rfl foff_55_0) (gd_ff rfl (dec_f h16)) rfl rfl ?_
        refine rp_take (v := .int .i64 c17.1) hs_ hS rfl rfl (ev_elLoad1 (u := .int .i64 c17.1) (fun _ h => (f6.ex h)) ⟨_, hS⟩ rfl (get_enc hc18) one_3 (by decide) rfl) (gd_ff rfl (dec_f h16)) rfl rfl ?_
        refine rp_take hs_ hS rfl rfl (ev_move rfl) (gd_ff rfl (dec_f h16)) rfl rfl ?_
        refine rp_take hs_ hS rfl rfl (ev_add rfl rfl (by omega)) (gd_ff rfl (dec_f h16)) rfl rfl ?_
        refine rp_take hs_ hS rfl rfl (ev_move rfl) (gd_ff rfl (dec_f h16)) rfl rfl ?_
        refine rp_take hs_ hS rfl rfl (ev_move rfl) (gd_ff rfl (dec_f h16)) rfl rfl ?_
        refine rp_take (v := elemPtr v i 2 0) hs_ hS rfl rfl (ev_slAt (i := (i : Int)) ⟨_, (f6.ex hS)⟩ rfl rfl el_46 (idx_ok (i := (i : Int)) hc18 (by omega))) (gd_ff rfl (dec_f h16)) rfl rfl ?_
        refine rp_take (v := elemPtr v i 2 1) hs_ hS rfl rfl (ev_elField (o := 1) ⟨_, (f6.ex hS)⟩ (len_enc hc18) rfl foff_55_1) (gd_ff rfl (dec_f h16)) rfl rfl ?_
        refine rp_take (v := .int .i64 c17.2) hs_ hS rfl rfl (ev_elLoad1 (u := .int .i64 c17.2) (fun _ h => (f6.ex h)) ⟨_, hS⟩ rfl (get_enc hc18) one_3 (by decide) rfl) (gd_ff rfl (dec_f h16)) rfl rfl ?_
        refine rp_take hs_ hS rfl rfl (ev_move rfl) (gd_ff rfl (dec_f h16)) rfl rfl ?_
        refine rp_take hs_ hS rfl rfl (ev_add rfl rfl (by omega)) (gd_ff rfl (dec_f h16)) rfl rfl ?_
        refine rp_take (v := .agg #[.int .i64 (c17.1 + dx), .int .i64 (c17.2 + dy)]) hs_ hS rfl rfl (ev_pure rfl rfl (fun _ => by kernel_rfl)) (gd_ff rfl (dec_f h16)) rfl rfl ?_
        refine rp_up (up_op rfl (op_fn (xs := [.tmp 55]) ent_89 rfl (c_in w11 (c17.1 + dx, c17.2 + dy))) (gd_ff rfl (dec_f h16)) rfl rfl ?_)
        rintro _ w19 ⟨rfl, k20⟩
        replace K0 := Ex.trans K0 k20
        replace hS := Ex.trans hS k20
        have zw19 := k20.size
        refine ⟨(fun _ => hS), ?_⟩
        refine rp_take hs_ hS rfl rfl (ev_not rfl rfl) (gd_ff rfl (dec_f h16)) rfl rfl ?_
        refine rp_take hs_ hS rfl rfl (ev_pk_f rfl (dec_f h16) rfl) rfl rfl rfl ?_
        refine rp_done ?_
        clear hs_
        replace f6 := f6.ex hS
        replace f7 := f7.ex hS
        refine nw_seq ?_
        rcases Bool.eq_false_or_eq_true (inC (c17.1 + dx, c17.2 + dy)) with h21 | h21
        ·
         refine cw_f (b := !(inC (c17.1 + dx, c17.2 + dy))) rfl (not_f h21) ?_
         refine cw_skip ?_
         refine nw_seq ?_
         refine cw_drawn (fun w22 w_ => Kp (fun b_ => (x : Value).ownBlock = some b_) w22 w_) [] (.take 0 (.take 1 (.take 2 (.take 3 (.take 4 (.take 5 (.take 6 (.take 7 (.take 8 (.take 9 (.take 10 (.take 11 (.take 12 (.take 13 (.take 14 (.take 15 (.one 16 (.one 17 (.take 18 .done))))))))))))))))))) mixed (by kernel_rfl) (by kernel_rfl) (Nat.le_of_ble_eq_true (by kernel_rfl)) ?_; intro w22 k23 hs_
         replace K0 := Ex.trans K0 k23
         replace f6 := f6.ex k23
         replace f7 := f7.ex k23
         have zw22 := k23.size
         have hS : (fun w_ => Kp (fun b_ => (x : Value).ownBlock = some b_) w22 w_) w22 := Kp.refl _ _
         have hE : Ex w22 w22 := Kp.refl _ _
         refine rp_take hs_ hS rfl rfl (ev_move rfl) rfl rfl rfl ?_
         refine rp_take hs_ hS rfl rfl (ev_move rfl) rfl rfl rfl ?_
         refine rp_take hs_ hS rfl rfl (ev_move rfl) rfl rfl rfl ?_
         refine rp_take (v := elemPtr v i 2 0) hs_ hS rfl rfl (ev_slAt (i := (i : Int)) ⟨_, (f6.ex hE)⟩ rfl rfl el_46 (idx_ok (i := (i : Int)) hc18 (by omega))) rfl rfl rfl ?_
         refine rp_take (v := elemPtr v i 2 0) hs_ hS rfl rfl (ev_elField (o := 0) ⟨_, (f6.ex hE)⟩ (len_enc hc18) rfl foff_55_0) rfl rfl rfl ?_
         refine rp_take (v := .int .i64 c17.1) hs_ hS rfl rfl (ev_elLoad1 (u := .int .i64 c17.1) (fun _ h => (f6.kp h (fun b h e => Nat.lt_irrefl _ (Nat.lt_of_lt_of_le (show b < _ from h) (Nat.le_trans zw1 (f7.lt b e).1))))) ⟨_, hS⟩ rfl (get_enc hc18) one_3 (by decide) rfl) rfl rfl rfl ?_
         refine rp_take hs_ hS rfl rfl (ev_move rfl) rfl rfl rfl ?_
         refine rp_take hs_ hS rfl rfl (ev_add rfl rfl (by omega)) rfl rfl rfl ?_
         refine rp_take hs_ hS rfl rfl (ev_move rfl) rfl rfl rfl ?_
         refine rp_take hs_ hS rfl rfl (ev_move rfl) rfl rfl rfl ?_
         refine rp_take (v := elemPtr v i 2 0) hs_ hS rfl rfl (ev_slAt (i := (i : Int)) ⟨_, (f6.ex hE)⟩ rfl rfl el_46 (idx_ok (i := (i : Int)) hc18 (by omega))) rfl rfl rfl ?_
         refine rp_take (v := elemPtr v i 2 1) hs_ hS rfl rfl (ev_elField (o := 1) ⟨_, (f6.ex hE)⟩ (len_enc hc18) rfl foff_55_1) rfl rfl rfl ?_
         refine rp_take (v := .int .i64 c17.2) hs_ hS rfl rfl (ev_elLoad1 (u := .int .i64 c17.2) (fun _ h => (f6.kp h (fun b h e => Nat.lt_irrefl _ (Nat.lt_of_lt_of_le (show b < _ from h) (Nat.le_trans zw1 (f7.lt b e).1))))) ⟨_, hS⟩ rfl (get_enc hc18) one_3 (by decide) rfl) rfl rfl rfl ?_
         refine rp_take hs_ hS rfl rfl (ev_move rfl) rfl rfl rfl ?_
         refine rp_take hs_ hS rfl rfl (ev_add rfl rfl (by omega)) rfl rfl rfl ?_
         refine rp_take (v := .agg #[.int .i64 (c17.1 + dx), .int .i64 (c17.2 + dy)]) hs_ hS rfl rfl (ev_pure rfl rfl (fun _ => by kernel_rfl)) rfl rfl rfl ?_
         refine rp_up (up_op rfl (op_buildSlice (E := 55) (m := 1) (pv := #[(0, .agg #[.int .i64 (c17.1 + dx), .int .i64 (c17.2 + dy)])]) (cs := #[.int .i64 (c17.1 + dx), .int .i64 (c17.2 + dy)]) rfl (fun _ => by kernel_rfl)) rfl rfl rfl ?_)
         rintro _ w25 ⟨g24, rfl, hg26, k27, b28⟩
         have rw29 : ∀ b, (x : Value).ownBlock = some b → b < g24 := fun b h => Nat.lt_of_lt_of_le (f7.lt b h).2 (Nat.le_trans (Nat.le_refl _) hg26)
         replace K0 := Ex.trans K0 k27
         replace hS := Kp.ex hS k27
         replace hE := Ex.trans hE k27
         have zw25 := k27.size
         have lg24 := b28.lt
         refine ⟨(fun _ => hS), ?_⟩
         refine rp_up (up_op rfl (op_app1 (f := encC) (l := ((l.take i).map fun c => (c.1 + dx, c.2 + dy))) (c := (c17.1 + dx, c17.2 + dy)) (B := w1.heap.size) row_46 plainC (f7.ex hE) b28 rfl rfl rfl (by decide) (by unfold maxLen; have hy := right_len (by assumption : rightC l = true); simp only [List.length_map, List.length_take]; omega) (by have hy := right_len (by assumption : rightC l = true); simp only [List.length_map, List.length_take]; omega) (Nat.le_trans z5 (Nat.le_trans zw11 (Nat.le_trans zw19 (Nat.le_trans zw22 zw25))))) rfl rfl rfl ?_)
         rintro v30 w31 ⟨k32, ow33⟩
         replace K0 := Ex.kp_new K0 k32 (fun b h => Nat.le_trans zw1 (f7.lt b h).1)
         replace hS := Kp.trans hS k32 (fun _ x => x) (fun _ _ x => x)
         replace f6 := f6.kp hS (fun b h e => Nat.lt_irrefl _ (Nat.lt_of_lt_of_le (show b < _ from h) (Nat.le_trans zw1 (f7.lt b e).1)))
         replace b28 := b28.kp k32 (fun h => Nat.lt_irrefl _ (rw29 _ h))
         have zw31 := k32.size
         refine ⟨(fun _ => hS), ?_⟩
         refine rp_take hs_ hS rfl rfl (ev_assign rfl) rfl rfl rfl ?_
         refine rp_done ?_
         clear hs_
         refine nw_block ?_
         refine nw_seq ?_
         refine cw_region ?_
         refine rw_ev (ev_move rfl) rfl rfl rfl ?_
         refine rw_ev (ev_add rfl rfl (by omega)) rfl rfl rfl ?_
         refine rw_ev (ev_assign rfl) rfl rfl rfl ?_
         refine rw_nil ?_
         exact nw_round ((i + 1), v30) (Sub.cons rfl (Sub.cons rfl (Sub.cons rfl (Sub.cons rfl (Sub.cons rfl (Sub.cons rfl (Sub.cons rfl (Sub.int (b := ((i + 1) : Int)) rfl (by omega) Sub.nil)))))))) ⟨K0, (Nat.le_trans z5 (Nat.le_trans zw11 (Nat.le_trans zw19 (Nat.le_trans zw22 (Nat.le_trans zw25 zw31))))), f6, (by have hq := ow33; rw [map_take_succ (by assumption : l[i]? = some _)]; exact hq), (by first | omega | (rw [all_succ (by assumption : l[i]? = some _), shOk]; simp [*]; omega)), (by first | omega | (rw [all_succ (by assumption : l[i]? = some _), shOk]; simp [*]; omega))⟩ (by first | omega | (dsimp only; omega))
        ·
         refine cw_t (b := !(inC (c17.1 + dx, c17.2 + dy))) rfl (not_t h21) ?_
         refine cw_seq ?_
         refine cw_region ?_
         refine rw_ev (ev_assign rfl) rfl rfl rfl ?_
         refine rw_ev (ev_assign rfl) rfl rfl rfl ?_
         refine rw_nil ?_
         refine nw_seq ?_
         refine cw_ret ?_
         refine ret_post (rs := [.tmp 6, .tmp 7]) (vs := [.slice none 0 0, .int .i64 2]) rfl (.tmp rfl (.tmp rfl .nil)) ?_
         have hk_ : shiftC l dx dy = ([], 2) := by
           unfold shiftC
           rw [if_pos (by assumption), if_neg (by rw [all_stop (by assumption : l[i]? = some _) (by simp only [shOk, Bool.and_eq_false_iff, decide_eq_false_iff_not]; first | omega | simp [*])]; simp)]
         refine ⟨(.slice none 0 0), ?_, K0, ?_⟩
         · show (.tuple #[.slice none 0 0, .int .i64 2] : Value) = _
           rw [hk_]
         · have hl_ : ([] : List Cell) = (shiftC l dx dy).1 := by rw [hk_]
           rw [← hl_]; exact (Sl.nil _ _ 2)
   ·
    refine cw_f (b := decide ((i : Int) < (l.length : Int))) rfl (dec_f h10) ?_
    refine cw_exit ?_
    refine xw_seq ?_
    refine xw_goal ?_
    refine xw_hit ?_
    refine nw_seq ?_
    refine cw_seq ?_
    refine cw_region ?_
    refine rw_ev (ev_move rfl) rfl rfl rfl ?_
    refine rw_ev (ev_assign rfl) rfl rfl rfl ?_
    refine rw_ev (ev_assign rfl) rfl rfl rfl ?_
    refine rw_nil ?_
    refine nw_seq ?_
    refine cw_ret ?_
    refine ret_post (rs := [.tmp 6, .tmp 7]) (vs := [x, .int .i64 0]) rfl (.tmp rfl (.tmp rfl .nil)) ?_
    have hk_ : shiftC l dx dy = (((l.take i).map fun c => (c.1 + dx, c.2 + dy)), 0) := by
      have hx := take_all (by assumption : ¬ (i : Int) < l.length)
      have ha : l.all (shOk dx dy) = true := by rw [← hx]; assumption
      unfold shiftC
      rw [if_pos (by assumption), if_pos ha, hx]
    refine ⟨x, ?_, K0, ?_⟩
    · show (.tuple #[x, .int .i64 0] : Value) = _
      rw [hk_]
    · have hl_ : ((l.take i).map fun c => (c.1 + dx, c.2 + dy)) = (shiftC l dx dy).1 := by rw [hk_]
      rw [← hl_]; exact f7.sl.since (fun _ hb => Nat.le_trans zw1 hb.1)
  ·
   refine cw_t (b := !(rightC l)) rfl (not_t h3) ?_
   refine cw_seq ?_
   refine cw_region ?_
   refine rw_ev (ev_assign rfl) rfl rfl rfl ?_
   refine rw_ev (ev_assign rfl) rfl rfl rfl ?_
   refine rw_nil ?_
   refine nw_seq ?_
   refine cw_ret ?_
   refine ret_post (rs := [.tmp 6, .tmp 7]) (vs := [.slice none 0 0, .int .i64 1]) rfl (.tmp rfl (.tmp rfl .nil)) ?_
   have hk_ : shiftC l dx dy = ([], 1) := by
     simp [shiftC, *]
   refine ⟨(.slice none 0 0), ?_, K0, ?_⟩
   · show (.tuple #[.slice none 0 0, .int .i64 1] : Value) = _
     rw [hk_]
   · have hl_ : ([] : List Cell) = (shiftC l dx dy).1 := by rw [hk_]
     rw [← hl_]; exact (Sl.nil _ _ 2)

theorem c_set (w : World) (v : Value) (raw : List Cell) (hv : Sl w (fun b => b < w.heap.size) v 2 (raw.map encC)) (hr : ∀ c ∈ raw, (-9223372036854775808 ≤ c.1 ∧ c.1 ≤ 9223372036854775807) ∧ (-9223372036854775808 ≤ c.2 ∧ c.2 ≤ 9223372036854775807)) : Fn Try.prog 44 [v] w (fun v w' => ∃ u : Value, v = u ∧ Ex w w' ∧ Sl w' (fun b => w.heap.size ≤ b ∧ b < w'.heap.size) u 2 ((setC raw).map encC)) := by
  have K0 : Ex w w := Kp.refl _ _
  refine fn_enter (n := 33) Try.func44 rfl rfl (Nat.le_of_ble_eq_true rfl) ?_
  show CW _ _ _ _ _ _ [(0, v)] _
  have hlv_ := hv.lenm
  refine cw_seq ?_
  refine cw_region ?_
  refine rw_ev (ev_assign rfl) rfl rfl rfl ?_
  refine rw_nil ?_
  refine nw_seq ?_
  refine cw_seq ?_
  refine cw_region ?_
  refine rw_ev (ev_assign rfl) rfl rfl rfl ?_
  refine rw_nil ?_
  refine nw_seq ?_
  refine cw_seq ?_
  refine cw_seq ?_
  refine cw_region ?_
  refine rw_ev (ev_assign rfl) rfl rfl rfl ?_
  refine rw_nil ?_
  refine nw_seq ?_
  refine cw_block ?_
  refine cw_loop (σ := Nat × Value) (fun s_ => match s_ with | (i, x) => [(0, v), (2, .slice none 0 0), (3, x), (4, .int .i64 (i : Int))]) (fun s_ wr => match s_ with | (i, x) => Ex w wr ∧ w.heap.size ≤ wr.heap.size ∧ Sl wr (fun b => b < w.heap.size) v 2 (raw.map encC) ∧ Sl wr (fun b => w.heap.size ≤ b) x 2 (((raw.take i).foldl (fun l r => putC l (rawSet r)) []).map encC) ∧ i ≤ raw.length ∧ i ≤ 60) (fun s_ => match s_ with | (i, x) => raw.length - i) (0, .slice none 0 0) (Sub.cons rfl (Sub.cons rfl (Sub.cons rfl (Sub.int (b := (0 : Int)) rfl (by omega) Sub.nil)))) ⟨K0, (Nat.le_refl _), hv, (Sl.nil _ _ _), (by omega), (by omega)⟩ ?_
  rintro ⟨i, x⟩ w1 ⟨K0, z2, f3, f4, pr5, pr6⟩
  show CW _ _ _ _ _ _ [(0, v), (2, .slice none 0 0), (3, x), (4, .int .i64 (i : Int))] _
  refine cw_seq ?_
  refine cw_seq ?_
  refine cw_region ?_
  refine rw_ev (ev_move rfl) rfl rfl rfl ?_
  refine rw_ev (ev_move rfl) rfl rfl rfl ?_
  refine rw_ev (v := .int .i64 (raw.length : Int)) (ev_lenm (l := raw) ⟨_, f3⟩ rfl el_23 rfl) rfl rfl rfl ?_
  refine rw_ev (ev_lss rfl rfl) rfl rfl rfl ?_
  refine rw_ev (ev_move rfl) rfl rfl rfl ?_
  by_cases h7 : (i : Int) < (raw.length : Int)
  ·
   refine rw_ev (ev_move rfl) (gd_tt rfl (dec_t h7)) rfl rfl ?_
   refine rw_ev (ev_lss rfl rfl) (gd_tt rfl (dec_t h7)) rfl rfl ?_
   refine rw_ev (ev_pk_t rfl (dec_t h7) rfl) rfl rfl rfl ?_
   refine rw_nil ?_
   refine nw_seq ?_
   by_cases h8 : (i : Int) < 60
   ·
    refine cw_t (b := decide ((i : Int) < 60)) rfl (dec_t h8) ?_
    refine cw_skip ?_
    refine nw_seq ?_
    refine cw_seq ?_
    refine cw_block ?_
    refine cw_drawn (fun w9 w_ => Ex w9 w_) [] (.take 0 (.take 1 (.take 2 (.take 3 (.take 4 (.take 5 (.take 8 (.take 9 (.take 10 (.take 11 (.take 12 (.one 6 (.take 7 (.one 13 (.take 14 (.take 15 (.one 16 (.take 17 .done)))))))))))))))))) mixed (by kernel_rfl) (by kernel_rfl) (Nat.le_of_ble_eq_true (by kernel_rfl)) ?_; intro w9 k10 hs_
    replace K0 := Ex.trans K0 k10
    replace f3 := f3.ex k10
    replace f4 := f4.ex k10
    have zw9 := k10.size
    have hS : (fun w_ => Ex w9 w_) w9 := Kp.refl _ _
    refine rp_take hs_ hS rfl rfl (ev_move rfl) rfl rfl rfl ?_
    refine rp_take hs_ hS rfl rfl (ev_move rfl) rfl rfl rfl ?_
    refine rp_take hs_ hS rfl rfl (ev_move rfl) rfl rfl rfl ?_
    obtain ⟨c11, hc12⟩ := get_of (l := raw) (i := i) (by omega)
    obtain ⟨⟨_, _⟩, ⟨_, _⟩⟩ := hr _ (List.mem_of_getElem? hc12)
    refine rp_take (v := elemPtr v i 2 0) hs_ hS rfl rfl (ev_slAt (i := (i : Int)) ⟨_, (f3.ex hS)⟩ rfl rfl el_23 (idx_ok (i := (i : Int)) hc12 (by omega))) rfl rfl rfl ?_
    refine rp_take (v := elemPtr v i 2 0) hs_ hS rfl rfl (ev_elArr (i := 0) (m := 2) (q := 1) ⟨_, (f3.ex hS)⟩ (len_enc hc12) rfl rfl arr_45 (by omega)) rfl rfl rfl ?_
    refine rp_take (v := .int .i64 c11.1) hs_ hS rfl rfl (ev_elLoad1 (u := .int .i64 c11.1) (fun _ h => (f3.ex h)) ⟨_, hS⟩ rfl (get_enc hc12) one_3 (by decide) rfl) rfl rfl rfl ?_
    refine rp_take hs_ hS rfl rfl (ev_move rfl) rfl rfl rfl ?_
    refine rp_take hs_ hS rfl rfl (ev_move rfl) rfl rfl rfl ?_
    refine rp_take (v := elemPtr v i 2 0) hs_ hS rfl rfl (ev_slAt (i := (i : Int)) ⟨_, (f3.ex hS)⟩ rfl rfl el_23 (idx_ok (i := (i : Int)) hc12 (by omega))) rfl rfl rfl ?_
    refine rp_take (v := elemPtr v i 2 1) hs_ hS rfl rfl (ev_elArr (i := 1) (m := 2) (q := 1) ⟨_, (f3.ex hS)⟩ (len_enc hc12) rfl rfl arr_45 (by omega)) rfl rfl rfl ?_
    refine rp_take (v := .int .i64 c11.2) hs_ hS rfl rfl (ev_elLoad1 (u := .int .i64 c11.2) (fun _ h => (f3.ex h)) ⟨_, hS⟩ rfl (get_enc hc12) one_3 (by decide) rfl) rfl rfl rfl ?_
    refine rp_up (up_op rfl (op_fn (xs := [.tmp 20, .const (.int .i64 16)]) ent_60 rfl (c_pick60 w9 c11.1 (16 : Int) (by omega) (by omega))) rfl rfl rfl ?_)
    rintro _ w13 ⟨rfl, k14, pr15⟩
    replace K0 := Ex.trans K0 k14
    replace hS := Ex.trans hS k14
    have zw13 := k14.size
    refine ⟨(fun _ => hS), ?_⟩
    refine rp_take hs_ hS rfl rfl (ev_sub rfl rfl (by omega)) rfl rfl rfl ?_
    refine rp_up (up_op rfl (op_fn (xs := [.tmp 27, .const (.int .i64 16)]) ent_60 rfl (c_pick60 w13 c11.2 (16 : Int) (by omega) (by omega))) rfl rfl rfl ?_)
    rintro _ w16 ⟨rfl, k17, pr18⟩
    replace K0 := Ex.trans K0 k17
    replace hS := Ex.trans hS k17
    have zw16 := k17.size
    refine ⟨(fun _ => hS), ?_⟩
    refine rp_take hs_ hS rfl rfl (ev_sub rfl rfl (by omega)) rfl rfl rfl ?_
    refine rp_take (v := .agg #[.int .i64 ((pickI c11.1 (16 : Int)) - 8), .int .i64 ((pickI c11.2 (16 : Int)) - 8)]) hs_ hS rfl rfl (ev_pure rfl rfl (fun _ => by kernel_rfl)) rfl rfl rfl ?_
    refine rp_up (up_op rfl (op_fn (xs := [.tmp 15, .tmp 30]) ent_41 rfl (c_put w16 x ((raw.take i).foldl (fun l r => putC l (rawSet r)) []) (Sl.below (f4.ex hS)) ((pickI c11.1 (16 : Int)) - 8, (pickI c11.2 (16 : Int)) - 8) (by have hp := setTake_len rawSet raw i; omega))) rfl rfl rfl ?_)
    rintro u19 w20 ⟨_, rfl, k21, sl22⟩
    replace K0 := Ex.trans K0 k21
    replace hS := Ex.trans hS k21
    have zw20 := k21.size
    refine ⟨(fun _ => hS), ?_⟩
    refine rp_take hs_ hS rfl rfl (ev_assign rfl) rfl rfl rfl ?_
    refine rp_done ?_
    clear hs_
    replace f3 := f3.ex hS
    replace f4 := f4.ex hS
    refine nw_block ?_
    refine nw_seq ?_
    refine cw_region ?_
    refine rw_ev (ev_move rfl) rfl rfl rfl ?_
    refine rw_ev (ev_add rfl rfl (by omega)) rfl rfl rfl ?_
    refine rw_ev (ev_assign rfl) rfl rfl rfl ?_
    refine rw_nil ?_
    exact nw_round ((i + 1), u19) (Sub.cons rfl (Sub.cons rfl (Sub.cons rfl (Sub.int (b := ((i + 1) : Int)) rfl (by omega) Sub.nil)))) ⟨K0, (Nat.le_trans z2 (Nat.le_trans zw9 (Nat.le_trans zw13 (Nat.le_trans zw16 zw20)))), f3, (by have hq := (Sl.mono sl22 (fun _ _ hb => Nat.le_trans (Nat.le_trans z2 (Nat.le_trans zw9 (Nat.le_trans zw13 zw16))) hb.1)); rw [take_succ_fold (by assumption : raw[i]? = some _)]; exact hq), (by omega), (by omega)⟩ (by first | omega | (dsimp only; omega))
   ·
    refine cw_f (b := decide ((i : Int) < 60)) rfl (dec_f h8) ?_
    refine cw_exit ?_
    refine xw_seq ?_
    refine xw_goal ?_
    refine xw_hit ?_
    refine nw_seq ?_
    refine cw_seq ?_
    refine cw_region ?_
    refine rw_ev (ev_move rfl) rfl rfl rfl ?_
    refine rw_ev (ev_assign rfl) rfl rfl rfl ?_
    refine rw_nil ?_
    refine nw_seq ?_
    refine cw_ret ?_
    refine ret_post (rs := [.tmp 2]) (vs := [x]) rfl (.tmp rfl .nil) ?_
    refine ⟨x, ?_, K0, ?_⟩
    · show (x : Value) = _
      first | rfl | simp
    · have hl_ : ((raw.take i).foldl (fun l r => putC l (rawSet r)) []) = setC raw := by unfold setC; rw [take_cap (by assumption : i ≤ 60) (by omega)]
      rw [← hl_]; exact (Sl.since f4 (fun _ hb => Nat.le_trans (Nat.le_refl _) hb))
  ·
   refine rw_skip (gd_tf rfl (dec_f h7)) rfl rfl ?_
   refine rw_skip (gd_tf rfl (dec_f h7)) rfl rfl ?_
   refine rw_ev (ev_pk_f rfl (dec_f h7) rfl) rfl rfl rfl ?_
   refine rw_nil ?_
   refine nw_seq ?_
   refine cw_f (b := false) rfl rfl ?_
   refine cw_exit ?_
   refine xw_seq ?_
   refine xw_goal ?_
   refine xw_hit ?_
   refine nw_seq ?_
   refine cw_seq ?_
   refine cw_region ?_
   refine rw_ev (ev_move rfl) rfl rfl rfl ?_
   refine rw_ev (ev_assign rfl) rfl rfl rfl ?_
   refine rw_nil ?_
   refine nw_seq ?_
   refine cw_ret ?_
   refine ret_post (rs := [.tmp 2]) (vs := [x]) rfl (.tmp rfl .nil) ?_
   refine ⟨x, ?_, K0, ?_⟩
   · show (x : Value) = _
     first | rfl | simp
   · have hl_ : ((raw.take i).foldl (fun l r => putC l (rawSet r)) []) = setC raw := by unfold setC; rw [take_cap (by assumption : i ≤ 60) (by omega)]
     rw [← hl_]; exact (Sl.since f4 (fun _ hb => Nat.le_trans (Nat.le_refl _) hb))

end Go.Proofs.Ythpaadmpgdglnaa
