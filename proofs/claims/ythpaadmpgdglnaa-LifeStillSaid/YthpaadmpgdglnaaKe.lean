/- An element of a literal slice, at a number that is known. No condition. -/
import Derived.Test.YthpaadmpgdglnaaK6
namespace Go.Proofs.Ythpaadmpgdglnaa
open Go Go.RowKit
section
variable {P : Program} {n : Nat} {e : Env} {S : World → Prop} {dst : Option Tmp} {ty : TypeId} {pos : String} {after : Array Edge} {guard : Option (Nat × Bool)}
theorem ev_litAt {x y : Operand} {t E k g m c : Nat} {i : Int} (hx : look e x = some (.slice (some ⟨g, 0, none⟩) m c)) (hy : look e y = some (.int .i64 i)) (hf : elOf P t = some (E, k)) (hi : 0 ≤ i ∧ i < m) (j : Nat) (hj : i.toNat * k = j) :
    Ev P n e S ⟨dst, .indexAddr t x y, ty, pos, after, guard⟩ (.pointer (some ⟨g, j, none⟩)) := fun a ha w _ => by
  obtain ⟨hu, inf, hinf, rfl⟩ := el_parts hf
  subst hj
  simp [execOp, ha.eval hx, ha.eval hy, Instr.indexAt, asIntOf, underlying, hu, hi, run_sizeOf hinf, add_none]
theorem tdiv_bd {p q : Int} (h : -9223372036854775808 ≤ p ∧ p ≤ 9223372036854775807) (hq : 1 ≤ q) : -9223372036854775808 ≤ p.tdiv q ∧ p.tdiv q ≤ 9223372036854775807 := by
  rcases Int.le_total 0 p with h0 | h0
  · rw [Int.tdiv_eq_ediv_of_nonneg h0]
    have h1 := Int.ediv_nonneg h0 (show (0 : Int) ≤ q by omega)
    have h2 := Int.ediv_le_self q h0
    omega
  · have h0' : 0 ≤ -p := by omega
    have e : p.tdiv q = -((-p) / q) := by rw [← Int.tdiv_eq_ediv_of_nonneg h0', Int.neg_tdiv, Int.neg_neg]
    have h1 := Int.ediv_nonneg h0' (show (0 : Int) ≤ q by omega)
    have h2 := Int.ediv_le_self q h0'
    omega
theorem ev_quot {x y : Operand} {p q : Int} {t u : TypeId} (hx : look e x = some (.int .i64 p)) (hy : look e y = some (.int .i64 q)) (h : (-9223372036854775808 ≤ p ∧ p ≤ 9223372036854775807) ∧ 1 ≤ q) :
    Ev P n e S ⟨dst, .binOp .quo t x y u, ty, pos, after, guard⟩ (.int .i64 (p.tdiv q)) := fun a ha w _ => by
  have hq : q ≠ 0 := by omega
  have hw := IntWalk.i64_quo' p q ⟨h.1.1, h.1.2, h.2⟩
  simp [execOp, ha.eval hx, ha.eval hy, eqGuard, binOp, Op.intDiv, hq, hw]
end
end Go.Proofs.Ythpaadmpgdglnaa
