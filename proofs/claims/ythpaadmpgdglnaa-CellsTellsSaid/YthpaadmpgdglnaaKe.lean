/- An element of a literal slice, at a number that is known. No condition. -/
import Derived.Test.YthpaadmpgdglnaaK6
namespace Go.Proofs.Ythpaadmpgdglnaa
open Go Go.RowKit
section
variable {P : Program} {n : Nat} {e : Env} {S : World → Prop} {dst : Option Tmp} {ty : TypeId} {pos : String} {after : Array Edge} {guard : Option (Nat × Bool)}
theorem ev_litAt {x y : Operand} {t E k g m c : Nat} {i : Int} (hx : look e x = some (.slice (some ⟨g, 0, none⟩) m c)) (hy : look e y = some (.int .i64 i)) (hf : elOf P t = some (E, k)) (hi : 0 ≤ i ∧ i < m) (j : Nat) (hj : i.toNat * k = j) :
    Ev P n e S ⟨dst, .indexAddr t x y, ty, pos, after, guard⟩ (.pointer (some ⟨g, j, none⟩)) := fun a ha w _ => by
  obtain ⟨hu, inf, hinf, rfl⟩ := el_parts hf
  subst hj
  simp [execOp, ha.eval hx, ha.eval hy, Instr.indexAt, asIntOf, underlying, hu, hi, run_sizeOf hinf, add_none]
end
end Go.Proofs.Ythpaadmpgdglnaa
