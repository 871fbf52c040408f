/- The law LifeDead of the program returns true at every input, and its arguments read afterwards as they read before. Its conditions: none. -/
import Derived.Test.YthpaadmpgdglnaaRow1
import Derived.Test.YthpaadmpgdglnaaL12
namespace Go.Proofs.Ythpaadmpgdglnaa
open Go Go.RowKit Go.ChangeShapes Go.WideShapes Go.ChangeAt
set_option maxRecDepth 100000
theorem walk_LifeDead (w : World) (args : List Value) (h : Args Try.prog w Try.f12.params.toList args) : Fn Try.prog 12 args w fun v w' => v = .bool true ∧ Ex w w' := by
  have h : Args Try.prog w [23, 3] args := h
  obtain ⟨v0, vs, rfl, a0, h⟩ := args_cons h
  obtain ⟨v1, vs, rfl, a1, h⟩ := args_cons h
  obtain rfl := args_nil h
  obtain ⟨l0, s0, r0⟩ := arg_raw a0
  obtain ⟨n1, rfl, b1⟩ := arg_int und_int_3 a1
  exact law_LifeDead w v0 l0 s0 r0 n1 b1
theorem lifted_LifeDead (os : Os) (started : os.Started) (H : Type) (enc : TypeId × Value → H) :
    ReturnsInHanded {} Try.checked os 12 .any (Rows.lifeDeadSpec.pre6 enc Try.prog Try.f12 Rows.lifeDeadRow.domain false) (Rows.lifeDeadSpec.post enc Try.prog Try.f12 false true false false) :=
  lifted_of Try.func12 (by kernel_rfl) own_ok laid_ok (by kernel_rfl) rfl rfl (fun H ds h => match ds, h with | [_, _], _ => ⟨rfl, rfl, rfl⟩) walk_LifeDead os started H enc
    (ChangeSpec.witness6 (enc := enc) (C := Try.checked) false ⟨#[], #[.slice none 0 0, .int .i64 0], []⟩ 8 (by kernel_rfl) (by kernel_rfl) (by kernel_rfl) (by kernel_rfl))
theorem facts_LifeDead : joinedFacts Try.prog 12 Try.f12 Rows.lifeDeadSpec Rows.lifeDeadRow = true :=
  facts_of make_ok liftsFinal_ok.symm mayEnter_ok (by kernel_rfl) (by kernel_rfl) (by kernel_rfl) (by kernel_rfl) (by kernel_rfl) (by kernel_rfl)
theorem over_LifeDead : Rows.lifeDeadRow.holds Try.pinned (OpenSpec.ofChange Rows.lifeDeadSpec) :=
  OpenClaim.holds_of_wide 12 Try.f12 rfl rfl rfl rfl rfl rfl rfl ⟨rfl, rfl, rfl, rfl, rfl⟩ rfl rfl rfl rfl rfl (by kernel_rfl) Try.func12 facts_LifeDead
    (of_decide_eq_true (by kernel_rfl)) (by unfold Func.isWrapper; first | (rw [if_pos (by decide +kernel)]; kernel_rfl) | (rw [if_neg (by decide +kernel)]; exact ⟨rfl, rfl⟩))
    (fun os started H enc _ => lifted_LifeDead os started H enc)
/-- The statement. -/
theorem proved_LifeDead : Rows.LifeDeadSaid := over_LifeDead
#print axioms proved_LifeDead
end Go.Proofs.Ythpaadmpgdglnaa
