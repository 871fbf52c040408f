/- The law LifeSteps of the program returns true at every input, and its arguments read afterwards as they read before. Its conditions: none. -/
import Derived.Test.YthpaadmpgdglnaaRow1
import Derived.Test.YthpaadmpgdglnaaL11
namespace Go.Proofs.Ythpaadmpgdglnaa
open Go Go.RowKit Go.ChangeShapes Go.WideShapes Go.ChangeAt
set_option maxRecDepth 100000
theorem walk_LifeSteps (w : World) (args : List Value) (h : Args Try.prog w Try.f11.params.toList args) : Fn Try.prog 11 args w fun v w' => v = .bool true ∧ Ex w w' := by
  have h : Args Try.prog w [23, 3, 3] args := h
  obtain ⟨v0, vs, rfl, a0, h⟩ := args_cons h
  obtain ⟨v1, vs, rfl, a1, h⟩ := args_cons h
  obtain ⟨v2, vs, rfl, a2, h⟩ := args_cons h
  obtain rfl := args_nil h
  obtain ⟨l0, s0, r0⟩ := arg_raw a0
  obtain ⟨n1, rfl, b1⟩ := arg_int und_int_3 a1
  obtain ⟨n2, rfl, b2⟩ := arg_int und_int_3 a2
  exact law_LifeSteps w v0 l0 s0 r0 n1 n2 b1 b2
theorem lifted_LifeSteps (os : Os) (started : os.Started) (H : Type) (enc : TypeId × Value → H) :
    ReturnsInHanded {} Try.checked os 11 .any (Rows.lifeStepsSpec.pre6 enc Try.prog Try.f11 Rows.lifeStepsRow.domain false) (Rows.lifeStepsSpec.post enc Try.prog Try.f11 false true false false) :=
  lifted_of Try.func11 (by kernel_rfl) own_ok laid_ok (by kernel_rfl) rfl rfl (fun H ds h => match ds, h with | [_, _, _], _ => ⟨rfl, rfl, rfl⟩) walk_LifeSteps os started H enc
    (ChangeSpec.witness6 (enc := enc) (C := Try.checked) false ⟨#[], #[.slice none 0 0, .int .i64 0, .int .i64 0], []⟩ 8 (by kernel_rfl) (by kernel_rfl) (by kernel_rfl) (by kernel_rfl))
theorem facts_LifeSteps : joinedFacts Try.prog 11 Try.f11 Rows.lifeStepsSpec Rows.lifeStepsRow = true :=
  facts_of make_ok liftsFinal_ok.symm mayEnter_ok (by kernel_rfl) (by kernel_rfl) (by kernel_rfl) (by kernel_rfl) (by kernel_rfl) (by kernel_rfl)
theorem over_LifeSteps : Rows.lifeStepsRow.holds Try.pinned (OpenSpec.ofChange Rows.lifeStepsSpec) :=
  OpenClaim.holds_of_wide 11 Try.f11 rfl rfl rfl rfl rfl rfl rfl ⟨rfl, rfl, rfl, rfl, rfl⟩ rfl rfl rfl rfl rfl (by kernel_rfl) Try.func11 facts_LifeSteps
    (of_decide_eq_true (by kernel_rfl)) (by unfold Func.isWrapper; first | (rw [if_pos (by decide +kernel)]; kernel_rfl) | (rw [if_neg (by decide +kernel)]; exact ⟨rfl, rfl⟩))
    (fun os started H enc _ => lifted_LifeSteps os started H enc)
/-- The statement. -/
theorem proved_LifeSteps : Rows.LifeStepsSaid := over_LifeSteps
#print axioms proved_LifeSteps
end Go.Proofs.Ythpaadmpgdglnaa
