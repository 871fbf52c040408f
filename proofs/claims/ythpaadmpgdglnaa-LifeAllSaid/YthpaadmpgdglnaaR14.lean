/- The law LifeAll of the program returns true at every input, and its arguments read afterwards as they read before. Its conditions: none. -/
import Derived.Test.YthpaadmpgdglnaaRow1
import Derived.Test.YthpaadmpgdglnaaL14
namespace Go.Proofs.Ythpaadmpgdglnaa
open Go Go.RowKit Go.ChangeShapes Go.WideShapes Go.ChangeAt
set_option maxRecDepth 100000
theorem walk_LifeAll (w : World) (args : List Value) (h : Args Try.prog w Try.f14.params.toList args) : Fn Try.prog 14 args w fun v w' => v = .bool true ∧ Ex w w' := by
  have h : Args Try.prog w [23] args := h
  obtain ⟨v0, vs, rfl, a0, h⟩ := args_cons h
  obtain rfl := args_nil h
  obtain ⟨l0, s0, r0⟩ := arg_raw a0
  exact law_LifeAll w v0 l0 s0 r0
theorem lifted_LifeAll (os : Os) (started : os.Started) (H : Type) (enc : TypeId × Value → H) :
    ReturnsInHanded {} Try.checked os 14 .any (Rows.lifeAllSpec.pre6 enc Try.prog Try.f14 Rows.lifeAllRow.domain false) (Rows.lifeAllSpec.post enc Try.prog Try.f14 false true false false) :=
  lifted_of Try.func14 (by kernel_rfl) own_ok laid_ok (by kernel_rfl) rfl rfl (fun H ds h => match ds, h with | [_], _ => ⟨rfl, rfl, rfl⟩) walk_LifeAll os started H enc
    (ChangeSpec.witness6 (enc := enc) (C := Try.checked) false ⟨#[], #[.slice none 0 0], []⟩ 8 (by kernel_rfl) (by kernel_rfl) (by kernel_rfl) (by kernel_rfl))
theorem facts_LifeAll : joinedFacts Try.prog 14 Try.f14 Rows.lifeAllSpec Rows.lifeAllRow = true :=
  facts_of make_ok liftsFinal_ok.symm mayEnter_ok (by kernel_rfl) (by kernel_rfl) (by kernel_rfl) (by kernel_rfl) (by kernel_rfl) (by kernel_rfl)
theorem over_LifeAll : Rows.lifeAllRow.holds Try.pinned (OpenSpec.ofChange Rows.lifeAllSpec) :=
  OpenClaim.holds_of_wide 14 Try.f14 rfl rfl rfl rfl rfl rfl rfl ⟨rfl, rfl, rfl, rfl, rfl⟩ rfl rfl rfl rfl rfl (by kernel_rfl) Try.func14 facts_LifeAll
    (of_decide_eq_true (by kernel_rfl)) (by unfold Func.isWrapper; first | (rw [if_pos (by decide +kernel)]; kernel_rfl) | (rw [if_neg (by decide +kernel)]; exact ⟨rfl, rfl⟩))
    (fun os started H enc _ => lifted_LifeAll os started H enc)
/-- The statement. -/
theorem proved_LifeAll : Rows.LifeAllSaid := over_LifeAll
#print axioms proved_LifeAll
end Go.Proofs.Ythpaadmpgdglnaa
