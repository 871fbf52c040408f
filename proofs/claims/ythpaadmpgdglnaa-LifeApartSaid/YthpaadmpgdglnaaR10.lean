/- The law LifeApart of the program returns true at every input, and its arguments read afterwards as they read before. Its conditions: none. -/
import Derived.Test.YthpaadmpgdglnaaRow1
import Derived.Test.YthpaadmpgdglnaaL10
namespace Go.Proofs.Ythpaadmpgdglnaa
open Go Go.RowKit Go.ChangeShapes Go.WideShapes Go.ChangeAt
set_option maxRecDepth 100000
theorem walk_LifeApart (w : World) (args : List Value) (h : Args Try.prog w Try.f10.params.toList args) : Fn Try.prog 10 args w fun v w' => v = .bool true ∧ Ex w w' := by
  have h : Args Try.prog w [23, 23, 3] args := h
  obtain ⟨v0, vs, rfl, a0, h⟩ := args_cons h
  obtain ⟨v1, vs, rfl, a1, h⟩ := args_cons h
  obtain ⟨v2, vs, rfl, a2, h⟩ := args_cons h
  obtain rfl := args_nil h
  obtain ⟨l0, s0, r0⟩ := arg_raw a0
  obtain ⟨l1, s1, r1⟩ := arg_raw a1
  obtain ⟨n2, rfl, b2⟩ := arg_int und_int_3 a2
  exact law_LifeApart w v0 l0 s0 r0 v1 l1 s1 r1 n2 b2
theorem lifted_LifeApart (os : Os) (started : os.Started) (H : Type) (enc : TypeId × Value → H) :
    ReturnsInHanded {} Try.checked os 10 .any (Rows.lifeApartSpec.pre6 enc Try.prog Try.f10 Rows.lifeApartRow.domain false) (Rows.lifeApartSpec.post enc Try.prog Try.f10 false true false false) :=
  lifted_of Try.func10 (by kernel_rfl) own_ok laid_ok (by kernel_rfl) rfl rfl (fun H ds h => match ds, h with | [_, _, _], _ => ⟨rfl, rfl, rfl⟩) walk_LifeApart os started H enc
    (ChangeSpec.witness6 (enc := enc) (C := Try.checked) false ⟨#[], #[.slice none 0 0, .slice none 0 0, .int .i64 0], []⟩ 8 (by kernel_rfl) (by kernel_rfl) (by kernel_rfl) (by kernel_rfl))
theorem facts_LifeApart : joinedFacts Try.prog 10 Try.f10 Rows.lifeApartSpec Rows.lifeApartRow = true :=
  facts_of make_ok liftsFinal_ok.symm mayEnter_ok (by kernel_rfl) (by kernel_rfl) (by kernel_rfl) (by kernel_rfl) (by kernel_rfl) (by kernel_rfl)
theorem over_LifeApart : Rows.lifeApartRow.holds Try.pinned (OpenSpec.ofChange Rows.lifeApartSpec) :=
  OpenClaim.holds_of_wide 10 Try.f10 rfl rfl rfl rfl rfl rfl rfl ⟨rfl, rfl, rfl, rfl, rfl⟩ rfl rfl rfl rfl rfl (by kernel_rfl) Try.func10 facts_LifeApart
    (of_decide_eq_true (by kernel_rfl)) (by unfold Func.isWrapper; first | (rw [if_pos (by decide +kernel)]; kernel_rfl) | (rw [if_neg (by decide +kernel)]; exact ⟨rfl, rfl⟩))
    (fun os started H enc _ => lifted_LifeApart os started H enc)
/-- The statement. -/
theorem proved_LifeApart : Rows.LifeApartSaid := over_LifeApart
#print axioms proved_LifeApart
end Go.Proofs.Ythpaadmpgdglnaa
