/- The law LifeStill of the program returns true at every input, and its arguments read afterwards as they read before. Its conditions: none. -/
import Derived.Test.YthpaadmpgdglnaaRow1
import Derived.Test.YthpaadmpgdglnaaL13
namespace Go.Proofs.Ythpaadmpgdglnaa
open Go Go.RowKit Go.ChangeShapes Go.WideShapes Go.ChangeAt
set_option maxRecDepth 100000
theorem walk_LifeStill (w : World) (args : List Value) (h : Args Try.prog w Try.f13.params.toList args) : Fn Try.prog 13 args w fun v w' => v = .bool true ∧ Ex w w' := by
  have h : Args Try.prog w [3, 3, 23, 3] args := h
  obtain ⟨v0, vs, rfl, a0, h⟩ := args_cons h
  obtain ⟨v1, vs, rfl, a1, h⟩ := args_cons h
  obtain ⟨v2, vs, rfl, a2, h⟩ := args_cons h
  obtain ⟨v3, vs, rfl, a3, h⟩ := args_cons h
  obtain rfl := args_nil h
  obtain ⟨n0, rfl, b0⟩ := arg_int und_int_3 a0
  obtain ⟨n1, rfl, b1⟩ := arg_int und_int_3 a1
  obtain ⟨l2, s2, r2⟩ := arg_raw a2
  obtain ⟨n3, rfl, b3⟩ := arg_int und_int_3 a3
  exact law_LifeStill w n0 n1 v2 l2 s2 r2 n3 b0 b1 b3
theorem lifted_LifeStill (os : Os) (started : os.Started) (H : Type) (enc : TypeId × Value → H) :
    ReturnsInHanded {} Try.checked os 13 .any (Rows.lifeStillSpec.pre6 enc Try.prog Try.f13 Rows.lifeStillRow.domain false) (Rows.lifeStillSpec.post enc Try.prog Try.f13 false true false false) :=
  lifted_of Try.func13 (by kernel_rfl) own_ok laid_ok (by kernel_rfl) rfl rfl (fun H ds h => match ds, h with | [_, _, _, _], _ => ⟨rfl, rfl, rfl⟩) walk_LifeStill os started H enc
    (ChangeSpec.witness6 (enc := enc) (C := Try.checked) false ⟨#[], #[.int .i64 0, .int .i64 0, .slice none 0 0, .int .i64 0], []⟩ 8 (by kernel_rfl) (by kernel_rfl) (by kernel_rfl) (by kernel_rfl))
theorem facts_LifeStill : joinedFacts Try.prog 13 Try.f13 Rows.lifeStillSpec Rows.lifeStillRow = true :=
  facts_of make_ok liftsFinal_ok.symm mayEnter_ok (by kernel_rfl) (by kernel_rfl) (by kernel_rfl) (by kernel_rfl) (by kernel_rfl) (by kernel_rfl)
theorem over_LifeStill : Rows.lifeStillRow.holds Try.pinned (OpenSpec.ofChange Rows.lifeStillSpec) :=
  OpenClaim.holds_of_wide 13 Try.f13 rfl rfl rfl rfl rfl rfl rfl ⟨rfl, rfl, rfl, rfl, rfl⟩ rfl rfl rfl rfl rfl (by kernel_rfl) Try.func13 facts_LifeStill
    (of_decide_eq_true (by kernel_rfl)) (by unfold Func.isWrapper; first | (rw [if_pos (by decide +kernel)]; kernel_rfl) | (rw [if_neg (by decide +kernel)]; exact ⟨rfl, rfl⟩))
    (fun os started H enc _ => lifted_LifeStill os started H enc)
/-- The statement. -/
theorem proved_LifeStill : Rows.LifeStillSaid := over_LifeStill
#print axioms proved_LifeStill
end Go.Proofs.Ythpaadmpgdglnaa
