/- The law LifeMoves of the program returns true at every input, and its arguments read afterwards as they read before. Its conditions: none. -/
import Derived.Test.YthpaadmpgdglnaaRow1
import Derived.Test.YthpaadmpgdglnaaL9
namespace Go.Proofs.Ythpaadmpgdglnaa
open Go Go.RowKit Go.ChangeShapes Go.WideShapes Go.ChangeAt
set_option maxRecDepth 100000
theorem walk_LifeMoves (w : World) (args : List Value) (h : Args Try.prog w Try.f9.params.toList args) : Fn Try.prog 9 args w fun v w' => v = .bool true ∧ Ex w w' := by
  have h : Args Try.prog w [23, 3, 3, 3, 3] args := h
  obtain ⟨v0, vs, rfl, a0, h⟩ := args_cons h
  obtain ⟨v1, vs, rfl, a1, h⟩ := args_cons h
  obtain ⟨v2, vs, rfl, a2, h⟩ := args_cons h
  obtain ⟨v3, vs, rfl, a3, h⟩ := args_cons h
  obtain ⟨v4, vs, rfl, a4, h⟩ := args_cons h
  obtain rfl := args_nil h
  obtain ⟨l0, s0, r0⟩ := arg_raw a0
  obtain ⟨n1, rfl, b1⟩ := arg_int und_int_3 a1
  obtain ⟨n2, rfl, b2⟩ := arg_int und_int_3 a2
  obtain ⟨n3, rfl, b3⟩ := arg_int und_int_3 a3
  obtain ⟨n4, rfl, b4⟩ := arg_int und_int_3 a4
  exact law_LifeMoves w v0 l0 s0 r0 n1 n2 n3 n4 b1 b2 b3 b4
theorem lifted_LifeMoves (os : Os) (started : os.Started) (H : Type) (enc : TypeId × Value → H) :
    ReturnsInHanded {} Try.checked os 9 .any (Rows.lifeMovesSpec.pre6 enc Try.prog Try.f9 Rows.lifeMovesRow.domain false) (Rows.lifeMovesSpec.post enc Try.prog Try.f9 false true false false) :=
  lifted_of Try.func9 (by kernel_rfl) own_ok laid_ok (by kernel_rfl) rfl rfl (fun H ds h => match ds, h with | [_, _, _, _, _], _ => ⟨rfl, rfl, rfl⟩) walk_LifeMoves os started H enc
    (ChangeSpec.witness6 (enc := enc) (C := Try.checked) false ⟨#[], #[.slice none 0 0, .int .i64 0, .int .i64 0, .int .i64 0, .int .i64 0], []⟩ 8 (by kernel_rfl) (by kernel_rfl) (by kernel_rfl) (by kernel_rfl))
theorem facts_LifeMoves : joinedFacts Try.prog 9 Try.f9 Rows.lifeMovesSpec Rows.lifeMovesRow = true :=
  facts_of make_ok liftsFinal_ok.symm mayEnter_ok (by kernel_rfl) (by kernel_rfl) (by kernel_rfl) (by kernel_rfl) (by kernel_rfl) (by kernel_rfl)
theorem over_LifeMoves : Rows.lifeMovesRow.holds Try.pinned (OpenSpec.ofChange Rows.lifeMovesSpec) :=
  OpenClaim.holds_of_wide 9 Try.f9 rfl rfl rfl rfl rfl rfl rfl ⟨rfl, rfl, rfl, rfl, rfl⟩ rfl rfl rfl rfl rfl (by kernel_rfl) Try.func9 facts_LifeMoves
    (of_decide_eq_true (by kernel_rfl)) (by unfold Func.isWrapper; first | (rw [if_pos (by decide +kernel)]; kernel_rfl) | (rw [if_neg (by decide +kernel)]; exact ⟨rfl, rfl⟩))
    (fun os started H enc _ => lifted_LifeMoves os started H enc)
/-- The statement. -/
theorem proved_LifeMoves : Rows.LifeMovesSaid := over_LifeMoves
#print axioms proved_LifeMoves
end Go.Proofs.Ythpaadmpgdglnaa
