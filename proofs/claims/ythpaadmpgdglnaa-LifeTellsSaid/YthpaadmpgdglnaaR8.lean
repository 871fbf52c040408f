/- The law LifeTells of the program returns true at every input, and its arguments read afterwards as they read before. Its conditions: none. -/
import Derived.Test.YthpaadmpgdglnaaRow1
import Derived.Test.YthpaadmpgdglnaaL8
namespace Go.Proofs.Ythpaadmpgdglnaa
open Go Go.RowKit Go.ChangeShapes Go.WideShapes Go.ChangeAt
set_option maxRecDepth 100000
theorem walk_LifeTells (w : World) (args : List Value) (h : Args Try.prog w Try.f8.params.toList args) : Fn Try.prog 8 args w fun v w' => v = .bool true ∧ Ex w w' := by
  have h : Args Try.prog w [23, 46, 3, 3] args := h
  obtain ⟨v0, vs, rfl, a0, h⟩ := args_cons h
  obtain ⟨v1, vs, rfl, a1, h⟩ := args_cons h
  obtain ⟨v2, vs, rfl, a2, h⟩ := args_cons h
  obtain ⟨v3, vs, rfl, a3, h⟩ := args_cons h
  obtain rfl := args_nil h
  obtain ⟨l0, s0, r0⟩ := arg_raw a0
  obtain ⟨l1, s1⟩ := arg_cells a1
  obtain ⟨n2, rfl, b2⟩ := arg_int und_int_3 a2
  obtain ⟨n3, rfl, b3⟩ := arg_int und_int_3 a3
  exact law_LifeTells w v0 l0 s0 r0 v1 l1 s1 n2 n3 b2 b3
theorem lifted_LifeTells (os : Os) (started : os.Started) (H : Type) (enc : TypeId × Value → H) :
    ReturnsInHanded {} Try.checked os 8 .any (Rows.lifeTellsSpec.pre6 enc Try.prog Try.f8 Rows.lifeTellsRow.domain false) (Rows.lifeTellsSpec.post enc Try.prog Try.f8 false true false false) :=
  lifted_of Try.func8 (by kernel_rfl) own_ok laid_ok (by kernel_rfl) rfl rfl (fun H ds h => match ds, h with | [_, _, _, _], _ => ⟨rfl, rfl, rfl⟩) walk_LifeTells os started H enc
    (ChangeSpec.witness6 (enc := enc) (C := Try.checked) false ⟨#[], #[.slice none 0 0, .slice none 0 0, .int .i64 0, .int .i64 0], []⟩ 8 (by kernel_rfl) (by kernel_rfl) (by kernel_rfl) (by kernel_rfl))
theorem facts_LifeTells : joinedFacts Try.prog 8 Try.f8 Rows.lifeTellsSpec Rows.lifeTellsRow = true :=
  facts_of make_ok liftsFinal_ok.symm mayEnter_ok (by kernel_rfl) (by kernel_rfl) (by kernel_rfl) (by kernel_rfl) (by kernel_rfl) (by kernel_rfl)
theorem over_LifeTells : Rows.lifeTellsRow.holds Try.pinned (OpenSpec.ofChange Rows.lifeTellsSpec) :=
  OpenClaim.holds_of_wide 8 Try.f8 rfl rfl rfl rfl rfl rfl rfl ⟨rfl, rfl, rfl, rfl, rfl⟩ rfl rfl rfl rfl rfl (by kernel_rfl) Try.func8 facts_LifeTells
    (of_decide_eq_true (by kernel_rfl)) (by unfold Func.isWrapper; first | (rw [if_pos (by decide +kernel)]; kernel_rfl) | (rw [if_neg (by decide +kernel)]; exact ⟨rfl, rfl⟩))
    (fun os started H enc _ => lifted_LifeTells os started H enc)
/-- The statement. -/
theorem proved_LifeTells : Rows.LifeTellsSaid := over_LifeTells
#print axioms proved_LifeTells
end Go.Proofs.Ythpaadmpgdglnaa
