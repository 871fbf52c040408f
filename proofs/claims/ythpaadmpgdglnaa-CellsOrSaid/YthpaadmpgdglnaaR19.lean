/- The law CellsOr of the program returns true at every input, and its arguments read afterwards as they read before. Its conditions: none. -/
import Derived.Test.YthpaadmpgdglnaaRow1
import Derived.Test.YthpaadmpgdglnaaL19
namespace Go.Proofs.Ythpaadmpgdglnaa
open Go Go.RowKit Go.ChangeShapes Go.WideShapes Go.ChangeAt
set_option maxRecDepth 100000
theorem walk_CellsOr (w : World) (args : List Value) (h : Args Try.prog w Try.f19.params.toList args) : Fn Try.prog 19 args w fun v w' => v = .bool true ∧ Ex w w' := by
  have h : Args Try.prog w [23, 3] args := h
  obtain ⟨v0, vs, rfl, a0, h⟩ := args_cons h
  obtain ⟨v1, vs, rfl, a1, h⟩ := args_cons h
  obtain rfl := args_nil h
  obtain ⟨l0, s0, r0⟩ := arg_raw a0
  obtain ⟨n1, rfl, b1⟩ := arg_int und_int_3 a1
  exact law_CellsOr w v0 l0 s0 r0 n1 b1
theorem lifted_CellsOr (os : Os) (started : os.Started) (H : Type) (enc : TypeId × Value → H) :
    ReturnsInHanded {} Try.checked os 19 .any (Rows.cellsOrSpec.pre6 enc Try.prog Try.f19 Rows.cellsOrRow.domain false) (Rows.cellsOrSpec.post enc Try.prog Try.f19 false true false false) :=
  lifted_of Try.func19 (by kernel_rfl) own_ok laid_ok (by kernel_rfl) rfl rfl (fun H ds h => match ds, h with | [_, _], _ => ⟨rfl, rfl, rfl⟩) walk_CellsOr os started H enc
    (ChangeSpec.witness6 (enc := enc) (C := Try.checked) false ⟨#[], #[.slice none 0 0, .int .i64 0], []⟩ 8 (by kernel_rfl) (by kernel_rfl) (by kernel_rfl) (by kernel_rfl))
theorem facts_CellsOr : joinedFacts Try.prog 19 Try.f19 Rows.cellsOrSpec Rows.cellsOrRow = true :=
  facts_of make_ok liftsFinal_ok.symm mayEnter_ok (by kernel_rfl) (by kernel_rfl) (by kernel_rfl) (by kernel_rfl) (by kernel_rfl) (by kernel_rfl)
theorem over_CellsOr : Rows.cellsOrRow.holds Try.pinned (OpenSpec.ofChange Rows.cellsOrSpec) :=
  OpenClaim.holds_of_wide 19 Try.f19 rfl rfl rfl rfl rfl rfl rfl ⟨rfl, rfl, rfl, rfl, rfl⟩ rfl rfl rfl rfl rfl (by kernel_rfl) Try.func19 facts_CellsOr
    (of_decide_eq_true (by kernel_rfl)) (by unfold Func.isWrapper; first | (rw [if_pos (by decide +kernel)]; kernel_rfl) | (rw [if_neg (by decide +kernel)]; exact ⟨rfl, rfl⟩))
    (fun os started H enc _ => lifted_CellsOr os started H enc)
/-- The statement. -/
theorem proved_CellsOr : Rows.CellsOrSaid := over_CellsOr
#print axioms proved_CellsOr
end Go.Proofs.Ythpaadmpgdglnaa
