/- The law CellsBox of the program returns true at every input, and its arguments read afterwards as they read before. Its conditions: none. -/
import Derived.Test.YthpaadmpgdglnaaRow1
import Derived.Test.YthpaadmpgdglnaaL18
namespace Go.Proofs.Ythpaadmpgdglnaa
open Go Go.RowKit Go.ChangeShapes Go.WideShapes Go.ChangeAt
set_option maxRecDepth 100000
theorem walk_CellsBox (w : World) (args : List Value) (h : Args Try.prog w Try.f18.params.toList args) : Fn Try.prog 18 args w fun v w' => v = .bool true ∧ Ex w w' := by
  have h : Args Try.prog w [23] args := h
  obtain ⟨v0, vs, rfl, a0, h⟩ := args_cons h
  obtain rfl := args_nil h
  obtain ⟨l0, s0, r0⟩ := arg_raw a0
  exact law_CellsBox w v0 l0 s0 r0
theorem lifted_CellsBox (os : Os) (started : os.Started) (H : Type) (enc : TypeId × Value → H) :
    ReturnsInHanded {} Try.checked os 18 .any (Rows.cellsBoxSpec.pre6 enc Try.prog Try.f18 Rows.cellsBoxRow.domain false) (Rows.cellsBoxSpec.post enc Try.prog Try.f18 false true false false) :=
  lifted_of Try.func18 (by kernel_rfl) own_ok laid_ok (by kernel_rfl) rfl rfl (fun H ds h => match ds, h with | [_], _ => ⟨rfl, rfl, rfl⟩) walk_CellsBox os started H enc
    (ChangeSpec.witness6 (enc := enc) (C := Try.checked) false ⟨#[], #[.slice none 0 0], []⟩ 8 (by kernel_rfl) (by kernel_rfl) (by kernel_rfl) (by kernel_rfl))
theorem facts_CellsBox : joinedFacts Try.prog 18 Try.f18 Rows.cellsBoxSpec Rows.cellsBoxRow = true :=
  facts_of make_ok liftsFinal_ok.symm mayEnter_ok (by kernel_rfl) (by kernel_rfl) (by kernel_rfl) (by kernel_rfl) (by kernel_rfl) (by kernel_rfl)
theorem over_CellsBox : Rows.cellsBoxRow.holds Try.pinned (OpenSpec.ofChange Rows.cellsBoxSpec) :=
  OpenClaim.holds_of_wide 18 Try.f18 rfl rfl rfl rfl rfl rfl rfl ⟨rfl, rfl, rfl, rfl, rfl⟩ rfl rfl rfl rfl rfl (by kernel_rfl) Try.func18 facts_CellsBox
    (of_decide_eq_true (by kernel_rfl)) (by unfold Func.isWrapper; first | (rw [if_pos (by decide +kernel)]; kernel_rfl) | (rw [if_neg (by decide +kernel)]; exact ⟨rfl, rfl⟩))
    (fun os started H enc _ => lifted_CellsBox os started H enc)
/-- The statement. -/
theorem proved_CellsBox : Rows.CellsBoxSaid := over_CellsBox
#print axioms proved_CellsBox
end Go.Proofs.Ythpaadmpgdglnaa
