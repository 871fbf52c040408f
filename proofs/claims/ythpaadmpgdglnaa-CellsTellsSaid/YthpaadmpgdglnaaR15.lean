/- The law CellsTells of the program returns true at every input, and its arguments read afterwards as they read before. Its conditions: none. -/
import Derived.Test.YthpaadmpgdglnaaRow2
import Derived.Test.YthpaadmpgdglnaaL15
namespace Go.Proofs.Ythpaadmpgdglnaa
open Go Go.RowKit Go.ChangeShapes Go.WideShapes Go.ChangeAt
set_option maxRecDepth 100000
theorem walk_CellsTells (w : World) (args : List Value) (h : Args Try.prog w Try.f15.params.toList args) : Fn Try.prog 15 args w fun v w' => v = .bool true ∧ Ex w w' := by
  have h : Args Try.prog w [23, 46, 55, 3, 3] args := h
  obtain ⟨v0, vs, rfl, a0, h⟩ := args_cons h
  obtain ⟨v1, vs, rfl, a1, h⟩ := args_cons h
  obtain ⟨v2, vs, rfl, a2, h⟩ := args_cons h
  obtain ⟨v3, vs, rfl, a3, h⟩ := args_cons h
  obtain ⟨v4, vs, rfl, a4, h⟩ := args_cons h
  obtain rfl := args_nil h
  obtain ⟨l0, s0, r0⟩ := arg_raw a0
  obtain ⟨l1, s1⟩ := arg_cells a1
  obtain ⟨c2, rfl, b2⟩ := arg_cell a2
  obtain ⟨n3, rfl, b3⟩ := arg_int und_int_3 a3
  obtain ⟨n4, rfl, b4⟩ := arg_int und_int_3 a4
  exact law_CellsTells w v0 l0 s0 r0 v1 l1 s1 c2 n3 n4 b2.1 b2.2 b3 b4
theorem lifted_CellsTells (os : Os) (started : os.Started) (H : Type) (enc : TypeId × Value → H) :
    ReturnsInHanded {} Try.checked os 15 .any (Rows.cellsTellsSpec.pre6 enc Try.prog Try.f15 Rows.cellsTellsRow.domain false) (Rows.cellsTellsSpec.post enc Try.prog Try.f15 false true false false) :=
  lifted_of Try.func15 (by kernel_rfl) own_ok laid_ok (by kernel_rfl) rfl rfl (fun H ds h => match ds, h with | [_, _, _, _, _], _ => ⟨rfl, rfl, rfl⟩) walk_CellsTells os started H enc
    (ChangeSpec.witness6 (enc := enc) (C := Try.checked) false ⟨#[], #[.slice none 0 0, .slice none 0 0, .agg #[.int .i64 0, .int .i64 0], .int .i64 0, .int .i64 0], []⟩ 8 (by kernel_rfl) (by kernel_rfl) (by kernel_rfl) (by kernel_rfl))
theorem facts_CellsTells : joinedFacts Try.prog 15 Try.f15 Rows.cellsTellsSpec Rows.cellsTellsRow = true :=
  facts_of make_ok liftsFinal_ok.symm mayEnter_ok (by kernel_rfl) (by kernel_rfl) (by kernel_rfl) (by kernel_rfl) (by kernel_rfl) (by kernel_rfl)
theorem over_CellsTells : Rows.cellsTellsRow.holds Try.pinned (OpenSpec.ofChange Rows.cellsTellsSpec) :=
  OpenClaim.holds_of_wide 15 Try.f15 rfl rfl rfl rfl rfl rfl rfl ⟨rfl, rfl, rfl, rfl, rfl⟩ rfl rfl rfl rfl rfl (by kernel_rfl) Try.func15 facts_CellsTells
    (of_decide_eq_true (by kernel_rfl)) (by unfold Func.isWrapper; first | (rw [if_pos (by decide +kernel)]; kernel_rfl) | (rw [if_neg (by decide +kernel)]; exact ⟨rfl, rfl⟩))
    (fun os started H enc _ => lifted_CellsTells os started H enc)
/-- The statement. -/
theorem proved_CellsTells : Rows.CellsTellsSaid := over_CellsTells
#print axioms proved_CellsTells
end Go.Proofs.Ythpaadmpgdglnaa
