/- How more kinds of arguments are opened: lists of cells, a cell, lists of numbers. No condition. -/
import Derived.Test.YthpaadmpgdglnaaRow1
namespace Go.Proofs.Ythpaadmpgdglnaa
open Go Go.RowKit Go.ChangeShapes Go.WideShapes Go.ChangeAt
set_option maxRecDepth 100000
def structB (P : Program) (t : TypeId) : Bool := match P.underlying t with
  | some (.struct _) => true
  | _ => false
theorem struct_of {P : Program} {t : TypeId} (h : structB P t = true) : ∃ fs, P.underlying t = some (.struct fs) := by
  unfold structB at h
  split at h
  · rename_i fs hu
    exact ⟨fs, hu⟩
  · cases h
theorem flat_55 : flatI Try.prog 4 55 = true := by kernel_rfl
theorem cells_55 : Try.prog.cellsOf 55 = 2 := by kernel_rfl
theorem struct_55 : structB Try.prog 55 = true := by kernel_rfl
theorem flat_3 : flatI Try.prog 4 3 = true := by kernel_rfl
theorem cells_3 : Try.prog.cellsOf 3 = 1 := by kernel_rfl
/-- A list of cells. -/
theorem arg_cells {w : World} {v : Value} (h : Arg Try.prog w 46 v) : ∃ l : List Cell, Sl w (fun b => b < w.heap.size) v 2 (l.map encC) := by
  obtain ⟨es, h1, h2⟩ := arg_slice (by decide) und_sl_46 cells_55 flat_55 h
  obtain ⟨l, rfl, _⟩ := decode (f := encC) (ok := fun _ : Cell => True)
    (q := fun x => x.length = 2 ∧ ∀ y ∈ x, IsI y) (fun x ⟨h1, h2⟩ => by
      obtain ⟨a, b, rfl⟩ := list2 h1
      obtain ⟨n, rfl, hn⟩ := h2 a (by simp)
      obtain ⟨m, rfl, hm⟩ := h2 b (by simp)
      exact ⟨(n, m), rfl, trivial⟩) es fun x hx => ⟨h1.1 x hx, h2 x hx⟩
  exact ⟨l, h1⟩
/-- A cell. -/
theorem arg_cell {w : World} {v : Value} (h : Arg Try.prog w 55 v) : ∃ c : Cell, v = .agg #[.int .i64 c.1, .int .i64 c.2] ∧ (-9223372036854775808 ≤ c.1 ∧ c.1 ≤ 9223372036854775807) ∧ (-9223372036854775808 ≤ c.2 ∧ c.2 ≤ 9223372036854775807) := by
  obtain ⟨fs, hs⟩ := struct_of struct_55
  obtain ⟨cs, rfl, h1, h2⟩ := arg_agg hs cells_55 flat_55 h
  obtain ⟨a, b, e⟩ := list2 (x := cs.toList) (by simpa using h1)
  rw [e] at h2
  obtain ⟨n, rfl, hn⟩ := h2 a (by simp)
  obtain ⟨m, rfl, hm⟩ := h2 b (by simp)
  refine ⟨(n, m), ?_, hn, hm⟩
  rw [show cs = (cs.toList).toArray from (Array.toArray_toList).symm, e]
end Go.Proofs.Ythpaadmpgdglnaa
