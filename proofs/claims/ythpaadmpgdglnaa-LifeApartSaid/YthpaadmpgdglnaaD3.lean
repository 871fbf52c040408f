/- What the program says of sets, in plain words. No condition. -/
import Derived.Test.YthpaadmpgdglnaaD2
namespace Go.Proofs.Ythpaadmpgdglnaa
open Go Go.RowKit
def cmpI (p q : Int) : Int := if p < q then -1 else if q < p then 1 else 0
def orI (l : List Int) : Int := (l.find? fun x => decide (x ≠ 0)).getD 0
def ordC (a b : Cell) : Int := orI [cmpI a.2 b.2, cmpI a.1 b.1]
theorem ordC_lt (a b : Cell) : decide (0 ≤ ordC a b) = !ltC a b := by
  rw [Bool.eq_iff_iff]
  unfold ordC orI cmpI ltC
  by_cases h1 : a.2 < b.2
  · simp [h1]
  · by_cases h2 : b.2 < a.2
    · have : ¬ a.2 = b.2 := by omega
      simp [h1, h2, this]
    · have e : a.2 = b.2 := by omega
      by_cases h3 : a.1 < b.1
      · simp [e, h3]
      · by_cases h4 : b.1 < a.1 <;> simp [e, h3, h4]
theorem ltC_ord (a b : Cell) : ltC a b = decide (ordC a b < 0) := by
  have := ordC_lt a b
  cases h : ltC a b
  · rw [h] at this
    have : 0 ≤ ordC a b := by simpa using this
    simp; omega
  · rw [h] at this
    have : ¬ 0 ≤ ordC a b := by simpa using this
    simp; omega
theorem find_succ {l : List Int} {i : Nat} {x : Int} (h : l[i]? = some x) (hx : x = 0) (hz : (l.take i).find? (fun x => decide (x ≠ 0)) = none) : (l.take (i + 1)).find? (fun x => decide (x ≠ 0)) = none := by
  rw [List.take_add_one, List.find?_append, hz, h]
  simp [hx]
theorem find_hit {l : List Int} {i : Nat} {x : Int} (h : l[i]? = some x) (hx : x ≠ 0) (hz : (l.take i).find? (fun x => decide (x ≠ 0)) = none) : orI l = x := by
  have hl : l = l.take i ++ x :: l.drop (i + 1) := by
    have hi := (List.getElem?_eq_some_iff.1 h)
    obtain ⟨hlt, rfl⟩ := hi
    rw [List.getElem_cons_drop, List.take_append_drop]
  unfold orI
  rw [hl, List.find?_append, hz]
  simp [hx]
end Go.Proofs.Ythpaadmpgdglnaa
