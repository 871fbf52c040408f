/- Plain laws for sets of cells that are built, and taken apart, one by one. No program. -/
import Derived.Test.YthpaadmpgdglnaaD9
namespace Go.Proofs.Ythpaadmpgdglnaa
def delC (l : List Cell) (c : Cell) : List Cell := l.filter fun x => decide (x ≠ c)
theorem mem_delC {l : List Cell} {c x : Cell} : x ∈ delC l c ↔ x ∈ l ∧ x ≠ c := by simp [delC]
theorem has_iff {l : List Cell} {c : Cell} : hasC l c = true ↔ c ∈ l := by simp [hasC, List.any_eq_true]
theorem same_iff {l m : List Cell} : sameC l m = true ↔ l = m := by simp [sameC]
theorem with_put {l : List Cell} {c : Cell} (h : rightC l = true) (hc : inC c = true) (hn : l.length < 2000) : withC l c true = (putC l c, 0) := by
  have := putC_len l c
  simp only [withC, h, hc, if_true, fewC]
  rw [if_pos (by omega)]
theorem right_put {l : List Cell} {c : Cell} (h : rightC l = true) (hc : inC c = true) (hn : l.length < 2000) : rightC (putC l c) = true := by
  obtain ⟨h1, h2, h3⟩ := (rightC_iff l).1 h
  refine (rightC_iff _).2 ⟨fun x hx => ?_, up_putC h2 c, by have := putC_len l c; omega⟩
  rcases (mem_putC l c x).1 hx with rfl | hx
  · exact hc
  · exact h1 x hx
theorem right_del {l : List Cell} {c : Cell} (h : rightC l = true) : rightC (delC l c) = true := by
  obtain ⟨h1, h2, h3⟩ := (rightC_iff l).1 h
  exact (rightC_iff _).2 ⟨fun x hx => h1 x (mem_delC.1 hx).1, up_filter h2 _, Nat.le_trans (List.length_filter_le _ _) h3⟩
theorem with_del {l : List Cell} {c : Cell} (h : rightC l = true) (hc : inC c = true) : withC l c false = (delC l c, 0) := by
  have h1 := right_len h
  have h2 : (delC l c).length ≤ 2000 := Nat.le_trans (List.length_filter_le _ _) h1
  have e : delC l c = l.filter fun x => decide (x ≠ c) := rfl
  simp only [withC, h, hc, if_true, fewC, ← e, Bool.false_eq_true, if_false]
  rw [if_pos h2]
theorem right_in2 {l : List Cell} (h : rightC l = true) {c : Cell} (hc : c ∈ l) : inC c = true := ((rightC_iff l).1 h).1 c hc
theorem del_len {l : List Cell} {c : Cell} (h : rightC l = true) (hc : c ∈ l) : (delC l c).length = l.length - 1 := by
  have hu := ((rightC_iff l).1 h).2.1
  obtain ⟨hlt, _⟩ := List.getElem?_eq_some_iff.1 ((low_has hu c).1 hc)
  rw [delC, filter_low hu hc, List.length_append, List.length_take, List.length_drop]
  omega
theorem put_len {l : List Cell} {c : Cell} (h : rightC l = true) (hc : ¬ c ∈ l) : (putC l c).length = l.length + 1 := by
  have hu := ((rightC_iff l).1 h).2.1
  have := lowC_le l c
  rw [putC_low hu hc, List.length_append, List.length_take, List.length_cons, List.length_drop]
  omega
/-- Raw cells put one by one. -/
def rawPut (raw : List Cell) : List Cell := raw.foldl (fun l r => putC l (rawSet r)) []
theorem rawPut_mem {raw : List Cell} {x : Cell} (h : x ∈ rawPut raw) : inC x = true := by
  obtain h | ⟨r, _, rfl⟩ := (setF_mem rawSet raw [] x).1 h
  · cases h
  · have := rawSet_bd r
    exact inC_of (by omega)
theorem rawPut_right (raw : List Cell) (i : Nat) (hi : i ≤ 60) : rightC (rawPut (raw.take i)) = true := by
  refine (rightC_iff _).2 ⟨fun x hx => rawPut_mem hx, setF_up rawSet _ UpC.nil, ?_⟩
  have := setTake_len rawSet raw i
  unfold rawPut
  omega
theorem rawPut_len (raw : List Cell) (i : Nat) : (rawPut (raw.take i)).length ≤ i := setTake_len rawSet raw i
theorem rawPut_succ {raw : List Cell} {i : Nat} {r : Cell} (h : raw[i]? = some r) : rawPut (raw.take (i + 1)) = putC (rawPut (raw.take i)) (rawSet r) := take_succ_fold h
theorem rawSet_in (r : Cell) : inC (rawSet r) = true := by have := rawSet_bd r; exact inC_of (by omega)
/-- One raw cell more. -/
theorem raw_with {raw : List Cell} {i : Nat} {r : Cell} (h : raw[i]? = some r) (hi : i ≤ 60) : withC (rawPut (raw.take i)) (rawSet r) true = (rawPut (raw.take (i + 1)), 0) := by
  have := rawPut_len raw i
  rw [rawPut_succ h, with_put (rawPut_right raw i hi) (rawSet_in r) (by omega)]
end Go.Proofs.Ythpaadmpgdglnaa
