/- A generation, as the document has it, in plain words. No condition. -/
import Derived.Test.YthpaadmpgdglnaaN3
namespace Go.Proofs.Ythpaadmpgdglnaa
open Go Go.RowKit
def candAt (c : Cell) (k : Nat) : Cell := (c.1 + (k : Int) % 3 - 1, c.2 + (k : Int) / 3 - 1)
def candStep (l : List Cell) (i : Nat) (out : List Cell) (k : Nat) : List Cell := match l[i]? with
  | none => out
  | some c => if livesB (hasC l (candAt c k)) (aroundC l (candAt c k)) then out ++ [candAt c k] else out
def cand (l : List Cell) (out : List Cell) (i : Nat) : List Cell := (List.range 9).foldl (candStep l i) out
def candAll (l : List Cell) : List Cell := (List.range l.length).foldl (cand l) []
def nextC (l : List Cell) : List Cell × Int := if rightC l then ofC (candAll l) else ([], 1)
theorem range_fold_succ {α : Type} {f : α → Nat → α} {b : α} {i : Nat} : (List.range (i + 1)).foldl f b = f ((List.range i).foldl f b) i := by
  rw [List.range_succ, List.foldl_append]
  rfl
theorem candStep_yes {l : List Cell} {i k : Nat} {out : List Cell} {c : Cell} (h : l[i]? = some c) (hb : livesB (hasC l (candAt c k)) (aroundC l (candAt c k)) = true) : candStep l i out k = out ++ [candAt c k] := by
  unfold candStep; rw [h]; simp only []; rw [if_pos hb]
theorem candStep_no {l : List Cell} {i k : Nat} {out : List Cell} {c : Cell} (h : l[i]? = some c) (hb : livesB (hasC l (candAt c k)) (aroundC l (candAt c k)) = false) : candStep l i out k = out := by
  unfold candStep; rw [h]; simp only []; rw [if_neg (by rw [hb]; simp)]
theorem candStep_len (l : List Cell) (i : Nat) (out : List Cell) (k : Nat) : (candStep l i out k).length ≤ out.length + 1 := by
  unfold candStep
  split
  · omega
  · split
    · simp
    · omega
theorem candK_len (l : List Cell) (i k : Nat) (out : List Cell) : ((List.range k).foldl (candStep l i) out).length ≤ out.length + k := by
  induction k with
  | zero => simp
  | succ k ih =>
    rw [range_fold_succ]
    have := candStep_len l i ((List.range k).foldl (candStep l i) out) k
    omega
theorem candI_len (l : List Cell) (i : Nat) : ((List.range i).foldl (cand l) []).length ≤ 9 * i := by
  induction i with
  | zero => simp
  | succ i ih =>
    rw [range_fold_succ]
    have := candK_len l i 9 ((List.range i).foldl (cand l) [])
    unfold cand at *
    omega
theorem right_all {l : List Cell} (h : rightC l = true) : ∀ c ∈ l, (-1099511627776 ≤ c.1 ∧ c.1 ≤ 1099511627776) ∧ (-1099511627776 ≤ c.2 ∧ c.2 ≤ 1099511627776) := by
  intro c hc
  obtain ⟨i, hi⟩ := List.getElem?_of_mem hc
  obtain ⟨h1, h2, h3, h4⟩ := right_in h hi
  exact ⟨⟨h1, h2⟩, h3, h4⟩
end Go.Proofs.Ythpaadmpgdglnaa
namespace Go.Proofs.Ythpaadmpgdglnaa
open Go Go.RowKit
def runN (l : List Cell) : Nat → List Cell × Int
  | 0 => (l, 0)
  | k + 1 => if (runN l k).2 = 0 then nextC (runN l k).1 else ([], (runN l k).2)
def runC (l : List Cell) (n : Int) : List Cell × Int := if rightC l = true ∧ 0 ≤ n ∧ n ≤ 1000 then runN l n.toNat else ([], 1)
theorem runN_succ {l : List Cell} {i : Nat} (h : (runN l i).2 = 0) : runN l (i + 1) = nextC (runN l i).1 := by
  rw [runN, if_pos h]
theorem few_err (l : List Cell) (h : (fewC l).2 ≠ 0) : (fewC l).1 = [] := by
  unfold fewC at *
  split
  · rename_i h1; rw [if_pos h1] at h; simp at h
  · rfl
theorem of_err (l : List Cell) (h : (ofC l).2 ≠ 0) : (ofC l).1 = [] := by
  unfold ofC at *
  split
  · rename_i h1; rw [if_pos h1] at h; exact few_err _ h
  · rfl
theorem next_err (l : List Cell) (h : (nextC l).2 ≠ 0) : (nextC l).1 = [] := by
  unfold nextC at *
  split
  · rename_i h1; rw [if_pos h1] at h; exact of_err _ h
  · rfl
theorem runN_err {l : List Cell} {i : Nat} (h : (runN l i).2 = 0) (he : (nextC (runN l i).1).2 ≠ 0) : ∀ m, i < m → runN l m = ([], (nextC (runN l i).1).2) := by
  intro m hm
  induction m with
  | zero => omega
  | succ m ih =>
    by_cases e : m = i
    · subst e
      rw [runN_succ h]
      exact Prod.ext (next_err _ he) rfl
    · have := ih (by omega)
      rw [runN, this, if_neg he]
end Go.Proofs.Ythpaadmpgdglnaa
