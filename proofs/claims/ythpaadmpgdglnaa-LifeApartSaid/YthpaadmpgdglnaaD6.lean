/- Sorted, and each once, in place, in plain words. No condition. -/
import Derived.Test.YthpaadmpgdglnaaD5
namespace Go.Proofs.Ythpaadmpgdglnaa
open Go Go.RowKit
theorem compFrom_snoc (p : Cell) (t : List Cell) (b a : Cell) (h : (p :: t).getLast? = some b) : compFrom p (t ++ [a]) = if a = b then compFrom p t else compFrom p t ++ [a] := by
  induction t generalizing p with
  | nil =>
    obtain rfl : p = b := by simpa using h
    by_cases e : a = p <;> simp [compFrom, e]
  | cons x t ih =>
    have hx : (x :: t).getLast? = some b := by simpa [List.getLast?_cons_cons] using h
    simp only [List.cons_append, compFrom]
    split
    · rename_i e; subst e; exact ih x hx
    · rw [ih x hx]
      by_cases e : a = b <;> simp [e]
theorem compC_snoc (t : List Cell) (b a : Cell) (h : t.getLast? = some b) : compC (t ++ [a]) = if a = b then compC t else compC t ++ [a] := by
  cases t with
  | nil => simp at h
  | cons x t =>
    simp only [List.cons_append, compC, compFrom_snoc x t b a h]
    by_cases e : a = b <;> simp [e]
theorem compC_take {l : List Cell} {j : Nat} {a b : Cell} (h1 : 1 ≤ j) (ha : l[j]? = some a) (hb : l[j - 1]? = some b) : compC (l.take (j + 1)) = if a = b then compC (l.take j) else compC (l.take j) ++ [a] := by
  have hj := (List.getElem?_eq_some_iff.1 ha).1
  have e : l.take (j + 1) = l.take j ++ [a] := by rw [List.take_add_one, ha]; rfl
  have hl : (l.take j).getLast? = some b := by rw [List.getLast?_take, if_neg (by omega), hb]; rfl
  rw [e, compC_snoc _ b a hl]
theorem compC_len (l : List Cell) : (compC l).length ≤ l.length := by
  have h : ∀ p t, (compFrom p t).length ≤ t.length := by
    intro p t
    induction t generalizing p with
    | nil => simp [compFrom]
    | cons x t ih =>
      unfold compFrom
      split
      · have := ih p; simp only [List.length_cons]; omega
      · have := ih x; simp only [List.length_cons]; omega
  cases l with
  | nil => simp [compC]
  | cons x t => have := h x t; simp only [compC, List.length_cons]; omega
theorem compC_small {l : List Cell} (h : l.length < 2) : compC l = l := by
  match l, h with
  | [], _ => rfl
  | [x], _ => rfl
theorem comp_first {l : List Cell} {i : Nat} {a b : Cell} (h1 : 1 ≤ i) (hi : compC (l.take i) = l.take i) (ha : l[i]? = some a) (hb : l[i - 1]? = some b) (hne : ¬ a = b) : compC (l.take (i + 1)) = l.take (i + 1) := by
  rw [compC_take h1 ha hb, if_neg hne, hi, List.take_add_one, ha]; rfl
theorem comp_begin {l : List Cell} {i : Nat} {a b : Cell} (h1 : 1 ≤ i) (hi : compC (l.take i) = l.take i) (ha : l[i]? = some a) (hb : l[i - 1]? = some b) (he : a = b) : l.take i = compC (l.take (i + 1)) := by
  rw [compC_take h1 ha hb, if_pos he, hi]
theorem comp_at {l m : List Cell} {i q j : Nat} {c : Cell} (hd : m.drop j = l.drop j) (hj : j ≤ i + q) (hc : (m.drop i)[q]? = some c) : l[i + q]? = some c := by
  have e : (m.drop j)[i + q - j]? = (l.drop j)[i + q - j]? := by rw [hd]
  rw [List.getElem?_drop, List.getElem?_drop, show j + (i + q - j) = i + q by omega] at e
  rw [← e, ← hc, List.getElem?_drop]
theorem comp_ne {l m : List Cell} {i q k : Nat} {a b : Cell} (hl : m.length = l.length) (hq : 1 ≤ q) (hk : k + 1 ≤ i + q) (ht : m.take k = compC (l.take (i + q))) (hd : m.drop (i + q - 1) = l.drop (i + q - 1)) (ha : (m.drop i)[q]? = some a) (hb : (m.drop i)[q - 1]? = some b) (hne : a ≠ b) :
    (m.set k a).take (k + 1) = compC (l.take (i + (q + 1))) ∧ (m.set k a).drop (i + (q + 1) - 1) = l.drop (i + (q + 1) - 1) := by
  have ha' := comp_at hd (by omega) ha
  have hb' : l[i + q - 1]? = some b := by rw [show i + q - 1 = i + (q - 1) by omega]; exact comp_at hd (by omega) hb
  have hlt := (List.getElem?_eq_some_iff.1 ha').1
  constructor
  · rw [show i + (q + 1) = i + q + 1 by omega, compC_take (by omega) ha' hb', if_neg hne, ← ht, List.take_add_one, List.take_set_of_le (Nat.le_refl k)]
    rw [List.getElem?_set_self (by omega)]; rfl
  · rw [List.drop_set_of_lt (by omega)]
    have := congrArg (List.drop 1) hd
    rw [List.drop_drop, List.drop_drop] at this
    rw [show i + (q + 1) - 1 = i + q - 1 + 1 by omega]
    exact this
theorem comp_eq {l m : List Cell} {i q k : Nat} {a b : Cell} (hq : 1 ≤ q) (hi : 1 ≤ i) (ht : m.take k = compC (l.take (i + q))) (hd : m.drop (i + q - 1) = l.drop (i + q - 1)) (ha : (m.drop i)[q]? = some a) (hb : (m.drop i)[q - 1]? = some b) (he : a = b) :
    m.take k = compC (l.take (i + (q + 1))) ∧ m.drop (i + (q + 1) - 1) = l.drop (i + (q + 1) - 1) := by
  have ha' := comp_at hd (by omega) ha
  have hb' : l[i + q - 1]? = some b := by rw [show i + q - 1 = i + (q - 1) by omega]; exact comp_at hd (by omega) hb
  constructor
  · rw [show i + (q + 1) = i + q + 1 by omega, compC_take (by omega) ha' hb', if_pos he, ht]
  · have := congrArg (List.drop 1) hd
    rw [List.drop_drop, List.drop_drop] at this
    rw [show i + (q + 1) - 1 = i + q - 1 + 1 by omega]
    exact this
theorem bin_lo {l : List Cell} {c y : Cell} {m : Nat} (hu : UpC l) (hm : l[m]? = some y) (h : ordC y c < 0) : ∀ k x, l[k]? = some x → k < m + 1 → ltC x c = true := by
  intro k x hk hlt
  have hy : ltC y c = true := by rw [ltC_ord]; simpa using h
  exact (low_lt hu hk).2 (Nat.lt_of_le_of_lt (Nat.le_of_lt_succ hlt) ((low_lt hu hm).1 hy))
theorem bin_hi {l : List Cell} {c y : Cell} {m : Nat} (hu : UpC l) (hm : l[m]? = some y) (h : ¬ ordC y c < 0) : ∀ k x, l[k]? = some x → m ≤ k → ltC x c = false := by
  intro k x hk hle
  rw [← Bool.not_eq_true]
  intro hh
  have h1 := (low_lt hu hk).1 hh
  have h2 := (low_lt (c := c) hu hm).2 (by omega)
  rw [ltC_ord] at h2
  simp at h2
  exact h h2
theorem bin_has {l : List Cell} {c y : Cell} {i : Nat} (hu : UpC l) (hi : lowC l c = i) (hy : l[i]? = some y) : hasC l c = decide (ordC y c = 0) := by
  rw [Bool.eq_iff_iff, hasC_iff, decide_eq_true_eq, ordC_zero, low_has hu, hi, hy]
  simp
theorem bin_none {l : List Cell} {c : Cell} {i : Nat} (hu : UpC l) (hi : lowC l c = i) (hy : l.length ≤ i) : hasC l c = false := by
  rw [← Bool.not_eq_true, hasC_iff, low_has hu, hi, List.getElem?_eq_none hy]
  simp
end Go.Proofs.Ythpaadmpgdglnaa
