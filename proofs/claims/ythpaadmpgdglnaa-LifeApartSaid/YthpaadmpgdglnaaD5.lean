/- Where a cell stands in a set, a set with a cell and without it, the box of a set, in plain words. No condition. -/
import Derived.Test.YthpaadmpgdglnaaD4
namespace Go.Proofs.Ythpaadmpgdglnaa
open Go Go.RowKit
/-- How many cells of a list are less than a cell. -/
def lowC (l : List Cell) (c : Cell) : Nat := (l.filter fun x => ltC x c).length
theorem lowC_le (l : List Cell) (c : Cell) : lowC l c ≤ l.length := List.length_filter_le _ _
theorem lowC_eq {l : List Cell} {c : Cell} {i : Nat} (hi : i ≤ l.length) (h1 : ∀ k x, l[k]? = some x → k < i → ltC x c = true) (h2 : ∀ k x, l[k]? = some x → i ≤ k → ltC x c = false) : lowC l c = i := by
  have e1 : (l.take i).filter (fun x => ltC x c) = l.take i := List.filter_eq_self.2 fun x hx => by
    obtain ⟨k, hk⟩ := List.getElem?_of_mem hx
    rw [List.getElem?_take] at hk
    split at hk
    · exact h1 k x hk (by assumption)
    · cases hk
  have e2 : (l.drop i).filter (fun x => ltC x c) = [] := List.filter_eq_nil_iff.2 fun x hx => by
    obtain ⟨k, hk⟩ := List.getElem?_of_mem hx
    rw [List.getElem?_drop] at hk
    rw [h2 (i + k) x hk (by omega)]
    simp
  unfold lowC
  rw [← List.take_append_drop i l, List.filter_append, e1, e2, List.append_nil, List.length_take]
  omega
theorem low_lt {l : List Cell} (h : UpC l) {c x : Cell} {k : Nat} (hk : l[k]? = some x) : ltC x c = true ↔ k < lowC l c := by
  -- the cells that are less are a beginning
  have key : ∀ (l : List Cell), UpC l → ∀ k x, l[k]? = some x → (ltC x c = true ↔ k < lowC l c) := by
    intro l
    induction l with
    | nil => intro _ k x hk; simp at hk
    | cons y t ih =>
      intro hu k x hk
      obtain ⟨h1, h2⟩ := UpC.cons.1 hu
      by_cases hy : ltC y c = true
      · have e : lowC (y :: t) c = lowC t c + 1 := by unfold lowC; rw [List.filter_cons_of_pos (by simpa using hy)]; rfl
        rw [e]
        cases k with
        | zero => simp at hk; subst hk; simp [hy]
        | succ k => rw [ih h2 k x (by simpa using hk)]; omega
      · have e : lowC (y :: t) c = 0 := by
          unfold lowC
          rw [List.filter_cons_of_neg (by simpa using hy), List.length_eq_zero_iff]
          exact List.filter_eq_nil_iff.2 fun z hz hc => hy (ltC_trans (h1 z hz) (by simpa using hc))
        rw [e]
        cases k with
        | zero => simp at hk; subst hk; simp [hy]
        | succ k =>
          have hm : x ∈ t := List.mem_of_getElem? (by simpa using hk : t[k]? = some x)
          constructor
          · intro hc; exact absurd (ltC_trans (h1 x hm) hc) hy
          · omega
  exact key l h k x hk
theorem low_has {l : List Cell} (h : UpC l) (c : Cell) : c ∈ l ↔ l[lowC l c]? = some c := by
  constructor
  · intro hc
    obtain ⟨k, hk⟩ := List.getElem?_of_mem hc
    have h1 : ¬ k < lowC l c := fun hh => ltC_irr c ((low_lt h hk).2 hh)
    rcases Nat.lt_or_ge (lowC l c) k with h2 | h2
    · have hlt : lowC l c < l.length := Nat.lt_trans h2 (List.getElem?_eq_some_iff.1 hk).1
      have hx : l[lowC l c]? = some l[lowC l c] := List.getElem?_eq_getElem hlt
      have := (low_lt h hx).1 (up_get h hx hk h2)
      omega
    · have : k = lowC l c := by omega
      rw [← this]; exact hk
  · exact List.mem_of_getElem?
theorem up_split {l : List Cell} {i : Nat} {c : Cell} (h : UpC l) (h1 : ∀ k x, l[k]? = some x → k < i → ltC x c = true) (h2 : ∀ k x, l[k]? = some x → i ≤ k → ltC c x = true) : UpC (l.take i ++ c :: l.drop i) := by
  refine List.pairwise_append.2 ⟨h.sublist (List.take_sublist i l), UpC.cons.2 ⟨?_, h.sublist (List.drop_sublist i l)⟩, ?_⟩
  · intro b hb
    obtain ⟨k, hk⟩ := List.getElem?_of_mem hb
    rw [List.getElem?_drop] at hk
    exact h2 (i + k) b hk (by omega)
  · intro a ha b hb
    obtain ⟨k, hk⟩ := List.getElem?_of_mem ha
    rw [List.getElem?_take] at hk
    split at hk
    · rename_i hki
      have hac := h1 k a hk hki
      rcases List.mem_cons.1 hb with rfl | hb
      · exact hac
      · obtain ⟨j, hj⟩ := List.getElem?_of_mem hb
        rw [List.getElem?_drop] at hj
        exact ltC_trans hac (h2 (i + j) b hj (by omega))
    · cases hk
theorem putC_low {l : List Cell} (h : UpC l) {c : Cell} (hc : ¬ c ∈ l) : putC l c = l.take (lowC l c) ++ c :: l.drop (lowC l c) := by
  refine up_ext (up_putC h c) (up_split h (fun k x hk hlt => (low_lt h hk).2 hlt) fun k x hk hle => ?_) fun x => ?_
  · rcases ltC_tri x c with h' | h' | h'
    · have := (low_lt h hk).1 h'; omega
    · exact absurd (h' ▸ List.mem_of_getElem? hk) hc
    · exact h'
  · rw [mem_putC, List.mem_append, List.mem_cons]
    have : x ∈ l ↔ x ∈ l.take (lowC l c) ∨ x ∈ l.drop (lowC l c) := by rw [← List.mem_append, List.take_append_drop]
    rw [this]
    constructor
    · rintro (h | h | h) <;> simp [h]
    · rintro (h | h | h) <;> simp [h]
theorem filter_low {l : List Cell} (h : UpC l) {c : Cell} (hc : c ∈ l) : l.filter (fun x => decide (x ≠ c)) = l.take (lowC l c) ++ l.drop (lowC l c + 1) := by
  have hx := (low_has h c).1 hc
  obtain ⟨hlt, hx'⟩ := List.getElem?_eq_some_iff.1 hx
  have e : l = l.take (lowC l c) ++ c :: l.drop (lowC l c + 1) := by
    have h1 : l.drop (lowC l c) = l[lowC l c] :: l.drop (lowC l c + 1) := (List.getElem_cons_drop hlt).symm
    rw [hx'] at h1
    rw [← h1, List.take_append_drop]
  generalize lowC l c = i at *
  have hu : UpC (l.take i ++ c :: l.drop (i + 1)) := by rw [← e]; exact h
  obtain ⟨_, h2, h3⟩ := List.pairwise_append.1 hu
  have e1 : (l.take i).filter (fun x => decide (x ≠ c)) = l.take i := List.filter_eq_self.2 fun x hx => by
    have := h3 x hx c (by simp)
    rw [decide_eq_true_eq]; rintro rfl; exact ltC_irr _ this
  have e2 : (l.drop (i + 1)).filter (fun x => decide (x ≠ c)) = l.drop (i + 1) := List.filter_eq_self.2 fun x hx => by
    have := (UpC.cons.1 h2).1 x hx
    rw [decide_eq_true_eq]; rintro rfl; exact ltC_irr _ this
  calc l.filter (fun x => decide (x ≠ c)) = (l.take i ++ c :: l.drop (i + 1)).filter (fun x => decide (x ≠ c)) := by rw [← e]
    _ = l.take i ++ l.drop (i + 1) := by rw [List.filter_append, e1, List.filter_cons_of_neg (by simp), e2]
theorem filter_not {l : List Cell} {c : Cell} (hc : ¬ c ∈ l) : l.filter (fun x => decide (x ≠ c)) = l :=
  List.filter_eq_self.2 fun x hx => by rw [decide_eq_true_eq]; rintro rfl; exact hc hx
theorem ordC_zero (a b : Cell) : ordC a b = 0 ↔ a = b := by
  have h1 := ltC_ord a b
  have h2 := ltC_ord b a
  have h3 : ordC b a = - ordC a b := by
    unfold ordC orI cmpI
    by_cases p : a.2 < b.2
    · have q : ¬ b.2 < a.2 := by omega
      simp [p, q]
    · by_cases q : b.2 < a.2
      · simp [p, q]
      · by_cases r : a.1 < b.1
        · have s : ¬ b.1 < a.1 := by omega
          simp [p, q, r, s]
        · by_cases s : b.1 < a.1 <;> simp [p, q, r, s]
  constructor
  · intro h
    rw [h] at h3 h1
    rw [h3] at h2
    rcases ltC_tri a b with h' | h' | h'
    · rw [h1] at h'; simp at h'
    · exact h'
    · rw [h2] at h'; simp at h'
  · rintro rfl
    omega

/-! ### boxes -/
def spanX (s : Int × Int) (c : Cell) : Int × Int := (min s.1 c.1, max s.2 c.1)
theorem fold_lo (l : List Cell) (a b : Cell) (r : Int) (h : a.1 = b.1) : (l.foldl loC a).1 = (l.foldl spanX (b.1, r)).1 := by
  induction l generalizing a b r with
  | nil => exact h
  | cons x l ih => exact ih (loC a x) (min b.1 x.1, 0) _ (by simp [loC, h])
theorem fold_hi (l : List Cell) (a : Cell) (q : Int) : (l.foldl hiC a).1 = (l.foldl spanX (q, a.1)).2 := by
  induction l generalizing a q with
  | nil => rfl
  | cons x l ih => exact ih (hiC a x) (min q x.1)
theorem fold_top (l : List Cell) (a : Cell) (h : ∀ x ∈ l, a.2 ≤ x.2) : (l.foldl loC a).2 = a.2 := by
  induction l generalizing a with
  | nil => rfl
  | cons x l ih =>
    have hx := h x (by simp)
    rw [List.foldl_cons, ih (loC a x) fun y hy => by have := h y (by simp [hy]); simp only [loC]; omega]
    simp only [loC]; omega
theorem fold_bot (l : List Cell) (a b : Cell) (h : ∀ x ∈ l, x.2 ≤ b.2) (ha : a.2 ≤ b.2) (hb : b ∈ l ∨ a.2 = b.2) : (l.foldl hiC a).2 = b.2 := by
  induction l generalizing a with
  | nil => simpa using hb
  | cons x l ih =>
    have hx := h x (by simp)
    refine ih (hiC a x) (fun y hy => h y (by simp [hy])) (by simp only [hiC]; omega) ?_
    simp only [hiC]
    rcases hb with hb | hb
    · rcases List.mem_cons.1 hb with rfl | hb
      · right; omega
      · exact .inl hb
    · right; omega
theorem up_rows {l : List Cell} (h : UpC l) {i j : Nat} {a b : Cell} (ha : l[i]? = some a) (hb : l[j]? = some b) (hij : i ≤ j) : a.2 ≤ b.2 := by
  rcases Nat.lt_or_ge i j with h' | h'
  · have := up_get h ha hb h'; rw [ltC_iff] at this; omega
  · have : i = j := by omega
    subst this; rw [ha] at hb; cases hb; omega
theorem boxC_up {l : List Cell} (h : rightC l = true) {a b : Cell} (ha : l[0]? = some a) (hb : l[l.length - 1]? = some b) :
    boxC l = (((l.foldl spanX (a.1, a.1)).1, a.2, (l.foldl spanX (a.1, a.1)).2 - (l.foldl spanX (a.1, a.1)).1 + 1, b.2 - a.2 + 1), true) := by
  have hu := ((rightC_iff l).1 h).2.1
  have h1 : ∀ x ∈ l, a.2 ≤ x.2 := fun x hx => by
    obtain ⟨k, hk⟩ := List.getElem?_of_mem hx
    exact up_rows hu ha hk (by omega)
  have h2 : ∀ x ∈ l, x.2 ≤ b.2 := fun x hx => by
    obtain ⟨k, hk⟩ := List.getElem?_of_mem hx
    exact up_rows hu hk hb (by have := (List.getElem?_eq_some_iff.1 hk).1; omega)
  have e1 := fold_lo l a a a.1 rfl
  have e2 := fold_hi l a a.1
  have e3 := fold_top l a h1
  have e4 := fold_bot l a b h2 (h1 b (List.mem_of_getElem? hb)) (.inl (List.mem_of_getElem? hb))
  cases l with
  | nil => simp at ha
  | cons x t =>
    obtain rfl : x = a := by simpa using ha
    simp only [boxC, h, if_true, e1, e2, e3, e4]
end Go.Proofs.Ythpaadmpgdglnaa
