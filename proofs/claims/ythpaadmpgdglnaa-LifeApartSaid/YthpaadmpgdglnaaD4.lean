/- Sets of cells as lists that rise, in plain words. No condition. -/
import Derived.Test.YthpaadmpgdglnaaD3
namespace Go.Proofs.Ythpaadmpgdglnaa
open Go Go.RowKit
theorem ltC_iff (a b : Cell) : ltC a b = true ↔ (a.2 < b.2 ∨ (a.2 = b.2 ∧ a.1 < b.1)) := by simp [ltC]
theorem ltC_irr (a : Cell) : ¬ ltC a a = true := by rw [ltC_iff]; omega
theorem ltC_trans {a b c : Cell} (h : ltC a b = true) (g : ltC b c = true) : ltC a c = true := by rw [ltC_iff] at *; omega
theorem ltC_asym {a b : Cell} (h : ltC a b = true) : ¬ ltC b a = true := by rw [ltC_iff] at *; omega
theorem ltC_tri (a b : Cell) : ltC a b = true ∨ a = b ∨ ltC b a = true := by
  simp only [ltC_iff, Prod.ext_iff]; omega
/-- Each cell stands ahead of all behind it. -/
def UpC (l : List Cell) : Prop := l.Pairwise fun a b => ltC a b = true
theorem UpC.cons {a : Cell} {l : List Cell} : UpC (a :: l) ↔ (∀ b ∈ l, ltC a b = true) ∧ UpC l := List.pairwise_cons
theorem UpC.nil : UpC [] := List.Pairwise.nil
theorem up_ext : ∀ {l m : List Cell}, UpC l → UpC m → (∀ c, c ∈ l ↔ c ∈ m) → l = m
  | [], [], _, _, _ => rfl
  | [], b :: m, _, _, h => by have := (h b).2 (by simp); simp at this
  | a :: l, [], _, _, h => by have := (h a).1 (by simp); simp at this
  | a :: l, b :: m, hl, hm, h => by
    obtain ⟨h1, h2⟩ := UpC.cons.1 hl
    obtain ⟨g1, g2⟩ := UpC.cons.1 hm
    have hab : a = b := by
      have ha : a = b ∨ a ∈ m := by simpa using (h a).1 (by simp)
      have hb : b = a ∨ b ∈ l := by simpa using (h b).2 (by simp)
      rcases ha with ha | ha
      · exact ha
      · rcases hb with hb | hb
        · exact hb.symm
        · exact absurd (g1 a ha) (ltC_asym (h1 b hb))
    subst hab
    have : l = m := up_ext h2 g2 fun c => by
      have hc := h c
      simp only [List.mem_cons] at hc
      constructor
      · intro hcl
        rcases hc.1 (.inr hcl) with rfl | h'
        · exact absurd (h1 c hcl) (ltC_irr c)
        · exact h'
      · intro hcm
        rcases hc.2 (.inr hcm) with rfl | h'
        · exact absurd (g1 c hcm) (ltC_irr c)
        · exact h'
    rw [this]
theorem up_get {l : List Cell} (h : UpC l) {i j : Nat} {a b : Cell} (hi : l[i]? = some a) (hj : l[j]? = some b) (hij : i < j) : ltC a b = true := by
  obtain ⟨hi', rfl⟩ := List.getElem?_eq_some_iff.1 hi
  obtain ⟨hj', rfl⟩ := List.getElem?_eq_some_iff.1 hj
  exact List.pairwise_iff_getElem.1 h i j hi' hj' hij
theorem up_of_next {l : List Cell} (h : ∀ i a b, l[i]? = some a → l[i + 1]? = some b → ltC a b = true) : UpC l := by
  induction l with
  | nil => exact UpC.nil
  | cons a l ih =>
    have hl : UpC l := ih fun i x y hx hy => h (i + 1) x y (by simpa using hx) (by simpa using hy)
    refine UpC.cons.2 ⟨?_, hl⟩
    intro b hb
    cases l with
    | nil => simp at hb
    | cons c l =>
      have hac : ltC a c = true := h 0 a c (by simp) (by simp)
      rcases List.mem_cons.1 hb with rfl | hb
      · exact hac
      · exact ltC_trans hac ((UpC.cons.1 hl).1 b hb)
theorem rightC_iff (l : List Cell) : rightC l = true ↔ (∀ c ∈ l, inC c = true) ∧ UpC l ∧ l.length ≤ 2000 := by
  simp only [rightC, Bool.and_eq_true, List.all_eq_true, List.mem_range, decide_eq_true_eq]
  constructor
  · rintro ⟨h, hn⟩
    refine ⟨?_, up_of_next ?_, hn⟩
    · intro c hc
      obtain ⟨i, hi⟩ := List.getElem?_of_mem hc
      have := h i (List.getElem?_eq_some_iff.1 hi).1
      simp only [okAt, hi, Bool.and_eq_true] at this
      exact this.1
    · intro i a b ha hb
      have := h (i + 1) (List.getElem?_eq_some_iff.1 hb).1
      simp only [okAt, hb, Nat.add_sub_cancel, ha, Bool.and_eq_true, Bool.or_eq_true, decide_eq_true_eq] at this
      rcases this.2 with h2 | h2
      · omega
      · exact h2
  · rintro ⟨h1, h2, hn⟩
    refine ⟨?_, hn⟩
    intro i hi
    have hc : l[i]? = some l[i] := List.getElem?_eq_getElem hi
    simp only [okAt, hc, Bool.and_eq_true, Bool.or_eq_true, decide_eq_true_eq]
    refine ⟨h1 _ (List.getElem_mem hi), ?_⟩
    by_cases h0 : i = 0
    · exact .inl h0
    · right
      have hp : l[i - 1]? = some l[i - 1] := List.getElem?_eq_getElem (by omega)
      rw [hp]
      exact up_get h2 hp hc (by omega)

/-! ### a cell, put in its place -/
def insU : List Cell → Cell → List Cell
  | [], c => [c]
  | x :: l, c => if x = c then c :: l.filter (fun y => decide (y ≠ c)) else if ltC c x = true then c :: x :: l.filter (fun y => decide (y ≠ c)) else x :: insU l c
theorem putFold_true (c : Cell) (l acc : List Cell) : l.foldl (putStep c) (acc, true) = (acc ++ l.filter (fun y => decide (y ≠ c)), true) := by
  induction l generalizing acc with
  | nil => simp
  | cons x l ih =>
    by_cases h : x = c
    · simp [putStep, h, ih]
    · simp [putStep, h, ih]
theorem putFold_false (c : Cell) (l acc : List Cell) : putFin c (l.foldl (putStep c) (acc, false)) = acc ++ insU l c := by
  induction l generalizing acc with
  | nil => simp [putFin, insU]
  | cons x l ih =>
    rw [List.foldl_cons, insU]
    by_cases h : x = c
    · subst h
      simp [putStep, putFold_true, putFin]
    · by_cases h2 : ltC c x = true
      · simp [putStep, h, h2, putFold_true, putFin]
      · have h3 : ltC c x = false := by simpa using h2
        simp [putStep, h, h3, ih]
theorem putC_eq (l : List Cell) (c : Cell) : putC l c = insU l c := by
  unfold putC
  rw [putFold_false]
  rfl
theorem mem_insU (l : List Cell) (c x : Cell) : x ∈ insU l c ↔ x = c ∨ x ∈ l := by
  induction l with
  | nil => simp [insU]
  | cons y l ih =>
    unfold insU
    split
    · rename_i h; subst h
      by_cases hx : x = y <;> simp [hx]
    · split
      · by_cases hx : x = c <;> simp [hx]
      · rw [List.mem_cons, ih, List.mem_cons]
        constructor
        · rintro (h | h | h) <;> simp [h]
        · rintro (h | h | h) <;> simp [h]
theorem up_filter {l : List Cell} (h : UpC l) (p : Cell → Bool) : UpC (l.filter p) := h.filter p
theorem up_insU {l : List Cell} (h : UpC l) (c : Cell) : UpC (insU l c) := by
  induction l with
  | nil => simp [insU, UpC]
  | cons y l ih =>
    obtain ⟨h1, h2⟩ := UpC.cons.1 h
    unfold insU
    split
    · rename_i e; subst e
      exact UpC.cons.2 ⟨fun b hb => h1 b ((List.mem_filter.1 hb).1), up_filter h2 _⟩
    · rename_i hne
      split
      · rename_i hlt
        refine UpC.cons.2 ⟨?_, UpC.cons.2 ⟨fun b hb => h1 b ((List.mem_filter.1 hb).1), up_filter h2 _⟩⟩
        intro b hb
        rcases List.mem_cons.1 hb with rfl | hb
        · exact hlt
        · exact ltC_trans hlt (h1 b ((List.mem_filter.1 hb).1))
      · rename_i hlt
        refine UpC.cons.2 ⟨?_, ih h2⟩
        intro b hb
        rcases (mem_insU l c b).1 hb with rfl | hb
        · rcases ltC_tri b y with h' | h' | h'
          · exact absurd h' hlt
          · exact absurd h'.symm hne
          · exact h'
        · exact h1 b hb
theorem mem_putC (l : List Cell) (c x : Cell) : x ∈ putC l c ↔ x = c ∨ x ∈ l := by rw [putC_eq]; exact mem_insU l c x
theorem up_putC {l : List Cell} (h : UpC l) (c : Cell) : UpC (putC l c) := by rw [putC_eq]; exact up_insU h c
theorem up_putAll {m l : List Cell} (h : UpC l) : UpC (m.foldl putC l) := by
  induction m generalizing l with
  | nil => exact h
  | cons c m ih => exact ih (up_putC h c)
theorem mem_putAll (m l : List Cell) (x : Cell) : x ∈ m.foldl putC l ↔ x ∈ l ∨ x ∈ m := by
  induction m generalizing l with
  | nil => simp
  | cons c m ih =>
    rw [List.foldl_cons, ih, mem_putC, List.mem_cons]
    constructor
    · rintro ((h | h) | h) <;> simp [h]
    · rintro (h | h | h) <;> simp [h]
theorem hasC_iff (l : List Cell) (c : Cell) : hasC l c = true ↔ c ∈ l := by
  simp [hasC]
theorem putC_has {l : List Cell} (h : UpC l) {c : Cell} (hc : c ∈ l) : putC l c = l :=
  up_ext (up_putC h c) h fun x => by
    rw [mem_putC]
    constructor
    · rintro (rfl | h) <;> assumption
    · exact .inr
/-- A list of cells as a set: each once, rising. -/
def toSet (l : List Cell) : List Cell := l.foldl putC []
theorem up_toSet (l : List Cell) : UpC (toSet l) := up_putAll UpC.nil
theorem mem_toSet (l : List Cell) (x : Cell) : x ∈ toSet l ↔ x ∈ l := by
  unfold toSet; rw [mem_putAll]; simp
theorem toSet_up {l : List Cell} (h : UpC l) : toSet l = l := up_ext (up_toSet l) h (mem_toSet l)

/-! ### sorted, and each once -/
def compFrom : Cell → List Cell → List Cell
  | _, [] => []
  | p, x :: t => if x = p then compFrom p t else x :: compFrom x t
def compC : List Cell → List Cell
  | [] => []
  | x :: t => x :: compFrom x t
def leC (a b : Cell) : Bool := !ltC b a
theorem leC_trans (a b c : Cell) : leC a b = true → leC b c = true → leC a c = true := by
  simp only [leC, Bool.not_eq_true', ← Bool.not_eq_true, ltC_iff]; omega
theorem leC_total (a b : Cell) : (leC a b || leC b a) = true := by
  simp only [leC, Bool.or_eq_true, Bool.not_eq_true', ← Bool.not_eq_true, ltC_iff]; omega
theorem mem_compFrom (p : Cell) (t : List Cell) (x : Cell) : x ∈ p :: compFrom p t ↔ x ∈ p :: t := by
  induction t generalizing p with
  | nil => simp [compFrom]
  | cons y t ih =>
    unfold compFrom
    split
    · rename_i h; subst h
      rw [ih]; simp
    · have := ih y
      rw [List.mem_cons, this]; simp
theorem up_compFrom (p : Cell) (t : List Cell) (h : (p :: t).Pairwise fun a b => leC a b = true) : UpC (p :: compFrom p t) := by
  induction t generalizing p with
  | nil => simp [compFrom, UpC]
  | cons y t ih =>
    obtain ⟨h1, h2⟩ := List.pairwise_cons.1 h
    obtain ⟨h3, h4⟩ := List.pairwise_cons.1 h2
    unfold compFrom
    split
    · rename_i e; subst e
      exact ih y h2
    · rename_i hne
      refine UpC.cons.2 ⟨?_, ih y h2⟩
      have hpy : ltC p y = true := by
        have := h1 y (by simp)
        simp only [leC, Bool.not_eq_true', ← Bool.not_eq_true] at this
        rcases ltC_tri p y with h' | h' | h'
        · exact h'
        · exact absurd h'.symm hne
        · exact absurd h' this
      intro b hb
      rcases List.mem_cons.1 hb with rfl | hb'
      · exact hpy
      · exact ltC_trans hpy ((UpC.cons.1 (ih y h2)).1 b hb')
theorem compC_up {l : List Cell} (h : l.Pairwise fun a b => leC a b = true) : UpC (compC l) := by
  cases l with
  | nil => exact UpC.nil
  | cons x t => exact up_compFrom x t h
theorem mem_compC (l : List Cell) (x : Cell) : x ∈ compC l ↔ x ∈ l := by
  cases l with
  | nil => simp [compC]
  | cons y t => exact mem_compFrom y t x
theorem comp_sort (l : List Cell) : compC (l.mergeSort leC) = toSet l := by
  refine up_ext (compC_up (List.pairwise_mergeSort leC_trans leC_total l)) (up_toSet l) fun x => ?_
  rw [mem_compC, mem_toSet]
  exact (List.mergeSort_perm l leC).mem_iff
end Go.Proofs.Ythpaadmpgdglnaa
