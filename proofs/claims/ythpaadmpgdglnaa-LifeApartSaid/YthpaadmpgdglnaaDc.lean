/- A generation out of counted neighbours is the generation of the document. No program. -/
import Derived.Test.YthpaadmpgdglnaaKf
import Derived.Test.YthpaadmpgdglnaaD9
import Derived.Test.YthpaadmpgdglnaaN4
namespace Go.Proofs.Ythpaadmpgdglnaa
open Go Go.RowKit
set_option linter.unusedVariables false
set_option linter.unusedSimpArgs false
theorem nodup_sub_len {α : Type} [DecidableEq α] : ∀ (s t : List α), s.Nodup → (∀ x ∈ s, x ∈ t) → s.length ≤ t.length
  | [], t, _, _ => Nat.zero_le _
  | x :: s, t, hn, hs => by
    have h1 := List.nodup_cons.1 hn
    have hx := hs x (by simp)
    have := nodup_sub_len s (t.erase x) h1.2 fun y hy => (List.mem_erase_of_ne (by rintro rfl; exact h1.1 hy)).2 (hs y (by simp [hy]))
    rw [List.length_erase_of_mem hx] at this
    have := List.length_pos_of_mem hx
    rw [List.length_cons]
    omega
theorem ofC_same {a b : List Cell} (h : ∀ x, x ∈ a ↔ x ∈ b) : ofC a = ofC b := by
  have e1 : a.all inC = b.all inC := by
    rw [Bool.eq_iff_iff, List.all_eq_true, List.all_eq_true]
    exact ⟨fun g x hx => g x ((h x).2 hx), fun g x hx => g x ((h x).1 hx)⟩
  unfold ofC
  rw [e1, show a.foldl putC [] = b.foldl putC [] from toSet_same h]
/-! ### what is counted -/
def closeC (c x : Cell) : Bool := decide (-1 ≤ x.1 - c.1 ∧ x.1 - c.1 ≤ 1 ∧ -1 ≤ x.2 - c.2 ∧ x.2 - c.2 ≤ 1)
theorem close_yes {a b p q : Int} (hp : p = a + -1 ∨ p = a + 0 ∨ p = a + 1) (hq : q = b + -1 ∨ q = b + 0 ∨ q = b + 1) : closeC (a, b) (p, q) = true := decide_eq_true (by simp only; omega)
theorem close_no1 {a b p q : Int} (hp : ¬ p = a + -1 ∧ ¬ p = a + 0 ∧ ¬ p = a + 1) : closeC (a, b) (p, q) = false := decide_eq_false (by simp only; omega)
theorem close_no2 {a b p q : Int} (hq : ¬ q = b + -1 ∧ ¬ q = b + 0 ∧ ¬ q = b + 1) : closeC (a, b) (p, q) = false := decide_eq_false (by simp only; omega)
theorem nine_sum (X : Int) (p1 p2 p3 q1 q2 q3 p0 : Prop) [Decidable p1] [Decidable p2] [Decidable p3] [Decidable q1] [Decidable q2] [Decidable q3] [Decidable p0] (c : Bool) (hp : ¬ (p1 ∧ p2) ∧ ¬ (p1 ∧ p3) ∧ ¬ (p2 ∧ p3)) (hq : ¬ (q1 ∧ q2) ∧ ¬ (q1 ∧ q3) ∧ ¬ (q2 ∧ q3)) (hc : c = true ↔ (p1 ∨ p2 ∨ p3) ∧ (q1 ∨ q2 ∨ q3)) :
    X + (if p1 ∧ q1 then 1 else 0) + (if p2 ∧ q1 then 1 else 0) + (if p3 ∧ q1 then 1 else 0) + (if p1 ∧ q2 then 1 else 0) + (if p2 ∧ q2 then 1 else 0) + (if p3 ∧ q2 then 1 else 0) + (if p1 ∧ q3 then 1 else 0) + (if p2 ∧ q3 then 1 else 0) + (if p3 ∧ q3 then 1 else 0) + (if p0 then 9 else 0) =
      X + ((if c = true then 1 else 0) + (if p0 then 9 else 0)) := by
  by_cases h1 : p1 <;> by_cases h2 : p2 <;> by_cases h3 : p3 <;> by_cases h4 : q1 <;> by_cases h5 : q2 <;> by_cases h6 : q3 <;> simp [h1, h2, h3, h4, h5, h6] at hp hq hc <;> simp [h1, h2, h3, h4, h5, h6, hc] <;> omega
theorem atM_cnt1 (m : CM) (c x : Cell) : atM (cnt1 m c) x = atM m x + ((if closeC c x = true then 1 else 0) + if x = c then 9 else 0) := by
  unfold cnt1
  simp only [atM_inc]
  obtain ⟨a, b⟩ := c
  obtain ⟨p, q⟩ := x
  simp only [Prod.mk.injEq]
  refine nine_sum _ _ _ _ _ _ _ _ _ (by omega) (by omega) ?_
  simp only [closeC, decide_eq_true_eq]
  omega
def eqCnt (l : List Cell) (x : Cell) : Nat := (l.filter fun c => decide (x = c)).length
theorem atM_fold (x : Cell) : ∀ (l : List Cell) (m : CM), atM (l.foldl cnt1 m) x = atM m x + ((l.filter fun c => closeC c x).length : Int) + 9 * (eqCnt l x : Int)
  | [], m => by simp [eqCnt]
  | c :: l, m => by
    have ih := atM_fold x l (cnt1 m c)
    rw [List.foldl_cons, ih, atM_cnt1, show (if x = c then (9 : Int) else 0) = if decide (x = c) = true then 9 else 0 by simp]
    unfold eqCnt
    simp only [List.filter_cons]
    cases h1 : closeC c x <;> cases h2 : decide (x = c) <;> simp only [if_true, if_false, List.length_cons, Bool.false_eq_true] <;> omega
theorem close_split (x : Cell) : ∀ (l : List Cell), (l.filter fun c => closeC c x).length = (l.filter (nearC x)).length + eqCnt l x
  | [] => rfl
  | c :: l => by
    have ih := close_split x l
    unfold eqCnt at *
    simp only [List.filter_cons]
    have e : closeC c x = true ↔ nearC x c = true ∨ decide (x = c) = true := by
      obtain ⟨a, b⟩ := c
      obtain ⟨p, q⟩ := x
      simp only [closeC, nearC, decide_eq_true_eq, Prod.mk.injEq, ne_eq]
      omega
    have e2 : ¬ (nearC x c = true ∧ decide (x = c) = true) := by
      rintro ⟨h1, h2⟩
      obtain rfl := of_decide_eq_true h2
      simp [nearC] at h1
    have e3 : closeC c x = (nearC x c || decide (x = c)) := by rw [Bool.eq_iff_iff, e, Bool.or_eq_true]
    rw [e3]
    generalize nearC x c = u at *
    generalize decide (x = c) = v at *
    cases u <;> cases v <;> simp at e2 ⊢ <;> omega
theorem up_nodup {l : List Cell} (h : UpC l) : l.Nodup := h.imp fun {a b} hab e => by
  subst e
  simp [ltC_iff] at hab
theorem eqCnt_le {l : List Cell} (h : l.Nodup) (x : Cell) : eqCnt l x = if hasC l x = true then 1 else 0 := by
  induction l with
  | nil => rfl
  | cons c l ih =>
    have h1 := List.nodup_cons.1 h
    have := ih h1.2
    unfold eqCnt at *
    rw [List.filter_cons]
    by_cases e : x = c
    · subst e
      have hn : ¬ hasC l x = true := fun k => h1.1 ((hasC_iff l x).1 k)
      rw [if_neg hn] at this
      simp [hasC, this]
    · rw [if_neg (by simp [e]), this]
      have hn : ¬ c = x := fun k => e k.symm
      have : hasC (c :: l) x = hasC l x := by simp [hasC, hn]
      rw [this]
def eight (x : Cell) : List Cell := [(x.1 - 1, x.2 - 1), (x.1, x.2 - 1), (x.1 + 1, x.2 - 1), (x.1 - 1, x.2), (x.1 + 1, x.2), (x.1 - 1, x.2 + 1), (x.1, x.2 + 1), (x.1 + 1, x.2 + 1)]
theorem near_eight {x c : Cell} (h : nearC x c = true) : c ∈ eight x := by
  obtain ⟨a, b⟩ := c
  obtain ⟨p, q⟩ := x
  simp only [nearC, decide_eq_true_eq, ne_eq, Prod.mk.injEq] at h
  simp only [eight, List.mem_cons, Prod.mk.injEq, List.not_mem_nil, or_false]
  omega
theorem around_le {l : List Cell} (h : l.Nodup) (x : Cell) : 0 ≤ aroundC l x ∧ aroundC l x ≤ 8 := by
  have := nodup_sub_len (l.filter (nearC x)) (eight x) (h.filter _) fun c hc => near_eight (List.mem_filter.1 hc).2
  have h8 : (eight x).length = 8 := rfl
  unfold aroundC
  omega
/-- What is counted at a cell. -/
theorem counts_at {l : List Cell} (h : l.Nodup) (x : Cell) : atM (countsM l) x = aroundC l x + if hasC l x = true then 10 else 0 := by
  have h1 := atM_fold x l []
  rw [close_split] at h1
  have h2 := eqCnt_le h x
  rw [h2] at h1
  unfold countsM
  rw [h1]
  have h0 : atM [] x = 0 := rfl
  rw [h0]
  unfold aroundC
  split <;> simp <;> omega
theorem lives_counts {l : List Cell} (h : l.Nodup) (x : Cell) : livesB (decide (10 ≤ atM (countsM l) x)) (atM (countsM l) x % 10) = livesB (hasC l x) (aroundC l x) := by
  have h1 := around_le h x
  rw [counts_at h x]
  by_cases hx : hasC l x = true
  · rw [if_pos hx, hx]
    rw [show decide (10 ≤ aroundC l x + 10) = true from decide_eq_true (by omega), show (aroundC l x + 10) % 10 = aroundC l x by omega]
  · rw [if_neg hx]
    rw [show decide (10 ≤ aroundC l x + 0) = false from decide_eq_false (by omega), show (aroundC l x + 0) % 10 = aroundC l x by omega]
    rw [Bool.not_eq_true] at hx
    rw [hx]
theorem counts_nodup : ∀ (l : List Cell) (m : CM), (m.map (·.1)).Nodup → ((l.foldl cnt1 m).map (·.1)).Nodup
  | [], m, h => h
  | c :: l, m, h => counts_nodup l _ (by
    unfold cnt1 incM
    repeat apply nodup_setM
    exact h)
theorem getM_atM {m : CM} (h : (m.map (·.1)).Nodup) {x : Cell} {v : Int} (hm : (x, v) ∈ m) : v = atM m x := by
  unfold atM
  rw [getM_nodup h hm]; rfl
end Go.Proofs.Ythpaadmpgdglnaa
namespace Go.Proofs.Ythpaadmpgdglnaa
open Go Go.RowKit
set_option linter.unusedVariables false
set_option linter.unusedSimpArgs false
/-- x lives behind a generation of l. -/
def alive1 (l : List Cell) (x : Cell) : Bool := livesB (hasC l x) (aroundC l x)
theorem mem_candStep {l : List Cell} {i k : Nat} {out : List Cell} {c x : Cell} (h : l[i]? = some c) : x ∈ candStep l i out k ↔ x ∈ out ∨ (x = candAt c k ∧ alive1 l x = true) := by
  unfold candStep alive1
  rw [h]
  simp only []
  split
  · rename_i hl
    simp only [List.mem_append, List.mem_singleton]
    constructor
    · rintro (h | rfl)
      · exact .inl h
      · exact .inr ⟨rfl, hl⟩
    · rintro (h | ⟨rfl, _⟩)
      · exact .inl h
      · exact .inr rfl
  · rename_i hl
    constructor
    · exact .inl
    · rintro (h | ⟨rfl, h⟩)
      · exact h
      · exact absurd h hl
theorem mem_cand {l : List Cell} {i : Nat} {out : List Cell} {c x : Cell} (h : l[i]? = some c) (n : Nat) : x ∈ (List.range n).foldl (candStep l i) out ↔ x ∈ out ∨ ((∃ k, k < n ∧ x = candAt c k) ∧ alive1 l x = true) := by
  induction n with
  | zero => simp
  | succ n ih =>
    rw [range_fold_succ, mem_candStep h, ih]
    constructor
    · rintro ((h | ⟨⟨k, hk, e⟩, hl⟩) | ⟨e, hl⟩)
      · exact .inl h
      · exact .inr ⟨⟨k, by omega, e⟩, hl⟩
      · exact .inr ⟨⟨n, by omega, e⟩, hl⟩
    · rintro (h | ⟨⟨k, hk, e⟩, hl⟩)
      · exact .inl (.inl h)
      · rcases Nat.lt_succ_iff_lt_or_eq.1 hk with hk | rfl
        · exact .inl (.inr ⟨⟨k, hk, e⟩, hl⟩)
        · exact .inr ⟨e, hl⟩
theorem mem_candI {l : List Cell} {x : Cell} (n : Nat) (hn : n ≤ l.length) : x ∈ (List.range n).foldl (cand l) [] ↔ (∃ i c k, i < n ∧ l[i]? = some c ∧ k < 9 ∧ x = candAt c k) ∧ alive1 l x = true := by
  induction n with
  | zero => simp
  | succ n ih =>
    have hg : l[n]? = some l[n] := List.getElem?_eq_getElem hn
    rw [range_fold_succ, cand, mem_cand hg, ih (by omega)]
    constructor
    · rintro (⟨⟨i, c, k, h1, h2, h3, h4⟩, hl⟩ | ⟨⟨k, hk, e⟩, hl⟩)
      · exact ⟨⟨i, c, k, by omega, h2, h3, h4⟩, hl⟩
      · exact ⟨⟨n, _, k, by omega, hg, hk, e⟩, hl⟩
    · rintro ⟨⟨i, c, k, h1, h2, h3, h4⟩, hl⟩
      rcases Nat.lt_succ_iff_lt_or_eq.1 h1 with h1 | rfl
      · exact .inl ⟨⟨i, c, k, h1, h2, h3, h4⟩, hl⟩
      · rw [hg] at h2
        obtain rfl := Option.some.inj h2
        exact .inr ⟨⟨k, h3, h4⟩, hl⟩
theorem live_near {l : List Cell} {x : Cell} (h : alive1 l x = true) : ∃ c ∈ l, nearC x c = true := by
  have h2 : 2 ≤ aroundC l x := by
    simp only [alive1, livesB, Bool.or_eq_true, Bool.and_eq_true, decide_eq_true_eq] at h
    omega
  unfold aroundC at h2
  have h3 : 0 < (l.filter (nearC x)).length := by omega
  obtain ⟨c, hc⟩ := List.exists_mem_of_length_pos h3
  exact ⟨c, List.mem_filter.1 hc⟩
theorem cand_near {x c : Cell} (h : nearC x c = true) : ∃ k, k < 9 ∧ x = candAt c k := by
  obtain ⟨a, b⟩ := c
  obtain ⟨p, q⟩ := x
  simp only [nearC, decide_eq_true_eq, ne_eq, Prod.mk.injEq] at h
  refine ⟨((p - a + 1) + 3 * (q - b + 1)).toNat, by omega, ?_⟩
  simp only [candAt, Prod.mk.injEq]
  omega
theorem mem_candAll {l : List Cell} {x : Cell} : x ∈ candAll l ↔ alive1 l x = true := by
  unfold candAll
  rw [mem_candI _ (Nat.le_refl _)]
  constructor
  · exact fun h => h.2
  · intro h
    obtain ⟨c, hc, hn⟩ := live_near h
    obtain ⟨k, hk, e⟩ := cand_near hn
    obtain ⟨i, hi⟩ := List.mem_iff_getElem?.1 hc
    exact ⟨⟨i, c, k, (List.getElem?_eq_some_iff.1 hi).1, hi, hk, e⟩, h⟩
/-- An entry lives. -/
def livesE (q : Cell × Int) : Bool := livesB (decide (10 ≤ q.2)) (q.2 % 10)
theorem entry_at {l : List Cell} {j : Nat} {q : Cell × Int} (h : (countsM l)[j]? = some q) : q.2 = atM (countsM l) q.1 :=
  getM_atM (counts_nodup l [] (by simp)) (List.mem_of_getElem? (i := j) (by exact h))
theorem entry_bd {l : List Cell} {j : Nat} {q : Cell × Int} (hr : rightC l = true) (h : (countsM l)[j]? = some q) : 0 ≤ q.2 ∧ q.2 ≤ 36000 := by
  have := counts_bd0 l l.length (right_len hr) q.1
  rw [List.take_length] at this
  rw [entry_at h]
  exact this
theorem right_nodup {l : List Cell} (hr : rightC l = true) : l.Nodup := up_nodup ((rightC_iff l).1 hr).2.1
theorem live_entry {l : List Cell} (hr : rightC l = true) {x : Cell} : alive1 l x = true ↔ ∃ (j : Nat) (q : Cell × Int), (countsM l)[j]? = some q ∧ q.1 = x ∧ livesE q = true := by
  have hn := right_nodup hr
  have hl := lives_counts hn x
  constructor
  · intro h
    have ha : atM (countsM l) x ≠ 0 := by
      have h1 := counts_at hn x
      have h2 := around_le hn x
      have h3 : 2 ≤ aroundC l x := by
        simp only [alive1, livesB, Bool.or_eq_true, Bool.and_eq_true, decide_eq_true_eq] at h
        omega
      split at h1 <;> omega
    cases hg : getM (countsM l) x with
    | none => unfold atM at ha; rw [hg] at ha; exact absurd rfl ha
    | some v =>
      have hi := idxM_some hg
      have hv : v = atM (countsM l) x := by unfold atM; rw [hg]; rfl
      refine ⟨_, _, hi, rfl, ?_⟩
      unfold livesE
      simp only []
      rw [hv, hl]
      exact h
  · rintro ⟨j, q, hq, rfl, h⟩
    unfold livesE at h
    rw [entry_at hq, hl] at h
    exact h
/-- The entries at the places of s were looked at; o: the cells that live. -/
structure OutOk (M : CM) (s : List Nat) (o : List Cell) : Prop where
  nodup : s.Nodup
  lt : ∀ j ∈ s, j < M.length
  len : o.length ≤ s.length
  mem : ∀ x, x ∈ o ↔ ∃ j ∈ s, ∃ q : Cell × Int, M[j]? = some q ∧ q.1 = x ∧ livesE q = true
theorem OutOk.nil (M : CM) : OutOk M [] [] := ⟨List.nodup_nil, by simp, Nat.le_refl _, by simp⟩
theorem nodup_snoc {s : List Nat} {j : Nat} (h : s.Nodup) (hj : ¬ j ∈ s) : (s ++ [j]).Nodup := by
  rw [List.nodup_append]
  refine ⟨h, by simp, ?_⟩
  intro a ha b hb
  simp only [List.mem_singleton] at hb
  subst hb
  rintro rfl
  exact hj ha
theorem OutOk.yes {M : CM} {s : List Nat} {o : List Cell} {j : Nat} {q : Cell × Int} (h : OutOk M s o) (hq : M[j]? = some q) (hj : ¬ j ∈ s) (hl : livesE q = true) : OutOk M (s ++ [j]) (o ++ [q.1]) := by
  refine ⟨nodup_snoc h.nodup hj, ?_, by have := h.len; simp; omega, fun x => ?_⟩
  · intro k hk
    rcases List.mem_append.1 hk with hk | hk
    · exact h.lt k hk
    · simp only [List.mem_singleton] at hk; subst hk; exact (List.getElem?_eq_some_iff.1 hq).1
  · rw [List.mem_append, h.mem]
    constructor
    · rintro (⟨k, hk, r, h1, h2, h3⟩ | hx)
      · exact ⟨k, by simp [hk], r, h1, h2, h3⟩
      · simp only [List.mem_singleton] at hx; exact ⟨j, by simp, q, hq, hx.symm, hl⟩
    · rintro ⟨k, hk, r, h1, h2, h3⟩
      rcases List.mem_append.1 hk with hk | hk
      · exact .inl ⟨k, hk, r, h1, h2, h3⟩
      · simp only [List.mem_singleton] at hk
        subst hk
        rw [hq] at h1
        obtain rfl := Option.some.inj h1
        exact .inr (by simp [h2])
theorem OutOk.no {M : CM} {s : List Nat} {o : List Cell} {j : Nat} {q : Cell × Int} (h : OutOk M s o) (hq : M[j]? = some q) (hj : ¬ j ∈ s) (hl : livesE q = false) : OutOk M (s ++ [j]) o := by
  refine ⟨nodup_snoc h.nodup hj, ?_, by have := h.len; simp; omega, fun x => ?_⟩
  · intro k hk
    rcases List.mem_append.1 hk with hk | hk
    · exact h.lt k hk
    · simp only [List.mem_singleton] at hk; subst hk; exact (List.getElem?_eq_some_iff.1 hq).1
  · rw [h.mem]
    constructor
    · rintro ⟨k, hk, r, h1, h2, h3⟩
      exact ⟨k, by simp [hk], r, h1, h2, h3⟩
    · rintro ⟨k, hk, r, h1, h2, h3⟩
      rcases List.mem_append.1 hk with hk | hk
      · exact ⟨k, hk, r, h1, h2, h3⟩
      · simp only [List.mem_singleton] at hk
        subst hk
        rw [hq] at h1
        obtain rfl := Option.some.inj h1
        rw [hl] at h3; cases h3
theorem OutOk.slen {M : CM} {s : List Nat} {o : List Cell} (h : OutOk M s o) : s.length ≤ M.length := by
  have := nodup_sub_len s (List.range M.length) h.nodup fun j hj => List.mem_range.2 (h.lt j hj)
  rwa [List.length_range] at this
theorem OutOk.less {M : CM} {s : List Nat} {o : List Cell} {j : Nat} {q : Cell × Int} (h : OutOk M s o) (hq : M[j]? = some q) (hj : ¬ j ∈ s) : s.length < M.length := by
  have := nodup_sub_len (s ++ [j]) (List.range M.length) (nodup_snoc h.nodup hj) fun k hk => by
    rcases List.mem_append.1 hk with hk | hk
    · exact List.mem_range.2 (h.lt k hk)
    · simp only [List.mem_singleton] at hk; subst hk; exact List.mem_range.2 (List.getElem?_eq_some_iff.1 hq).1
  rw [List.length_range, List.length_append, List.length_singleton] at this
  omega
theorem setM_len (l : CM) (k : Cell) (v : Int) : (setM l k v).length ≤ l.length + 1 := by
  cases h : getM l k with
  | none => rw [show setM l k v = l ++ [(k, v)] from by rw [(idxM_none h).2], List.length_append]; simp
  | some u => rw [← touch_set l k 0 v, List.length_modify, touch_some 0 h]; omega
theorem incM_len (l : CM) (k : Cell) (d : Int) (n : Nat) (h : l.length ≤ n) : (incM l k d).length ≤ n + 1 := Nat.le_trans (setM_len _ _ _) (by omega)
theorem counts_len : ∀ (l : List Cell) (m : CM), (l.foldl cnt1 m).length ≤ m.length + 10 * l.length
  | [], m => by simp
  | c :: l, m => by
    have := counts_len l (cnt1 m c)
    have h1 : (cnt1 m c).length ≤ m.length + 1 + 1 + 1 + 1 + 1 + 1 + 1 + 1 + 1 + 1 := by
      unfold cnt1
      repeat apply incM_len
      exact Nat.le_refl _
    rw [List.foldl_cons, List.length_cons]
    omega
theorem OutOk.small {l : List Cell} {s : List Nat} {o : List Cell} (h : OutOk (countsM l) s o) (hr : rightC l = true) : o.length ≤ 20000 := by
  have h1 := h.slen
  have h2 := h.len
  have h3 := counts_len l []
  have h4 := right_len hr
  unfold countsM at h1
  simp only [List.length_nil] at h3
  omega
/-- All entries were looked at: the generation. -/
theorem next_law {l : List Cell} {s : List Nat} {o : List Cell} (hr : rightC l = true) (h : OutOk (countsM l) s o) (hall : ∀ j, j < (countsM l).length → j ∈ s) : ofC o = nextC l := by
  unfold nextC
  rw [if_pos hr]
  refine ofC_same fun x => ?_
  rw [mem_candAll, live_entry hr, h.mem]
  constructor
  · rintro ⟨j, _, q, h1, h2, h3⟩
    exact ⟨j, q, h1, h2, h3⟩
  · rintro ⟨j, q, h1, h2, h3⟩
    exact ⟨j, hall j (List.getElem?_eq_some_iff.1 h1).1, q, h1, h2, h3⟩
end Go.Proofs.Ythpaadmpgdglnaa
