/- Raw sets, boxes, shifts: what the statements on sets come to, in plain words. No condition. -/
import Derived.Test.YthpaadmpgdglnaaD7
namespace Go.Proofs.Ythpaadmpgdglnaa
open Go Go.RowKit
def RawOk (raw : List Cell) : Prop := ∀ c ∈ raw, (-9223372036854775808 ≤ c.1 ∧ c.1 ≤ 9223372036854775807) ∧ (-9223372036854775808 ≤ c.2 ∧ c.2 ≤ 9223372036854775807)
theorem setF_up (f : Cell → Cell) (m : List Cell) {l : List Cell} (h : UpC l) : UpC (m.foldl (fun l r => putC l (f r)) l) := by
  induction m generalizing l with
  | nil => exact h
  | cons c m ih => exact ih (up_putC h (f c))
theorem setF_mem (f : Cell → Cell) (m l : List Cell) (x : Cell) : x ∈ m.foldl (fun l r => putC l (f r)) l ↔ x ∈ l ∨ ∃ r ∈ m, x = f r := by
  induction m generalizing l with
  | nil => simp
  | cons c m ih =>
    rw [List.foldl_cons, ih, mem_putC]
    constructor
    · rintro ((h | h) | ⟨r, hr, h⟩)
      · exact .inr ⟨c, by simp, h⟩
      · exact .inl h
      · exact .inr ⟨r, by simp [hr], h⟩
    · rintro (h | ⟨r, hr, h⟩)
      · exact .inl (.inr h)
      · rcases List.mem_cons.1 hr with rfl | hr
        · exact .inl (.inl h)
        · exact .inr ⟨r, hr, h⟩
theorem set_up (raw : List Cell) : UpC (setC raw) := setF_up rawSet _ UpC.nil
theorem set_mem (raw : List Cell) (x : Cell) : x ∈ setC raw ↔ ∃ r ∈ raw.take 60, x = rawSet r := by
  unfold setC; rw [setF_mem rawSet]; simp
theorem rawSet_bd (r : Cell) : (-8 ≤ (rawSet r).1 ∧ (rawSet r).1 ≤ 7) ∧ (-8 ≤ (rawSet r).2 ∧ (rawSet r).2 ≤ 7) := by
  have h1 := pickI_bd r.1 16 (by omega)
  have h2 := pickI_bd r.2 16 (by omega)
  simp only [rawSet]
  omega
theorem set_bd {raw : List Cell} {x : Cell} (h : x ∈ setC raw) : (-8 ≤ x.1 ∧ x.1 ≤ 7) ∧ (-8 ≤ x.2 ∧ x.2 ≤ 7) := by
  obtain ⟨r, _, rfl⟩ := (set_mem raw x).1 h
  exact rawSet_bd r
theorem set_len (raw : List Cell) : (setC raw).length ≤ 60 := by
  have := putFold_lenG rawSet (raw.take 60) []
  simp only [List.length_take, List.length_nil] at this
  unfold setC
  omega
theorem inC_of {x : Cell} (h : (-1099511627776 ≤ x.1 ∧ x.1 ≤ 1099511627776) ∧ (-1099511627776 ≤ x.2 ∧ x.2 ≤ 1099511627776)) : inC x = true := (inC_iff x).2 ⟨h.1.1, h.1.2, h.2.1, h.2.2⟩
theorem set_right (raw : List Cell) : rightC (setC raw) = true :=
  (rightC_iff _).2 ⟨fun c hc => by have := set_bd hc; exact inC_of (by omega), set_up raw, by have := set_len raw; omega⟩

/-! ### boxes -/
abbrev bX (l : List Cell) : Int := (boxC l).1.1
abbrev bY (l : List Cell) : Int := (boxC l).1.2.1
abbrev bW (l : List Cell) : Int := (boxC l).1.2.2.1
abbrev bH (l : List Cell) : Int := (boxC l).1.2.2.2
theorem span_spec (l : List Cell) (s : Int × Int) : let r := l.foldl spanX s
    (r.1 ≤ s.1 ∧ s.2 ≤ r.2) ∧ (∀ c ∈ l, r.1 ≤ c.1 ∧ c.1 ≤ r.2) ∧ (r.1 = s.1 ∨ ∃ c ∈ l, c.1 = r.1) ∧ (r.2 = s.2 ∨ ∃ c ∈ l, c.1 = r.2) := by
  induction l generalizing s with
  | nil => simp
  | cons x l ih =>
    obtain ⟨h1, h2, h3, h4⟩ := ih (spanX s x)
    simp only [List.foldl_cons]
    generalize List.foldl spanX (spanX s x) l = r at *
    simp only [spanX] at h1 h3 h4
    obtain ⟨h5, h6⟩ := h1
    refine ⟨by clear h2 h3 h4; omega, ?_, ?_, ?_⟩
    · intro c hc
      rcases List.mem_cons.1 hc with rfl | hc
      · clear h2 h3 h4; omega
      · exact h2 c hc
    · rcases h3 with h3 | ⟨c, hc, h3⟩
      · by_cases h : s.1 ≤ x.1
        · left; clear h2 h4; omega
        · right; exact ⟨x, by simp, by clear h2 h4; omega⟩
      · exact .inr ⟨c, by simp [hc], h3⟩
    · rcases h4 with h4 | ⟨c, hc, h4⟩
      · by_cases h : x.1 ≤ s.2
        · left; clear h2 h3; omega
        · right; exact ⟨x, by simp, by clear h2 h3; omega⟩
      · exact .inr ⟨c, by simp [hc], h4⟩
theorem box_spec {l : List Cell} (h : rightC l = true) (hne : l ≠ []) : (boxC l).2 = true ∧ (∀ c ∈ l, bX l ≤ c.1 ∧ c.1 ≤ bX l + bW l - 1 ∧ bY l ≤ c.2 ∧ c.2 ≤ bY l + bH l - 1) ∧
    (∃ c ∈ l, c.1 = bX l) ∧ (∃ c ∈ l, c.2 = bY l) ∧ (∃ c ∈ l, c.1 = bX l + bW l - 1) ∧ (∃ c ∈ l, c.2 = bY l + bH l - 1) := by
  have hl : 0 < l.length := List.length_pos_iff.2 hne
  have ha : l[0]? = some l[0] := List.getElem?_eq_getElem hl
  have hb : l[l.length - 1]? = some l[l.length - 1] := List.getElem?_eq_getElem (by omega)
  have hk := boxC_up h ha hb
  have hu := ((rightC_iff l).1 h).2.1
  obtain ⟨h1, h2, h3, h4⟩ := span_spec l (l[0].1, l[0].1)
  simp only [bX, bY, bW, bH, hk]
  simp only at h1 h3 h4
  generalize List.foldl spanX (l[0].1, l[0].1) l = r at *
  refine ⟨trivial, ?_, ?_, ⟨l[0], List.getElem_mem hl, rfl⟩, ?_, ⟨l[l.length - 1], List.getElem_mem (by omega), by omega⟩⟩
  · intro c hc
    have := h2 c hc
    obtain ⟨k, hkk⟩ := List.getElem?_of_mem hc
    have r1 := up_rows hu ha hkk (by omega)
    have r2 := up_rows hu hkk hb (by have := (List.getElem?_eq_some_iff.1 hkk).1; omega)
    omega
  · rcases h3 with h3 | ⟨c, hc, h3⟩
    · exact ⟨l[0], List.getElem_mem hl, h3.symm⟩
    · exact ⟨c, hc, h3⟩
  · rcases h4 with h4 | ⟨c, hc, h4⟩
    · exact ⟨l[0], List.getElem_mem hl, by omega⟩
    · exact ⟨c, hc, by omega⟩
theorem box_nil : boxC [] = ((0, 0, 0, 0), false) := rfl
theorem box_is {l : List Cell} (h : rightC l = true) : (boxC l).2 = decide (0 < l.length) := by
  by_cases hl : l = []
  · subst hl; rfl
  · rw [(box_spec h hl).1]; exact (decide_eq_true (List.length_pos_iff.2 hl)).symm
/-- A raw set's box. -/
theorem set_box (raw : List Cell) : (-8 ≤ bX (setC raw) ∧ bX (setC raw) ≤ 7) ∧ (-8 ≤ bY (setC raw) ∧ bY (setC raw) ≤ 7) ∧ (0 ≤ bW (setC raw) ∧ bW (setC raw) ≤ 16) ∧ (0 ≤ bH (setC raw) ∧ bH (setC raw) ≤ 16) := by
  by_cases hl : setC raw = []
  · rw [hl]; simp [bX, bY, bW, bH, box_nil]
  · obtain ⟨_, h0, ⟨a, ha, h1⟩, ⟨b, hb, h2⟩, ⟨c, hc, h3⟩, ⟨d, hd, h4⟩⟩ := box_spec (set_right raw) hl
    have := set_bd ha; have := set_bd hb; have := set_bd hc; have := set_bd hd
    have := h0 a ha; have := h0 b hb
    omega

/-! ### shifts -/
def shC (dx dy : Int) (c : Cell) : Cell := (c.1 + dx, c.2 + dy)
theorem shift_ok {l : List Cell} {dx dy : Int} (h : rightC l = true) (hd : (-2199023255552 ≤ dx ∧ dx ≤ 2199023255552) ∧ (-2199023255552 ≤ dy ∧ dy ≤ 2199023255552)) (hin : ∀ c ∈ l, inC (shC dx dy c) = true) : shiftC l dx dy = (l.map (shC dx dy), 0) := by
  unfold shiftC
  rw [if_pos h, if_pos]
  · rfl
  · rw [List.all_eq_true]
    intro c hc
    simp only [shOk, Bool.and_eq_true, decide_eq_true_eq]
    exact ⟨hd.1.1, hd.1.2, hd.2.1, hd.2.2, hin c hc⟩
theorem ltC_sh (dx dy : Int) (a b : Cell) : ltC (shC dx dy a) (shC dx dy b) = ltC a b := by
  rw [Bool.eq_iff_iff, ltC_iff, ltC_iff]
  simp only [shC]
  omega
theorem up_map {l : List Cell} {f : Cell → Cell} (hf : ∀ a b, ltC (f a) (f b) = ltC a b) (h : UpC l) : UpC (l.map f) := by
  unfold UpC
  rw [List.pairwise_map]
  exact h.imp fun h => by rw [hf]; exact h
theorem right_map {l : List Cell} {dx dy : Int} (h : rightC l = true) (hin : ∀ c ∈ l, inC (shC dx dy c) = true) : rightC (l.map (shC dx dy)) = true := by
  obtain ⟨_, h2, h3⟩ := (rightC_iff l).1 h
  refine (rightC_iff _).2 ⟨?_, up_map (ltC_sh dx dy) h2, by rw [List.length_map]; exact h3⟩
  intro c hc
  obtain ⟨x, hx, rfl⟩ := List.mem_map.1 hc
  exact hin x hx
theorem fold_lo_map (dx dy : Int) (l : List Cell) (a : Cell) : (l.map (shC dx dy)).foldl loC (shC dx dy a) = shC dx dy (l.foldl loC a) := by
  induction l generalizing a with
  | nil => rfl
  | cons x l ih =>
    rw [List.map_cons, List.foldl_cons, List.foldl_cons, ← ih]
    congr 1
    simp only [loC, shC, Prod.mk.injEq]
    omega
theorem fold_hi_map (dx dy : Int) (l : List Cell) (a : Cell) : (l.map (shC dx dy)).foldl hiC (shC dx dy a) = shC dx dy (l.foldl hiC a) := by
  induction l generalizing a with
  | nil => rfl
  | cons x l ih =>
    rw [List.map_cons, List.foldl_cons, List.foldl_cons, ← ih]
    congr 1
    simp only [hiC, shC, Prod.mk.injEq]
    omega
theorem box_map {l : List Cell} {dx dy : Int} (h : rightC l = true) (hm : rightC (l.map (shC dx dy)) = true) (hne : l ≠ []) : boxC (l.map (shC dx dy)) = ((bX l + dx, bY l + dy, bW l, bH l), true) := by
  cases l with
  | nil => exact absurd rfl hne
  | cons x t =>
    simp only [bX, bY, bW, bH]
    rw [List.map_cons] at hm ⊢
    simp only [boxC, hm, h, if_true]
    rw [← List.map_cons, fold_lo_map, fold_hi_map]
    simp only [shC, Prod.mk.injEq, and_true]
    refine ⟨trivial, trivial, ?_, ?_⟩ <;> omega
theorem map_sh_sh (l : List Cell) (dx dy ex ey : Int) : (l.map (shC dx dy)).map (shC ex ey) = l.map (shC (dx + ex) (dy + ey)) := by
  rw [List.map_map]
  congr 1
  funext c
  simp only [Function.comp, shC, Prod.mk.injEq]
  omega
theorem map_sh_zero (l : List Cell) (dx dy : Int) (hx : dx = 0) (hy : dy = 0) : l.map (shC dx dy) = l := by
  subst hx; subst hy
  have : shC 0 0 = id := by funext c; simp [shC]
  rw [this, List.map_id]

/-! ### the laws -/
theorem bounds_law (raw : List Cell) (x y : Int) (hx : -1099511627776 ≤ x ∧ x ≤ 1099511627776) (hy : -1099511627776 ≤ y ∧ y ≤ 1099511627776) :
    ((shiftC (setC raw) x y).2 = 0 ∨ (shiftC (setC raw) x y).2 = 2) ∧
    ((shiftC (setC raw) x y).2 = 0 ↔ ((boxC (setC raw)).2 = false ∨ (-1099511627776 ≤ bX (setC raw) + x ∧ -1099511627776 ≤ bY (setC raw) + y ∧ bX (setC raw) + bW (setC raw) - 1 + x ≤ 1099511627776 ∧ bY (setC raw) + bH (setC raw) - 1 + y ≤ 1099511627776))) := by
  have hr := set_right raw
  generalize setC raw = l at *
  have hs : (shiftC l x y).2 = if l.all (shOk x y) then 0 else 2 := by
    unfold shiftC; rw [if_pos hr]; split <;> rfl
  rw [hs]
  refine ⟨by split <;> simp, ?_⟩
  have hall : l.all (shOk x y) = true ↔ ∀ c ∈ l, inC (shC x y c) = true := by
    rw [List.all_eq_true]
    constructor
    · intro h c hc
      have := h c hc
      simp only [shOk, Bool.and_eq_true, decide_eq_true_eq] at this
      exact this.2.2.2.2
    · intro h c hc
      simp only [shOk, Bool.and_eq_true, decide_eq_true_eq]
      exact ⟨by omega, by omega, by omega, by omega, h c hc⟩
  by_cases hne : l = []
  · subst hne; simp [box_nil]
  · obtain ⟨h0, h1, ⟨a, ha, ea⟩, ⟨b, hb, eb⟩, ⟨c, hc, ec⟩, ⟨d, hd, ed⟩⟩ := box_spec hr hne
    rw [h0]
    by_cases hl : l.all (shOk x y) = true
    · rw [if_pos hl]
      rw [hall] at hl
      have i1 := (inC_iff _).1 (hl a ha)
      have i2 := (inC_iff _).1 (hl b hb)
      have i3 := (inC_iff _).1 (hl c hc)
      have i4 := (inC_iff _).1 (hl d hd)
      simp only [shC] at i1 i2 i3 i4
      constructor
      · intro _; right; omega
      · intro _; rfl
    · rw [if_neg hl]
      constructor
      · intro h; simp at h
      · rintro (h | h)
        · cases h
        · exfalso
          refine hl (hall.2 fun z hz => ?_)
          have := h1 z hz
          exact (inC_iff _).2 (by simp only [shC]; omega)
end Go.Proofs.Ythpaadmpgdglnaa
