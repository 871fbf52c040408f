/- The plain law of LifeAll: what lives of the cells about a raw set, counted. No program. -/
import Derived.Test.YthpaadmpgdglnaaDe
namespace Go.Proofs.Ythpaadmpgdglnaa
open Go Go.RowKit
set_option linter.unusedVariables false
/-! ### the neighbours of one cell -/
def nearCnt (l : List Cell) (c : Cell) (k : Nat) : Int := ((List.range k).filter fun k => decide (k ≠ 4) && hasC l (candAt c k)).length
theorem nearCnt_yes {l : List Cell} {c : Cell} {k : Nat} (h : k ≠ 4) (h2 : hasC l (candAt c k) = true) : nearCnt l c (k + 1) = nearCnt l c k + 1 := by
  simp [nearCnt, List.range_succ, List.filter_append, h, h2]
theorem nearCnt_no {l : List Cell} {c : Cell} {k : Nat} (h : k = 4 ∨ hasC l (candAt c k) = false) : nearCnt l c (k + 1) = nearCnt l c k := by
  have e : (decide (k ≠ 4) && hasC l (candAt c k)) = false := by
    rcases h with rfl | h
    · rfl
    · simp [h]
  unfold nearCnt
  rw [List.range_succ, List.filter_append, List.filter_cons, e]
  simp
theorem nearCnt_bd (l : List Cell) (c : Cell) (k : Nat) : 0 ≤ nearCnt l c k ∧ nearCnt l c k ≤ k := by
  have := List.length_filter_le (fun k => decide (k ≠ 4) && hasC l (candAt c k)) (List.range k)
  rw [List.length_range] at this
  unfold nearCnt
  omega
theorem nodup_map_on {α β : Type} {f : α → β} : ∀ {s : List α}, s.Nodup → (∀ x ∈ s, ∀ y ∈ s, f x = f y → x = y) → (s.map f).Nodup
  | [], _, _ => List.nodup_nil
  | x :: s, h, hf => by
    have h1 := List.nodup_cons.1 h
    rw [List.map_cons, List.nodup_cons]
    refine ⟨fun hm => ?_, nodup_map_on h1.2 fun a ha b hb => hf a (by simp [ha]) b (by simp [hb])⟩
    obtain ⟨y, hy, e⟩ := List.mem_map.1 hm
    have := hf x (by simp) y (by simp [hy]) e.symm
    exact h1.1 (this ▸ hy)
theorem nearCnt_all {l : List Cell} (hn : l.Nodup) (c : Cell) : nearCnt l c 9 = aroundC l c := by
  obtain ⟨a, b⟩ := c
  have hK : ∀ k, k ∈ (List.range 9).filter (fun k => decide (k ≠ 4) && hasC l (candAt (a, b) k)) ↔ k < 9 ∧ k ≠ 4 ∧ candAt (a, b) k ∈ l := fun k => by
    rw [List.mem_filter, List.mem_range, Bool.and_eq_true, decide_eq_true_eq, hasC_iff]
  have hmem : ∀ x, x ∈ ((List.range 9).filter (fun k => decide (k ≠ 4) && hasC l (candAt (a, b) k))).map (candAt (a, b)) ↔ x ∈ l.filter (nearC (a, b)) := fun x => by
    obtain ⟨p, q⟩ := x
    rw [List.mem_map, List.mem_filter]
    simp only [nearC, decide_eq_true_eq, ne_eq, Prod.mk.injEq]
    constructor
    · rintro ⟨k, hk, e⟩
      obtain ⟨h1, h2, h3⟩ := (hK k).1 hk
      rw [e] at h3
      simp only [candAt, Prod.mk.injEq] at e
      exact ⟨h3, by omega⟩
    · rintro ⟨h1, h2⟩
      have e : candAt (a, b) ((p - a + 1) + 3 * (q - b + 1)).toNat = (p, q) := by
        simp only [candAt, Prod.mk.injEq]; omega
      exact ⟨((p - a + 1) + 3 * (q - b + 1)).toNat, (hK _).2 ⟨by omega, by omega, by rw [e]; exact h1⟩, e⟩
  have hnd : (((List.range 9).filter (fun k => decide (k ≠ 4) && hasC l (candAt (a, b) k))).map (candAt (a, b))).Nodup := nodup_map_on (List.nodup_range.filter _) fun x hx y hy e => by
    have h1 := (hK x).1 hx
    have h2 := (hK y).1 hy
    simp only [candAt, Prod.mk.injEq] at e
    omega
  have h1 := nodup_sub_len _ _ hnd fun x hx => (hmem x).1 hx
  have h2 := nodup_sub_len _ _ (hn.filter (nearC (a, b))) fun x hx => (hmem x).2 hx
  rw [List.length_map] at h1 h2
  unfold nearCnt aroundC
  omega
/-! ### the cells from -10 to 9 -/
def row20 (i n : Nat) : List Cell := (List.range n).map fun (j : Nat) => (((j : Int) - 10, (i : Int) - 10) : Cell)
def grid : Nat → List Cell
  | 0 => []
  | i + 1 => grid i ++ row20 i 20
def seen (i j : Nat) : List Cell := grid i ++ row20 i j
def liveCnt (l : List Cell) (i j : Nat) : Int := ((seen i j).filter (alive1 l)).length
theorem seen_succ (i j : Nat) : seen i (j + 1) = seen i j ++ [((j : Int) - 10, (i : Int) - 10)] := by
  simp [seen, row20, List.range_succ]
theorem liveCnt_yes {l : List Cell} {i j : Nat} (h : alive1 l ((j : Int) - 10, (i : Int) - 10) = true) : liveCnt l i (j + 1) = liveCnt l i j + 1 := by
  simp [liveCnt, seen_succ, List.filter_append, h]
theorem liveCnt_no {l : List Cell} {i j : Nat} (h : alive1 l ((j : Int) - 10, (i : Int) - 10) = false) : liveCnt l i (j + 1) = liveCnt l i j := by
  simp [liveCnt, seen_succ, List.filter_append, h]
theorem liveCnt_next (l : List Cell) (i : Nat) : liveCnt l (i + 1) 0 = liveCnt l i 20 := by
  simp [liveCnt, seen, grid, row20]
theorem liveCnt_zero (l : List Cell) : liveCnt l 0 0 = 0 := rfl
theorem grid_len : ∀ i, (grid i).length = 20 * i
  | 0 => rfl
  | i + 1 => by rw [grid, List.length_append, grid_len i, row20, List.length_map, List.length_range]; omega
theorem liveCnt_bd (l : List Cell) (i j : Nat) : 0 ≤ liveCnt l i j ∧ liveCnt l i j ≤ 20 * i + j := by
  have h1 := List.length_filter_le (alive1 l) (seen i j)
  have h2 : (seen i j).length = 20 * i + j := by simp [seen, grid_len, row20]
  unfold liveCnt
  omega
theorem mem_grid {c : Cell} : ∀ n, c ∈ grid n ↔ (-10 ≤ c.1 ∧ c.1 < 10) ∧ (-10 ≤ c.2 ∧ c.2 < (n : Int) - 10)
  | 0 => by simp [grid] <;> omega
  | n + 1 => by
    rw [grid, List.mem_append, mem_grid n, row20, List.mem_map]
    obtain ⟨p, q⟩ := c
    simp only [Prod.mk.injEq, List.mem_range]
    constructor
    · rintro (h | ⟨j, h1, h2, h3⟩) <;> omega
    · intro h
      by_cases hq : q < (n : Int) - 10
      · left; omega
      · right; exact ⟨(p + 10).toNat, by omega, by omega, by omega⟩
theorem grid_nodup : ∀ n, (grid n).Nodup
  | 0 => List.nodup_nil
  | n + 1 => by
    rw [grid, List.nodup_append]
    refine ⟨grid_nodup n, nodup_map_on List.nodup_range fun x _ y _ e => by simp only [Prod.mk.injEq] at e; omega, ?_⟩
    rintro a ha b hb rfl
    have h1 := (mem_grid n).1 ha
    rw [row20, List.mem_map] at hb
    obtain ⟨j, _, rfl⟩ := hb
    simp only at h1
    omega
theorem all_law (raw : List Cell) : liveCnt (setC raw) 20 0 = ((nextC (setC raw)).1.length : Int) := by
  obtain ⟨h1, _, _, h4⟩ := set_next raw
  rw [h1]
  simp only
  have e : seen 20 0 = grid 20 := by simp [seen, row20]
  have hm : ∀ x, x ∈ (grid 20).filter (alive1 (setC raw)) ↔ x ∈ genC (setC raw) := fun x => by
    rw [List.mem_filter, mem_gen, mem_grid]
    refine ⟨fun h => h.2, fun h => ⟨?_, h⟩⟩
    have := h4.x x (mem_gen.2 h)
    have := h4.y x (mem_gen.2 h)
    omega
  have h2 := nodup_sub_len _ _ ((grid_nodup 20).filter (alive1 (setC raw))) fun x hx => (hm x).1 hx
  have h3 := nodup_sub_len _ _ (up_nodup (gen_up (setC raw))) fun x hx => (hm x).2 hx
  unfold liveCnt
  rw [e]
  omega
theorem all_has (raw : List Cell) (c : Cell) : livesB (hasC (setC raw) c) (nearCnt (setC raw) c 9) = hasC (nextC (setC raw)).1 c := by
  rw [nearCnt_all (right_nodup (set_right raw)), (set_next raw).1]
  simp only
  rw [Bool.eq_iff_iff, hasC_iff, mem_gen]
  rfl
theorem all_alive (raw : List Cell) (c : Cell) : livesB (hasC (setC raw) c) (nearCnt (setC raw) c 9) = alive1 (setC raw) c := by
  rw [nearCnt_all (right_nodup (set_right raw))]
  rfl
end Go.Proofs.Ythpaadmpgdglnaa
