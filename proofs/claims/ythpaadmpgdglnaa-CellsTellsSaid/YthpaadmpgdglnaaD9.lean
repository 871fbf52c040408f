/- Plain laws for shifts of raw sets and their boxes, and for sets in general. No program. -/
import Derived.Test.YthpaadmpgdglnaaD8
namespace Go.Proofs.Ythpaadmpgdglnaa
theorem same_self (l : List Cell) : sameC l l = true := by simp [sameC]
theorem sh_in {raw : List Cell} {x y : Int} (hx : -1099511627000 ≤ x ∧ x ≤ 1099511627000) (hy : -1099511627000 ≤ y ∧ y ≤ 1099511627000) : ∀ c ∈ setC raw, inC (shC x y c) = true := fun c hc => by
  have := set_bd hc
  refine inC_of ?_
  simp only [shC]
  omega
/-- All that the law on shifts asks. -/
theorem shifts_law (raw : List Cell) (p q x y : Int) (hp : -549755813888 ≤ p ∧ p ≤ 549755813888) (hq : -549755813888 ≤ q ∧ q ≤ 549755813888) (hx : 0 ≤ x ∧ x ≤ 1000) (hy : 0 ≤ y ∧ y ≤ 1000) :
    ((shiftC (setC raw) p q).2 = 0 ∧ (shiftC (shiftC (setC raw) p q).1 (-p) (-q)).2 = 0 ∧ (shiftC (shiftC (setC raw) p q).1 x y).2 = 0 ∧ (shiftC (setC raw) (p + x) (q + y)).2 = 0) ∧
    (sameC (shiftC (shiftC (setC raw) p q).1 (-p) (-q)).1 (setC raw) = true ∧ sameC (shiftC (shiftC (setC raw) p q).1 x y).1 (shiftC (setC raw) (p + x) (q + y)).1 = true ∧ rightC (shiftC (setC raw) p q).1 = true) ∧
    ((boxC (shiftC (setC raw) p q).1).2 = (boxC (setC raw)).2 ∧ (boxC (setC raw)).2 = decide (0 < (setC raw).length)) ∧
    ((boxC (setC raw)).2 = true → (boxC (shiftC (setC raw) p q).1).1 = (bX (setC raw) + p, bY (setC raw) + q, bW (setC raw), bH (setC raw))) := by
  have hr := set_right raw
  have h1 := shift_ok hr (dx := p) (dy := q) (by omega) (sh_in (by omega) (by omega))
  have hm := right_map hr (sh_in (raw := raw) (x := p) (y := q) (by omega) (by omega))
  have hin : ∀ (a b : Int), (-1099511627000 ≤ p + a ∧ p + a ≤ 1099511627000) → (-1099511627000 ≤ q + b ∧ q + b ≤ 1099511627000) → ∀ c ∈ (setC raw).map (shC p q), inC (shC a b c) = true := fun a b ha hb c hc => by
    obtain ⟨d, hd, rfl⟩ := List.mem_map.1 hc
    have := sh_in ha hb d hd
    simp only [shC] at this ⊢
    rwa [Int.add_assoc, Int.add_assoc]
  have h2 := shift_ok hm (dx := -p) (dy := -q) (by omega) (hin _ _ (by omega) (by omega))
  have h3 := shift_ok hm (dx := x) (dy := y) (by omega) (hin _ _ (by omega) (by omega))
  have h4 := shift_ok hr (dx := p + x) (dy := q + y) (by omega) (sh_in (by omega) (by omega))
  rw [h1]
  simp only
  rw [h2, h3, h4, map_sh_sh, map_sh_sh, map_sh_zero _ _ _ (by omega) (by omega)]
  refine ⟨by simp, ⟨same_self _, same_self _, hm⟩, ⟨?_, box_is hr⟩, fun h => ?_⟩
  · rw [box_is hm, box_is hr, List.length_map]
  · rw [box_map hr hm (fun h0 => by rw [h0] at h; cases h)]
/-! ### the box of a raw set -/
theorem set_in {raw : List Cell} {i : Nat} {c : Cell} (h : (setC raw)[i]? = some c) : (0 ≤ c.1 - (boxC (setC raw)).1.1 ∧ c.1 - (boxC (setC raw)).1.1 < (boxC (setC raw)).1.2.2.1) ∧ (0 ≤ c.2 - (boxC (setC raw)).1.2.1 ∧ c.2 - (boxC (setC raw)).1.2.1 < (boxC (setC raw)).1.2.2.2) := by
  have hm := List.mem_of_getElem? h
  have := (box_spec (set_right raw) (List.ne_nil_of_mem hm)).2.1 c hm
  simp only [bX, bY, bW, bH] at this
  omega
theorem set_sides {raw : List Cell} (h : (boxC (setC raw)).2 = true) : (setC raw).any (fun c => decide (c.1 - (boxC (setC raw)).1.1 = 0)) = true ∧ (setC raw).any (fun c => decide (c.2 - (boxC (setC raw)).1.2.1 = 0)) = true ∧
    (setC raw).any (fun c => decide (c.1 - (boxC (setC raw)).1.1 = (boxC (setC raw)).1.2.2.1 - 1)) = true ∧ (setC raw).any (fun c => decide (c.2 - (boxC (setC raw)).1.2.1 = (boxC (setC raw)).1.2.2.2 - 1)) = true := by
  obtain ⟨_, _, ⟨a, ha, h1⟩, ⟨b, hb, h2⟩, ⟨c, hc, h3⟩, ⟨d, hd, h4⟩⟩ := box_spec (set_right raw) (fun h0 => by rw [h0] at h; cases h)
  simp only [bX, bY, bW, bH] at h1 h2 h3 h4
  simp only [List.any_eq_true, decide_eq_true_eq]
  exact ⟨⟨a, ha, by omega⟩, ⟨b, hb, by omega⟩, ⟨c, hc, by omega⟩, ⟨d, hd, by omega⟩⟩
theorem set_none {raw : List Cell} (h : (boxC (setC raw)).2 = false) : (boxC (setC raw)).1 = (0, 0, 0, 0) := by
  have := box_is (set_right raw)
  rw [h] at this
  have h0 : setC raw = [] := by
    cases hs : setC raw with
    | nil => rfl
    | cons x t => rw [hs] at this; simp at this
  rw [h0]; rfl
theorem any_step_t {α : Type} {f : α → Bool} {l : List α} {i : Nat} {c : α} {s : Bool} (hc : l[i]? = some c) (hs : s = (l.take i).any f) (h : s = true) : true = (l.take (i + 1)).any f := by
  rw [List.take_add_one, List.any_append, hc, ← hs, h]; rfl
theorem any_step_f {α : Type} {f : α → Bool} {l : List α} {i : Nat} {c : α} {s : Bool} (hc : l[i]? = some c) (hs : s = (l.take i).any f) (h : s = false) : f c = (l.take (i + 1)).any f := by
  rw [List.take_add_one, List.any_append, hc, ← hs, h]; simp
theorem sides_all {raw : List Cell} {i : Nat} {s0 s1 s2 s3 : Bool} (hi : ¬ (i : Int) < (setC raw).length) (h0 : s0 = ((setC raw).take i).any (fun c => decide (c.1 - (boxC (setC raw)).1.1 = 0)))
    (h1 : s1 = ((setC raw).take i).any (fun c => decide (c.2 - (boxC (setC raw)).1.2.1 = 0))) (h2 : s2 = ((setC raw).take i).any (fun c => decide (c.1 - (boxC (setC raw)).1.1 = (boxC (setC raw)).1.2.2.1 - 1)))
    (h3 : s3 = ((setC raw).take i).any (fun c => decide (c.2 - (boxC (setC raw)).1.2.1 = (boxC (setC raw)).1.2.2.2 - 1))) (h : (boxC (setC raw)).2 = true) : (s0, s1, s2, s3) = (true, true, true, true) := by
  rw [List.take_of_length_le (by omega)] at h0 h1 h2 h3
  obtain ⟨a, b, c, d⟩ := set_sides h
  rw [h0, h1, h2, h3, a, b, c, d]
end Go.Proofs.Ythpaadmpgdglnaa
