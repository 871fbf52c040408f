/- The plain law of LifeSteps: generations in two parts; a generation reaches one cell further at most. No program. -/
import Derived.Test.YthpaadmpgdglnaaDe
namespace Go.Proofs.Ythpaadmpgdglnaa
open Go Go.RowKit
set_option linter.unusedVariables false
theorem gens_add (l : List Cell) (p : Nat) : ∀ q : Nat, gens (gens l p) q = gens l (p + q)
  | 0 => rfl
  | q + 1 => by rw [gens, gens_add l p q]; rfl
theorem runC_of {l : List Cell} {n : Int} {r : List Cell × Int} (hr : rightC l = true) (hn : 0 ≤ n ∧ n ≤ 1000) (h : runN l n.toNat = r) : runC l n = r := by
  unfold runC; rw [if_pos ⟨hr, hn.1, hn.2⟩]; exact h
/-- A raw set, run in two parts. -/
theorem set_run2 (raw : List Cell) (p q : Nat) (h : p + q ≤ 14) : runN (gens (setC raw) p) q = (gens (setC raw) (p + q), 0) := by
  obtain ⟨_, h2, h3⟩ := set_run raw p (by omega)
  obtain ⟨h4, _, _⟩ := run_box h2 h3 q (by have := Nat.mul_le_mul (show 16 + 2 * p + 2 * q ≤ 44 by omega) (show 16 + 2 * p + 2 * q ≤ 44 by omega); omega) (by omega) (by omega)
  rw [h4, gens_add]
theorem steps_law (raw : List Cell) (p q : Int) (hp : 0 ≤ p ∧ p < 8) (hq : 0 ≤ q ∧ q < 8) :
    (runC (setC raw) p).2 = 0 ∧ (runC (runC (setC raw) p).1 q).2 = 0 ∧ (runC (setC raw) (p + q)).2 = 0 ∧ (nextC (setC raw)).2 = 0 ∧ sameC (runC (runC (setC raw) p).1 q).1 (runC (setC raw) (p + q)).1 = true := by
  obtain ⟨h1, h2, h3⟩ := set_run raw p.toNat (by omega)
  have e1 := runC_of (set_right raw) (by omega) h1
  have e2 := runC_of h2 (n := q) (by omega) (set_run2 raw p.toNat q.toNat (by omega))
  have e3 := runC_of (set_right raw) (n := p + q) (by omega) (set_run raw (p + q).toNat (by omega)).1
  have e4 := (set_next raw).1
  rw [e1]
  simp only
  rw [e2, e3, e4, show (p + q).toNat = p.toNat + q.toNat by omega]
  exact ⟨trivial, rfl, rfl, rfl, same_self _⟩
theorem box_in {l : List Cell} {a b : Int} {n m : Nat} (hr : rightC l = true) (h : InBox l a b n m) (ha : a ≤ 0 ∧ 0 < a + n) (hb : b ≤ 0 ∧ 0 < b + m) :
    (a ≤ bX l ∧ bX l < a + n) ∧ (b ≤ bY l ∧ bY l < b + m) ∧ (0 ≤ bW l ∧ bX l + bW l ≤ a + n) ∧ (0 ≤ bH l ∧ bY l + bH l ≤ b + m) := by
  by_cases hl : l = []
  · subst hl; simp [bX, bY, bW, bH, box_nil]; omega
  · obtain ⟨_, h0, ⟨c1, m1, e1⟩, ⟨c2, m2, e2⟩, ⟨c3, m3, e3⟩, ⟨c4, m4, e4⟩⟩ := box_spec hr hl
    have := h.x c1 m1; have := h.y c2 m2; have := h.x c3 m3; have := h.y c4 m4
    have := h0 c1 m1; have := h0 c2 m2
    omega
theorem steps_box (raw : List Cell) : ((-9 ≤ bX (nextC (setC raw)).1 ∧ bX (nextC (setC raw)).1 < 9) ∧ (-9 ≤ bY (nextC (setC raw)).1 ∧ bY (nextC (setC raw)).1 < 9) ∧ (0 ≤ bW (nextC (setC raw)).1 ∧ bX (nextC (setC raw)).1 + bW (nextC (setC raw)).1 ≤ 9) ∧ (0 ≤ bH (nextC (setC raw)).1 ∧ bY (nextC (setC raw)).1 + bH (nextC (setC raw)).1 ≤ 9)) ∧
    ((boxC (nextC (setC raw)).1).2 = true → (boxC (setC raw)).2 = true ∧ bX (setC raw) - 1 ≤ bX (nextC (setC raw)).1 ∧ bY (setC raw) - 1 ≤ bY (nextC (setC raw)).1 ∧
      bX (nextC (setC raw)).1 + bW (nextC (setC raw)).1 ≤ bX (setC raw) + bW (setC raw) + 1 ∧ bY (nextC (setC raw)).1 + bH (nextC (setC raw)).1 ≤ bY (setC raw) + bH (setC raw) + 1) := by
  obtain ⟨h1, h2, _, h4⟩ := set_next raw
  rw [h1]
  simp only
  refine ⟨by have := box_in h2 h4 (by omega) (by omega); omega, fun hw => ?_⟩
  have hne : genC (setC raw) ≠ [] := fun h0 => by rw [h0] at hw; cases hw
  obtain ⟨_, _, ⟨c1, m1, e1⟩, ⟨c2, m2, e2⟩, ⟨c3, m3, e3⟩, ⟨c4, m4, e4⟩⟩ := box_spec h2 hne
  obtain ⟨d1, n1, f1, g1⟩ := gen_near m1
  obtain ⟨d2, n2, f2, g2⟩ := gen_near m2
  obtain ⟨d3, n3, f3, g3⟩ := gen_near m3
  obtain ⟨d4, n4, f4, g4⟩ := gen_near m4
  obtain ⟨k1, k0, _⟩ := box_spec (set_right raw) (List.ne_nil_of_mem n1)
  have := k0 d1 n1; have := k0 d2 n2; have := k0 d3 n3; have := k0 d4 n4
  exact ⟨k1, by omega, by omega, by omega, by omega⟩
end Go.Proofs.Ythpaadmpgdglnaa
