/- What the document says of squares, and of what lives, in plain words. No condition. -/
import Derived.Test.YthpaadmpgdglnaaD1
import Derived.Test.YthpaadmpgdglnaaD2
namespace Go.Proofs.Ythpaadmpgdglnaa
open Go Go.RowKit
def sideI (lv : Int) : Int := 1 * 2 ^ (lv - 1).toNat
theorem pow62 {n : Nat} (h : n ≤ 62) : (1 : Int) ≤ 2 ^ n ∧ (2 : Int) ^ n ≤ 4611686018427387904 := by
  have h1 : 2 ^ n ≤ 2 ^ 62 := Nat.pow_le_pow_right (by decide) h
  have h2 : 1 ≤ 2 ^ n := Nat.one_le_two_pow
  have e : ((2 ^ n : Nat) : Int) = (2 : Int) ^ n := by simp
  rw [← e]
  have h3 : (2 : Nat) ^ 62 = 4611686018427387904 := by decide
  omega
def inSq (lv : Int) (c : Cell) : Bool := decide (-sideI lv ≤ c.1) && (decide (c.1 < sideI lv) && (decide (-sideI lv ≤ c.2) && decide (c.2 < sideI lv)))
def cornerC (l : List Cell) (lv : Int) : List Cell := l.map fun c => (c.1 + sideI lv, c.2 + sideI lv)
def livesB (alive : Bool) (n : Int) : Bool := decide (n = 3) || (alive && decide (n = 2))
def nearC (c x : Cell) : Bool := decide (-1 ≤ x.1 - c.1 ∧ x.1 - c.1 ≤ 1 ∧ -1 ≤ x.2 - c.2 ∧ x.2 - c.2 ≤ 1 ∧ x ≠ c)
def aroundC (l : List Cell) (c : Cell) : Int := (l.filter (nearC c)).length
theorem around_yes {l : List Cell} {c x : Cell} {i : Nat} {n : Int} (hn : n = aroundC (l.take i) c) (h : l[i]? = some x) (hx : nearC c x = true) : n + 1 = aroundC (l.take (i + 1)) c := by
  unfold aroundC at *
  rw [filter_take_succ h, if_pos hx, hn, List.length_append]
  simp
theorem around_no {l : List Cell} {c x : Cell} {i : Nat} {n : Int} (hn : n = aroundC (l.take i) c) (h : l[i]? = some x) (hx : nearC c x = false) : n = aroundC (l.take (i + 1)) c := by
  unfold aroundC at *
  rw [filter_take_succ h, if_neg (by simp [hx]), hn, List.append_nil]
theorem near_yes {c x : Cell} (h : -1 ≤ x.1 - c.1 ∧ x.1 - c.1 ≤ 1 ∧ -1 ≤ x.2 - c.2 ∧ x.2 - c.2 ≤ 1 ∧ x ≠ c) : nearC c x = true := decide_eq_true h
theorem near_no {c x : Cell} (h : ¬ (-1 ≤ x.1 - c.1 ∧ x.1 - c.1 ≤ 1 ∧ -1 ≤ x.2 - c.2 ∧ x.2 - c.2 ≤ 1)) : nearC c x = false := decide_eq_false fun k => h ⟨k.1, k.2.1, k.2.2.1, k.2.2.2.1⟩
theorem near_same {c x : Cell} (h : ¬ x ≠ c) : nearC c x = false := decide_eq_false fun k => h k.2.2.2.2
end Go.Proofs.Ythpaadmpgdglnaa
