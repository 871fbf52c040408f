/- What is said of sets of cells, in plain words. No condition. -/
import Derived.Test.YthpaadmpgdglnaaK6
namespace Go.Proofs.Ythpaadmpgdglnaa
open Go Go.RowKit
def ltC (a b : Cell) : Bool := decide (a.2 < b.2) || (decide (a.2 = b.2) && decide (a.1 < b.1))
def inC (c : Cell) : Bool := decide (-1099511627776 ≤ c.1) && (decide (c.1 ≤ 1099511627776) && (decide (-1099511627776 ≤ c.2) && decide (c.2 ≤ 1099511627776)))
def hasC (l : List Cell) (c : Cell) : Bool := l.any fun x => decide (x = c)
def sameC (a b : List Cell) : Bool := decide (a = b)
def okAt (l : List Cell) (i : Nat) : Bool := match l[i]? with
  | none => true
  | some c => inC c && (decide (i = 0) || match l[i - 1]? with
    | none => true
    | some b => ltC b c)
def rightC (l : List Cell) : Bool := (List.range l.length).all (okAt l) && decide (l.length ≤ 2000)
def putStep (c : Cell) (s : List Cell × Bool) (x : Cell) : List Cell × Bool :=
  let t := if !s.2 && (decide (x = c) || ltC c x) then (s.1 ++ [c], true) else s
  (if x ≠ c then t.1 ++ [x] else t.1, t.2)
def putFin (c : Cell) (s : List Cell × Bool) : List Cell := if s.2 then s.1 else s.1 ++ [c]
def putC (l : List Cell) (c : Cell) : List Cell := putFin c (l.foldl (putStep c) ([], false))
def pickI (c n : Int) : Int := (if c < 0 then -(c + 1) else c) % n

theorem range_all_succ {p : Nat → Bool} {n : Nat} : (List.range (n + 1)).all p = ((List.range n).all p && p n) := by
  rw [List.range_succ, List.all_append]
  simp
theorem range_stop {p : Nat → Bool} {n i : Nat} (hi : i < n) (hp : p i = false) : (List.range n).all p = false := by
  rw [List.all_eq_false]
  exact ⟨i, List.mem_range.2 hi, by simp [hp]⟩
end Go.Proofs.Ythpaadmpgdglnaa
