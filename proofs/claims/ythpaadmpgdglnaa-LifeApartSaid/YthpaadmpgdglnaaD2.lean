/- What the document says of sets: of, with, shifted, boxes, picks. No condition. -/
import Derived.Test.YthpaadmpgdglnaaD1
namespace Go.Proofs.Ythpaadmpgdglnaa
open Go Go.RowKit
theorem putStep_len (c : Cell) (s : List Cell × Bool) (x : Cell) : (putFin c (putStep c s x)).length ≤ (putFin c s).length + 1 := by
  obtain ⟨l, d⟩ := s
  by_cases h1 : x = c
  · cases d <;> simp [putStep, putFin, h1]
  · by_cases h2 : ltC c x = true
    · cases d <;> simp [putStep, putFin, h1, h2]
    · have h2' : ltC c x = false := by simpa using h2
      cases d <;> simp [putStep, putFin, h1, h2']
theorem putFold_len (c : Cell) (l : List Cell) (s : List Cell × Bool) : (putFin c (l.foldl (putStep c) s)).length ≤ (putFin c s).length + l.length := by
  induction l generalizing s with
  | nil => simp
  | cons x l ih =>
    have h1 := ih (putStep c s x)
    have h2 := putStep_len c s x
    simp only [List.foldl_cons, List.length_cons]
    omega
theorem putC_len (l : List Cell) (c : Cell) : (putC l c).length ≤ l.length + 1 := by
  have := putFold_len c l ([], false)
  simp only [putFin, Bool.false_eq_true, if_false, List.nil_append, List.length_cons, List.length_nil] at this
  unfold putC putFin
  omega
theorem putAll_len (m l : List Cell) : (m.foldl putC l).length ≤ l.length + m.length := by
  induction m generalizing l with
  | nil => simp
  | cons x m ih =>
    have h1 := ih (putC l x)
    have h2 := putC_len l x
    simp only [List.foldl_cons, List.length_cons]
    omega
theorem putTake_len (m : List Cell) (i : Nat) : ((m.take i).foldl putC []).length ≤ m.length := by
  have := putAll_len (m.take i) []
  simp only [List.length_take, List.length_nil] at this
  omega

def fewC (l : List Cell) : List Cell × Int := if l.length ≤ 2000 then (l, 0) else ([], 3)
def ofC (l : List Cell) : List Cell × Int := if l.all inC then fewC (l.foldl putC []) else ([], 2)
def withC (l : List Cell) (c : Cell) (alive : Bool) : List Cell × Int :=
  if rightC l then (if inC c then fewC (if alive then putC l c else l.filter fun x => decide (x ≠ c)) else ([], 2)) else ([], 1)
def shOk (dx dy : Int) (c : Cell) : Bool := decide (-2199023255552 ≤ dx) && (decide (dx ≤ 2199023255552) && (decide (-2199023255552 ≤ dy) && (decide (dy ≤ 2199023255552) && inC (c.1 + dx, c.2 + dy))))
def shiftC (l : List Cell) (dx dy : Int) : List Cell × Int :=
  if rightC l then (if l.all (shOk dx dy) then (l.map fun c => (c.1 + dx, c.2 + dy), 0) else ([], 2)) else ([], 1)
def loC (a c : Cell) : Cell := (min a.1 c.1, min a.2 c.2)
def hiC (a c : Cell) : Cell := (max a.1 c.1, max a.2 c.2)
def boxC (l : List Cell) : (Int × Int × Int × Int) × Bool := match l with
  | [] => ((0, 0, 0, 0), false)
  | c :: _ => if rightC l then let a := l.foldl loC c; let b := l.foldl hiC c; ((a.1, a.2, b.1 - a.1 + 1, b.2 - a.2 + 1), true) else ((0, 0, 0, 0), false)
def rawSet (r : Cell) : Cell := (pickI r.1 16 - 8, pickI r.2 16 - 8)
def setC (raw : List Cell) : List Cell := (raw.take 60).foldl (fun l r => putC l (rawSet r)) []

theorem inC_iff (c : Cell) : inC c = true ↔ (-1099511627776 ≤ c.1 ∧ c.1 ≤ 1099511627776 ∧ -1099511627776 ≤ c.2 ∧ c.2 ≤ 1099511627776) := by
  simp [inC]
theorem right_in {l : List Cell} (h : rightC l = true) {i : Nat} {c : Cell} (hc : l[i]? = some c) : -1099511627776 ≤ c.1 ∧ c.1 ≤ 1099511627776 ∧ -1099511627776 ≤ c.2 ∧ c.2 ≤ 1099511627776 := by
  rw [← inC_iff]
  simp only [rightC, Bool.and_eq_true, List.all_eq_true, List.mem_range] at h
  have := h.1 i (List.getElem?_eq_some_iff.1 hc).1
  simp only [okAt, hc, Bool.and_eq_true] at this
  exact this.1
theorem right_len {l : List Cell} (h : rightC l = true) : l.length ≤ 2000 := by
  simp only [rightC, Bool.and_eq_true, decide_eq_true_eq] at h
  exact h.2
theorem pickI_bd (c n : Int) (h : 0 < n) : 0 ≤ pickI c n ∧ pickI c n < n := ⟨Int.emod_nonneg _ (by omega), Int.emod_lt_of_pos _ h⟩
theorem putFold_lenG (f : Cell → Cell) (m l : List Cell) : (m.foldl (fun l r => putC l (f r)) l).length ≤ l.length + m.length := by
  induction m generalizing l with
  | nil => simp
  | cons x m ih =>
    have h1 := ih (putC l (f x))
    have h2 := putC_len l (f x)
    simp only [List.foldl_cons, List.length_cons]
    omega
theorem setTake_len (f : Cell → Cell) (m : List Cell) (i : Nat) : ((m.take i).foldl (fun l r => putC l (f r)) []).length ≤ i := by
  have := putFold_lenG f (m.take i) []
  simp only [List.length_take, List.length_nil] at this
  omega
theorem take_cap {α : Type} {l : List α} {i n : Nat} (h : i ≤ n) (h2 : l.length ≤ i ∨ n ≤ i) : l.take i = l.take n := by
  rcases h2 with h2 | h2
  · rw [List.take_of_length_le h2, List.take_of_length_le (by omega)]
  · rw [show i = n by omega]
theorem filter_take_succ {p : Cell → Bool} {l : List Cell} {i : Nat} {c : Cell} (h : l[i]? = some c) : (l.take (i + 1)).filter p = (l.take i).filter p ++ (if p c then [c] else []) := by
  rw [List.take_add_one, List.filter_append, h]
  cases hp : p c <;> simp [hp]
theorem map_take_succ {f : Cell → Cell} {l : List Cell} {i : Nat} {c : Cell} (h : l[i]? = some c) : (l.take (i + 1)).map f = (l.take i).map f ++ [f c] := by
  rw [List.take_add_one, List.map_append, h]
  rfl
end Go.Proofs.Ythpaadmpgdglnaa
