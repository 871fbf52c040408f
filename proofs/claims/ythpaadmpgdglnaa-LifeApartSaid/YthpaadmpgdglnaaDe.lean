/- Generations in plain words: what lives, how many, and where; runs that stay within bounds. No program. -/
import Derived.Test.YthpaadmpgdglnaaDc
namespace Go.Proofs.Ythpaadmpgdglnaa
open Go Go.RowKit
set_option linter.unusedVariables false
set_option linter.unusedSimpArgs false
/-- The generation behind l. -/
def genC (l : List Cell) : List Cell := toSet (candAll l)
theorem mem_gen {l : List Cell} {x : Cell} : x ∈ genC l ↔ alive1 l x = true := by
  unfold genC; rw [mem_toSet, mem_candAll]
theorem gen_up (l : List Cell) : UpC (genC l) := up_toSet _
theorem gen_near {l : List Cell} {x : Cell} (h : x ∈ genC l) : ∃ c ∈ l, (c.1 - 1 ≤ x.1 ∧ x.1 ≤ c.1 + 1) ∧ (c.2 - 1 ≤ x.2 ∧ x.2 ≤ c.2 + 1) := by
  obtain ⟨c, hc, hn⟩ := live_near (mem_gen.1 h)
  simp only [nearC, decide_eq_true_eq] at hn
  exact ⟨c, hc, by omega⟩
theorem alive_close {l : List Cell} (hn : l.Nodup) {x : Cell} (h : alive1 l x = true) : 3 ≤ (l.filter fun c => closeC c x).length := by
  have h1 := close_split x l
  have h2 := eqCnt_le hn x
  have h0 : aroundC l x = ((l.filter (nearC x)).length : Int) := rfl
  simp only [alive1, livesB, Bool.or_eq_true, Bool.and_eq_true, decide_eq_true_eq] at h
  rcases h with h | ⟨h3, h⟩
  · rw [h0] at h; omega
  · rw [if_pos h3] at h2; rw [h0] at h; omega
/-! ### how many -/
def nineC (c : Cell) : List Cell := (List.range 9).map (candAt c)
theorem close_nine {c x : Cell} (h : closeC c x = true) : x ∈ nineC c := by
  obtain ⟨a, b⟩ := c
  obtain ⟨p, q⟩ := x
  simp only [closeC, decide_eq_true_eq] at h
  simp only [nineC, List.mem_map, List.mem_range]
  refine ⟨((p - a + 1) + 3 * (q - b + 1)).toNat, by omega, ?_⟩
  simp only [candAt, Prod.mk.injEq]
  omega
def pairs (l m : List Cell) : Nat := (m.map fun x => (l.filter fun c => closeC c x).length).sum
theorem pairs_cons (c : Cell) (l : List Cell) : ∀ m : List Cell, pairs (c :: l) m = (m.filter fun x => closeC c x).length + pairs l m
  | [] => rfl
  | x :: m => by
    have ih := pairs_cons c l m
    have e1 : pairs (c :: l) (x :: m) = ((c :: l).filter fun c => closeC c x).length + pairs (c :: l) m := rfl
    have e2 : pairs l (x :: m) = (l.filter fun c => closeC c x).length + pairs l m := rfl
    rw [e1, e2, ih, List.filter_cons, List.filter_cons]
    by_cases h : closeC c x = true <;> simp [h] <;> omega
theorem pairs_le {m : List Cell} (hm : m.Nodup) : ∀ l : List Cell, pairs l m ≤ 9 * l.length
  | [] => by
    have : ∀ m : List Cell, pairs [] m = 0 := fun m => by
      induction m with
      | nil => rfl
      | cons x m ih => rw [show pairs [] (x :: m) = 0 + pairs [] m from rfl, ih]
    rw [this]; exact Nat.zero_le _
  | c :: l => by
    have h1 := pairs_le hm l
    have h2 := nodup_sub_len (m.filter fun x => closeC c x) (nineC c) (hm.filter _) fun x hx => close_nine (List.mem_filter.1 hx).2
    have h3 : (nineC c).length = 9 := by simp [nineC]
    rw [pairs_cons, List.length_cons]
    omega
theorem pairs_ge {l : List Cell} : ∀ m : List Cell, (∀ x ∈ m, 3 ≤ (l.filter fun c => closeC c x).length) → 3 * m.length ≤ pairs l m
  | [], _ => Nat.zero_le _
  | x :: m, h => by
    have h1 := pairs_ge m fun y hy => h y (by simp [hy])
    have h2 := h x (by simp)
    unfold pairs at *
    rw [List.map_cons, List.sum_cons, List.length_cons]
    omega
theorem gen_len {l : List Cell} (hn : l.Nodup) : (genC l).length ≤ 3 * l.length := by
  have h1 := pairs_ge (l := l) (genC l) fun x hx => alive_close hn (mem_gen.1 hx)
  have h2 := pairs_le (up_nodup (gen_up l)) l
  omega
/-! ### where -/
structure InBox (l : List Cell) (a b : Int) (n m : Nat) : Prop where
  x : ∀ c ∈ l, a ≤ c.1 ∧ c.1 < a + n
  y : ∀ c ∈ l, b ≤ c.2 ∧ c.2 < b + m
def boxL (a b : Int) (m : Nat) : Nat → List Cell
  | 0 => []
  | n + 1 => boxL a b m n ++ (List.range m).map fun (j : Nat) => ((a + (n : Int), b + (j : Int)) : Cell)
theorem boxL_len (a b : Int) (m : Nat) : ∀ n, (boxL a b m n).length = n * m
  | 0 => by simp [boxL]
  | n + 1 => by rw [boxL, List.length_append, boxL_len a b m n, List.length_map, List.length_range, Nat.succ_mul]
theorem mem_boxL {a b : Int} {m : Nat} {c : Cell} (hy : b ≤ c.2 ∧ c.2 < b + m) : ∀ n : Nat, a ≤ c.1 → c.1 < a + n → c ∈ boxL a b m n
  | 0, h1, h2 => by simp at h2; omega
  | n + 1, h1, h2 => by
    rw [boxL, List.mem_append]
    by_cases h : c.1 < a + n
    · exact .inl (mem_boxL hy n h1 h)
    · right
      rw [List.mem_map]
      refine ⟨(c.2 - b).toNat, List.mem_range.2 (by have h0 := hy.1; have h1 := hy.2; omega), ?_⟩
      refine Prod.ext ?_ ?_
      · show a + (n : Int) = c.1; omega
      · show b + ((c.2 - b).toNat : Int) = c.2; omega
theorem InBox.len {l : List Cell} {a b : Int} {n m : Nat} (h : InBox l a b n m) (hn : l.Nodup) : l.length ≤ n * m := by
  rw [← boxL_len a b m n]
  exact nodup_sub_len l _ hn fun c hc => mem_boxL (h.y c hc) n (h.x c hc).1 (h.x c hc).2
theorem InBox.gen {l : List Cell} {a b : Int} {n m : Nat} (h : InBox l a b n m) : InBox (genC l) (a - 1) (b - 1) (n + 2) (m + 2) := by
  constructor <;> intro x hx <;> obtain ⟨c, hc, h1, h2⟩ := gen_near hx <;> have := h.x c hc <;> have := h.y c hc <;> omega
theorem next_gen {l : List Cell} (hr : rightC l = true) (hin : ∀ x ∈ genC l, inC x = true) (hl : (genC l).length ≤ 2000) : nextC l = (genC l, 0) ∧ rightC (genC l) = true := by
  have h1 : ∀ x ∈ candAll l, inC x = true := fun x hx => hin x (mem_gen.2 (mem_candAll.1 hx))
  have h2 : (candAll l).all inC = true := List.all_eq_true.2 h1
  constructor
  · unfold nextC ofC fewC
    rw [if_pos hr, if_pos h2, show (candAll l).foldl putC [] = genC l from rfl, if_pos hl]
  · exact (rightC_iff _).2 ⟨hin, gen_up l, hl⟩
theorem InBox.in {l : List Cell} {a b : Int} {n m : Nat} (h : InBox l a b n m) (ha : -1099511627776 ≤ a ∧ a + n ≤ 1099511627777) (hb : -1099511627776 ≤ b ∧ b + m ≤ 1099511627777) : ∀ x ∈ l, inC x = true := fun x hx => by
  have := h.x x hx
  have := h.y x hx
  exact inC_of (by omega)
/-- k generations. -/
def gens (l : List Cell) : Nat → List Cell
  | 0 => l
  | k + 1 => genC (gens l k)
theorem run_box {l : List Cell} {a b : Int} {n m : Nat} (hr : rightC l = true) (h : InBox l a b n m) : ∀ k : Nat, (n + 2 * k) * (m + 2 * k) ≤ 2000 → (-1099511627776 ≤ a - k ∧ a + n + k ≤ 1099511627777) → (-1099511627776 ≤ b - k ∧ b + m + k ≤ 1099511627777) →
    runN l k = (gens l k, 0) ∧ rightC (gens l k) = true ∧ InBox (gens l k) (a - k) (b - k) (n + 2 * k) (m + 2 * k)
  | 0, _, _, _ => ⟨rfl, hr, by simpa [gens] using h⟩
  | k + 1, hs, ha, hb => by
    have hk : (n + 2 * k) * (m + 2 * k) ≤ 2000 := Nat.le_trans (Nat.mul_le_mul (by omega) (by omega)) hs
    obtain ⟨h1, h2, h3⟩ := run_box hr h k hk (by omega) (by omega)
    have hg := h3.gen
    have e1 : a - (k : Int) - 1 = a - ((k + 1 : Nat) : Int) := by omega
    have e2 : b - (k : Int) - 1 = b - ((k + 1 : Nat) : Int) := by omega
    rw [e1, e2, show n + 2 * k + 2 = n + 2 * (k + 1) by omega, show m + 2 * k + 2 = m + 2 * (k + 1) by omega] at hg
    have hl := hg.len (up_nodup (gen_up _))
    obtain ⟨h4, h5⟩ := next_gen h2 (hg.in (by omega) (by omega)) (by omega)
    refine ⟨?_, h5, hg⟩
    rw [runN_succ (by rw [h1]), h1]
    exact h4
theorem set_inBox (raw : List Cell) : InBox (setC raw) (-8) (-8) 16 16 := ⟨fun c hc => by have := set_bd hc; omega, fun c hc => by have := set_bd hc; omega⟩
/-- A raw set's run of at most fourteen generations. -/
theorem set_run (raw : List Cell) (k : Nat) (hk : k ≤ 14) : runN (setC raw) k = (gens (setC raw) k, 0) ∧ rightC (gens (setC raw) k) = true ∧ InBox (gens (setC raw) k) (-8 - k) (-8 - k) (16 + 2 * k) (16 + 2 * k) :=
  run_box (set_right raw) (set_inBox raw) k (by have := Nat.mul_le_mul (show 16 + 2 * k ≤ 44 by omega) (show 16 + 2 * k ≤ 44 by omega); omega) (by omega) (by omega)
theorem set_next (raw : List Cell) : nextC (setC raw) = (genC (setC raw), 0) ∧ rightC (genC (setC raw)) = true ∧ (genC (setC raw)).length ≤ 3 * (setC raw).length ∧ InBox (genC (setC raw)) (-9) (-9) 18 18 := by
  have hg := (set_inBox raw).gen
  have hl := gen_len (right_nodup (set_right raw))
  have h60 := set_len raw
  obtain ⟨h1, h2⟩ := next_gen (set_right raw) (hg.in (by omega) (by omega)) (by omega)
  exact ⟨h1, h2, hl, hg⟩
/-! ### few cells, and none -/
theorem gen_few {l : List Cell} (hn : l.Nodup) (hl : l.length ≤ 2) : genC l = [] := by
  cases hg : genC l with
  | nil => rfl
  | cons x t =>
    have h1 : x ∈ genC l := by rw [hg]; simp
    have h2 := alive_close hn (mem_gen.1 h1)
    have h3 := List.length_filter_le (fun c => closeC c x) l
    omega
theorem next_few {l : List Cell} (hr : rightC l = true) (hl : l.length ≤ 2) : nextC l = ([], 0) := by
  have hg := gen_few (right_nodup hr) hl
  have := (next_gen hr (by rw [hg]; simp) (by rw [hg]; simp)).1
  rw [this, hg]
theorem right_take {l : List Cell} (hr : rightC l = true) (k : Nat) : rightC (l.take k) = true := by
  obtain ⟨h1, h2, h3⟩ := (rightC_iff l).1 hr
  exact (rightC_iff _).2 ⟨fun x hx => h1 x (List.mem_of_mem_take hx), h2.sublist (List.take_sublist k l), by rw [List.length_take]; omega⟩
theorem right_nil : rightC [] = true := by decide
theorem run_nil : ∀ k : Nat, runN [] k = ([], 0)
  | 0 => rfl
  | k + 1 => by rw [runN_succ (by rw [run_nil k]), run_nil k]; exact next_few right_nil (by simp)
end Go.Proofs.Ythpaadmpgdglnaa
