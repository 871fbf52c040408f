/- Sets that are far apart live as if alone; a block and a blinker. No program. -/
import Derived.Test.YthpaadmpgdglnaaDh
namespace Go.Proofs.Ythpaadmpgdglnaa
open Go Go.RowKit
set_option linter.unusedVariables false
/-- U is A and B together. -/
def Both (U A B : List Cell) : Prop := ∀ x, x ∈ U ↔ x ∈ A ∨ x ∈ B
/-- Between A and B lie more than two columns. -/
def Gap (A B : List Cell) (s : Int) : Prop := (∀ a ∈ A, a.1 + 1 < s) ∧ ∀ b ∈ B, s < b.1 - 1
theorem near_col {x c : Cell} (h : nearC x c = true) : x.1 - 1 ≤ c.1 ∧ c.1 ≤ x.1 + 1 := by
  simp only [nearC, decide_eq_true_eq] at h; omega
theorem around_part {U A : List Cell} (hU : U.Nodup) (hA : A.Nodup) {x : Cell} (h : ∀ c, nearC x c = true → (c ∈ U ↔ c ∈ A)) : aroundC U x = aroundC A x := by
  have h1 := nodup_sub_len _ _ (hU.filter (nearC x)) fun c hc => by
    obtain ⟨h1, h2⟩ := List.mem_filter.1 hc
    exact List.mem_filter.2 ⟨(h c h2).1 h1, h2⟩
  have h2 := nodup_sub_len _ _ (hA.filter (nearC x)) fun c hc => by
    obtain ⟨h1, h2⟩ := List.mem_filter.1 hc
    exact List.mem_filter.2 ⟨(h c h2).2 h1, h2⟩
  unfold aroundC
  omega
theorem alive_part {U A : List Cell} (hU : U.Nodup) (hA : A.Nodup) {x : Cell} (hx : x ∈ U ↔ x ∈ A) (h : ∀ c, nearC x c = true → (c ∈ U ↔ c ∈ A)) : alive1 U x = alive1 A x := by
  have e : hasC U x = hasC A x := by rw [Bool.eq_iff_iff, hasC_iff, hasC_iff]; exact hx
  unfold alive1
  rw [e, around_part hU hA h]
theorem both_gen {U A B : List Cell} {s : Int} (hU : U.Nodup) (hA : A.Nodup) (hB : B.Nodup) (h : Both U A B) (hg : Gap A B s) : Both (genC U) (genC A) (genC B) := fun x => by
  rw [mem_gen, mem_gen, mem_gen]
  have hl : ∀ c, c.1 ≤ s → (c ∈ U ↔ c ∈ A) := fun c hc => by
    rw [h]
    exact ⟨fun k => k.elim id fun k => by have := hg.2 c k; omega, .inl⟩
  have hr : ∀ c, s ≤ c.1 → (c ∈ U ↔ c ∈ B) := fun c hc => by
    rw [h]
    exact ⟨fun k => k.elim (fun k => by have := hg.1 c k; omega) id, .inr⟩
  have hno : ∀ {M : List Cell}, (∀ c ∈ M, nearC x c = false) → alive1 M x = false := fun {M} hM => by
    cases ha : alive1 M x with
    | false => rfl
    | true =>
      obtain ⟨c, hc, hn⟩ := live_near ha
      rw [hM c hc] at hn; cases hn
  rcases Int.lt_or_le x.1 s with hs | hs
  · have e := alive_part hU hA (hl x (by omega)) fun c hc => hl c (by have := near_col hc; omega)
    have e2 : alive1 B x = false := hno fun c hc => by
      cases hn : nearC x c with
      | false => rfl
      | true => have := near_col hn; have := hg.2 c hc; omega
    rw [e, e2]; simp
  · have e := alive_part hU hB (hr x (by omega)) fun c hc => by
      by_cases hcs : s ≤ c.1
      · exact hr c hcs
      · have := near_col hc
        have hx1 : ¬ c ∈ A := fun k => by have := hg.1 c k; omega
        have hx2 : ¬ c ∈ B := fun k => by have := hg.2 c k; omega
        rw [h]
        exact ⟨fun k => k.elim (fun k => absurd k hx1) id, .inr⟩
    have e2 : alive1 A x = false := hno fun c hc => by
      cases hn : nearC x c with
      | false => rfl
      | true => have := near_col hn; have := hg.1 c hc; omega
    rw [e, e2]; simp
/-- k generations of two sets far apart. -/
theorem both_gens {U A B : List Cell} {s : Int} (hU : U.Nodup) (hA : A.Nodup) (hB : B.Nodup) (h : Both U A B) : ∀ k : Nat, (∀ a ∈ A, a.1 + 1 + k ≤ s) → (∀ b ∈ B, s ≤ b.1 - 1 - k) →
    Both (gens U k) (gens A k) (gens B k) ∧ (∀ a ∈ gens A k, a.1 + 1 ≤ s) ∧ (∀ b ∈ gens B k, s ≤ b.1 - 1) := fun k => by
  have ext : ∀ (M : List Cell) (k : Nat) (f : Int), (∀ a ∈ M, a.1 ≤ f) → ∀ a ∈ gens M k, a.1 ≤ f + k := fun M k f hM => by
    induction k with
    | zero => simpa [gens] using hM
    | succ k ih =>
      intro a ha
      obtain ⟨c, hc, h1, _⟩ := gen_near ha
      have := ih c hc
      omega
  have ext2 : ∀ (M : List Cell) (k : Nat) (f : Int), (∀ a ∈ M, f ≤ a.1) → ∀ a ∈ gens M k, f - k ≤ a.1 := fun M k f hM => by
    induction k with
    | zero => simpa [gens] using hM
    | succ k ih =>
      intro a ha
      obtain ⟨c, hc, h1, _⟩ := gen_near ha
      have := ih c hc
      omega
  intro h1 h2
  have hall : ∀ j : Nat, j ≤ k → Both (gens U j) (gens A j) (gens B j) := fun j hj => by
    induction j with
    | zero => exact h
    | succ j ih =>
      refine both_gen (s := s) (gens_nodup hU j) (gens_nodup hA j) (gens_nodup hB j) (ih (by omega)) ⟨fun a ha => ?_, fun b hb => ?_⟩
      · have := ext A j (s - 1 - k) (fun a ha => by have := h1 a ha; omega) a ha; omega
      · have := ext2 B j (s + 1 + k) (fun a ha => by have := h2 a ha; omega) b hb; omega
  refine ⟨hall k (Nat.le_refl k), fun a ha => ?_, fun b hb => ?_⟩
  · have := ext A k (s - 1 - k) (fun a ha => by have := h1 a ha; omega) a ha; omega
  · have := ext2 B k (s + 1 + k) (fun a ha => by have := h2 a ha; omega) b hb; omega
/-! ### runs by what is known of each generation -/
theorem run_any {l : List Cell} (hr : rightC l = true) : ∀ k : Nat, (∀ j, j ≤ k → (∀ x ∈ gens l j, inC x = true) ∧ (gens l j).length ≤ 2000) → runN l k = (gens l k, 0) ∧ rightC (gens l k) = true
  | 0, _ => ⟨rfl, hr⟩
  | k + 1, h => by
    obtain ⟨h1, h2⟩ := run_any hr k fun j hj => h j (by omega)
    obtain ⟨h3, h4⟩ := h (k + 1) (Nat.le_refl _)
    obtain ⟨h5, h6⟩ := next_gen h2 h3 h4
    exact ⟨by rw [runN_succ (by rw [h1]), h1]; exact h5, h6⟩
theorem gen_map_sh (p q : Int) {M : List Cell} (hn : UpC M) : genC (M.map (shC p q)) = (genC M).map (shC p q) := by
  have him : ∀ L : List Cell, Img (shC (-p) (-q)) L (L.map (shC p q)) := fun L y => by
    rw [List.mem_map]
    constructor
    · rintro ⟨x, hx, rfl⟩; rw [(iso_sh p q).gf]; exact hx
    · exact fun h => ⟨_, h, (iso_sh p q).fg y⟩
  have h1 := img_gen (iso_sh p q) (up_nodup hn) (up_nodup (up_map (ltC_sh p q) hn)) (him M)
  exact up_ext (gen_up _) (up_map (ltC_sh p q) (gen_up M)) fun y => by rw [h1 y, him (genC M) y]
/-! ### a block, a blinker -/
def blockC (p q : Int) : List Cell := [(p, q), (p + 1, q), (p, q + 1), (p + 1, q + 1)]
def lineC (p q : Int) : List Cell := [(p, q), (p + 1, q), (p + 2, q)]
theorem block_map (p q : Int) : blockC p q = [((0 : Int), (0 : Int)), (1, 0), (0, 1), (1, 1)].map (shC p q) := by simp [blockC, shC, Int.add_comm]
theorem line_map (p q : Int) : lineC p q = [((0 : Int), (0 : Int)), (1, 0), (2, 0)].map (shC p q) := by simp [lineC, shC, Int.add_comm]
theorem block0_up : UpC [((0 : Int), (0 : Int)), (1, 0), (0, 1), (1, 1)] := by unfold UpC; decide
theorem line0_up : UpC [((0 : Int), (0 : Int)), (1, 0), (2, 0)] := by unfold UpC; decide
theorem block_up (p q : Int) : UpC (blockC p q) := by rw [block_map]; exact up_map (ltC_sh p q) block0_up
theorem line_up (p q : Int) : UpC (lineC p q) := by rw [line_map]; exact up_map (ltC_sh p q) line0_up
theorem block_gen (p q : Int) : genC (blockC p q) = blockC p q := by
  rw [block_map, gen_map_sh p q block0_up, show genC [((0 : Int), (0 : Int)), (1, 0), (0, 1), (1, 1)] = [((0 : Int), (0 : Int)), (1, 0), (0, 1), (1, 1)] from by decide +kernel]
theorem line_gen2 (p q : Int) : genC (genC (lineC p q)) = lineC p q := by
  rw [line_map, gen_map_sh p q line0_up, gen_map_sh p q (gen_up _), show genC (genC [((0 : Int), (0 : Int)), (1, 0), (2, 0)]) = [((0 : Int), (0 : Int)), (1, 0), (2, 0)] from by decide +kernel]
theorem block_gens (p q : Int) : ∀ k, gens (blockC p q) k = blockC p q
  | 0 => rfl
  | k + 1 => by rw [gens, block_gens p q k, block_gen]
theorem line_gens (p q : Int) : ∀ k, gens (lineC p q) (2 * k) = lineC p q
  | 0 => rfl
  | k + 1 => by rw [show 2 * (k + 1) = 2 * k + 1 + 1 by omega, gens, gens, line_gens p q k, line_gen2]
theorem still_law (raw : List Cell) (p q k : Int) (hp : 0 ≤ p ∧ p < 1000) (hq : 0 ≤ q ∧ q < 1000) (hk : 0 ≤ k ∧ k < 11) :
    runC (blockC p q) k = (blockC p q, 0) ∧ runC (lineC p q) (2 * k) = (lineC p q, 0) ∧ (shiftC (setC raw) (p - 60) q).1.length ≤ 60 ∧
    (runC ((shiftC (setC raw) (p - 60) q).1.foldl putC (blockC p q)) k).2 = 0 ∧ ∀ c ∈ blockC p q, hasC (runC ((shiftC (setC raw) (p - 60) q).1.foldl putC (blockC p q)) k).1 c = true := by
  have hbB : InBox (blockC p q) p q 2 2 := by constructor <;> simp [blockC] <;> omega
  have hbL : InBox (lineC p q) p q 3 1 := by constructor <;> simp [lineC] <;> omega
  have hrB : rightC (blockC p q) = true := (rightC_iff _).2 ⟨hbB.in (by omega) (by omega), block_up p q, by simp [blockC]⟩
  have hrL : rightC (lineC p q) = true := (rightC_iff _).2 ⟨hbL.in (by omega) (by omega), line_up p q, by simp [lineC]⟩
  have b1 := (run_box hrB hbB k.toNat (by have := Nat.mul_le_mul (show 2 + 2 * k.toNat ≤ 22 by omega) (show 2 + 2 * k.toNat ≤ 22 by omega); omega) (by omega) (by omega)).1
  rw [block_gens] at b1
  have l1 := (run_box hrL hbL (2 * k.toNat) (by have := Nat.mul_le_mul (show 3 + 2 * (2 * k.toNat) ≤ 43 by omega) (show 1 + 2 * (2 * k.toNat) ≤ 41 by omega); omega) (by omega) (by omega)).1
  rw [line_gens] at l1
  have h60 := set_len raw
  have hin : ∀ c ∈ setC raw, inC (shC (p - 60) q c) = true := sh_in (by omega) (by omega)
  have hs := shift_ok (set_right raw) (dx := p - 60) (dy := q) (by omega) hin
  have hrm := right_map (set_right raw) hin
  rw [hs]
  simp only
  have hbM : InBox ((setC raw).map (shC (p - 60) q)) (p - 68) (q - 8) 16 16 := by
    constructor <;> intro c hc <;> obtain ⟨d, hd, rfl⟩ := List.mem_map.1 hc <;> have := set_bd hd <;> simp only [shC] <;> omega
  have hU : UpC (((setC raw).map (shC (p - 60) q)).foldl putC (blockC p q)) := up_putAll (block_up p q)
  have hboth : Both (((setC raw).map (shC (p - 60) q)).foldl putC (blockC p q)) ((setC raw).map (shC (p - 60) q)) (blockC p q) := fun x => by
    rw [mem_putAll]; exact Or.comm
  have hlen := putAll_len ((setC raw).map (shC (p - 60) q)) (blockC p q)
  have hbl : (blockC p q).length = 4 := rfl
  rw [List.length_map] at hlen ⊢
  have hrU : rightC (((setC raw).map (shC (p - 60) q)).foldl putC (blockC p q)) = true := (rightC_iff _).2 ⟨fun x hx => ((hboth x).1 hx).elim (((rightC_iff _).1 hrm).1 x) (((rightC_iff _).1 hrB).1 x), hU, by omega⟩
  have hg : ∀ j : Nat, j ≤ k.toNat → Both (gens (((setC raw).map (shC (p - 60) q)).foldl putC (blockC p q)) j) (gens ((setC raw).map (shC (p - 60) q)) j) (blockC p q) := fun j hj => by
    have := (both_gens (s := p - 30) (up_nodup hU) (right_nodup hrm) (right_nodup hrB) hboth j (fun a ha => by have := hbM.x a ha; omega) (fun b hb => by have := hbB.x b hb; omega)).1
    rwa [block_gens] at this
  have hM : ∀ j : Nat, j ≤ k.toNat → InBox (gens ((setC raw).map (shC (p - 60) q)) j) (p - 68 - j) (q - 8 - j) (16 + 2 * j) (16 + 2 * j) ∧ (gens ((setC raw).map (shC (p - 60) q)) j).length ≤ 1296 := fun j hj => by
    obtain ⟨_, h2, h3⟩ := run_box hrm hbM j (by have := Nat.mul_le_mul (show 16 + 2 * j ≤ 36 by omega) (show 16 + 2 * j ≤ 36 by omega); omega) (by omega) (by omega)
    have h4 := h3.len (right_nodup h2)
    have := Nat.mul_le_mul (show 16 + 2 * j ≤ 36 by omega) (show 16 + 2 * j ≤ 36 by omega)
    exact ⟨h3, by omega⟩
  have hrun := run_any hrU k.toNat fun j hj => by
    obtain ⟨h1, h2⟩ := hM j hj
    refine ⟨fun x hx => ?_, ?_⟩
    · rcases (hg j hj x).1 hx with h | h
      · exact h1.in (by omega) (by omega) x h
      · exact hbB.in (by omega) (by omega) x h
    · have := nodup_sub_len _ (gens ((setC raw).map (shC (p - 60) q)) j ++ blockC p q) (gens_nodup (up_nodup hU) j) fun x hx => List.mem_append.2 ((hg j hj x).1 hx)
      rw [List.length_append] at this
      omega
  have e := runC_of hrU (n := k) (by omega) hrun.1
  rw [e]
  simp only
  refine ⟨runC_of hrB (by omega) b1, runC_of hrL (by omega) (by rw [show (2 * k).toNat = 2 * k.toNat by omega]; exact l1), h60, trivial, fun c hc => ?_⟩
  exact has_iff.2 ((hg k.toNat (Nat.le_refl _) c).2 (.inr hc))
end Go.Proofs.Ythpaadmpgdglnaa
