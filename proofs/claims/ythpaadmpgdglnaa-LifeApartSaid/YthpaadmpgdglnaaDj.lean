/- The speed of a diagonal: two generations reach one diagonal further at most. No program. -/
import Derived.Test.YthpaadmpgdglnaaDi
namespace Go.Proofs.Ythpaadmpgdglnaa
open Go Go.RowKit
set_option linter.unusedVariables false
theorem near_filter {l : List Cell} {x c : Cell} : c ∈ l.filter (nearC x) ↔ c ∈ l ∧ nearC x c = true := List.mem_filter
/-- A cell that lives has two or three neighbours; if it was not there, three. -/
theorem alive_around {l : List Cell} {x : Cell} (h : alive1 l x = true) : 2 ≤ (l.filter (nearC x)).length ∧ (l.filter (nearC x)).length ≤ 3 ∧ (¬ x ∈ l → (l.filter (nearC x)).length = 3) := by
  have h0 : aroundC l x = ((l.filter (nearC x)).length : Int) := rfl
  simp only [alive1, livesB, Bool.or_eq_true, Bool.and_eq_true, decide_eq_true_eq, hasC_iff] at h
  rw [h0] at h
  rcases h with h | ⟨h1, h⟩
  · exact ⟨by omega, by omega, fun _ => by omega⟩
  · exact ⟨by omega, by omega, fun hn => absurd h1 hn⟩
/-- On the first diagonal behind all cells: the three cells behind it were there. -/
theorem front {l : List Cell} (hn : l.Nodup) {s : Int} (hs : ∀ c ∈ l, c.1 + c.2 ≤ s) {a b : Int} (hab : a + b = s + 1) (h : alive1 l (a, b) = true) : (a - 1, b) ∈ l ∧ (a, b - 1) ∈ l ∧ (a - 1, b - 1) ∈ l := by
  have hx : ¬ ((a, b) : Cell) ∈ l := fun k => by have := hs _ k; simp only at this; omega
  have h3 := (alive_around h).2.2 hx
  have hsub : ∀ c ∈ l.filter (nearC (a, b)), c = (a - 1, b) ∨ c = (a, b - 1) ∨ c = (a - 1, b - 1) := fun c hc => by
    obtain ⟨h1, h2⟩ := near_filter.1 hc
    have := hs c h1
    obtain ⟨p, q⟩ := c
    simp only [nearC, decide_eq_true_eq, ne_eq, Prod.mk.injEq] at h2 this ⊢
    omega
  have key : ∀ c d e : Cell, (∀ x ∈ l.filter (nearC (a, b)), x = c ∨ x = d ∨ x = e) → c ∈ l := fun c d e hh => by
    by_cases hc : c ∈ l
    · exact hc
    · exfalso
      have := nodup_sub_len (l.filter (nearC (a, b))) [d, e] (hn.filter _) fun x hx => by
        rcases hh x hx with rfl | rfl | rfl
        · exact absurd (near_filter.1 hx).1 hc
        · simp
        · simp
      simp only [List.length_cons, List.length_nil] at this
      omega
  exact ⟨key _ _ _ hsub, key _ (a - 1, b) (a - 1, b - 1) fun x hx => by rcases hsub x hx with h | h | h <;> simp [h], key _ (a - 1, b) (a, b - 1) fun x hx => by rcases hsub x hx with h | h | h <;> simp [h]⟩
theorem diag_one {l : List Cell} (hn : l.Nodup) {s : Int} (hs : ∀ c ∈ l, c.1 + c.2 ≤ s) : ∀ c ∈ genC l, c.1 + c.2 ≤ s + 1 := fun c hc => by
  obtain ⟨a, b⟩ := c
  have h := mem_gen.1 hc
  have h2 := (alive_around h).1
  by_cases hle : a + b ≤ s + 1
  · exact hle
  · exfalso
    have := nodup_sub_len (l.filter (nearC (a, b))) [(a - 1, b - 1)] (hn.filter _) fun x hx => by
      obtain ⟨h1, h2⟩ := near_filter.1 hx
      have := hs x h1
      obtain ⟨p, q⟩ := x
      simp only [nearC, decide_eq_true_eq, ne_eq, Prod.mk.injEq] at h2 this
      simp only [List.mem_singleton, Prod.mk.injEq]
      omega
    simp only [List.length_cons, List.length_nil] at this
    omega
/-- Two generations. -/
theorem diag_two {l : List Cell} (hn : l.Nodup) {s : Int} (hs : ∀ c ∈ l, c.1 + c.2 ≤ s) : ∀ c ∈ genC (genC l), c.1 + c.2 ≤ s + 1 := fun c hc => by
  have h1 := diag_one hn hs
  have h2 := diag_one (up_nodup (gen_up l)) h1 c hc
  obtain ⟨a, b⟩ := c
  simp only at h2 ⊢
  by_cases hle : a + b ≤ s + 1
  · exact hle
  · exfalso
    obtain ⟨f1, f2, f3⟩ := front (up_nodup (gen_up l)) h1 (show a + b = s + 1 + 1 by omega) (mem_gen.1 hc)
    obtain ⟨g1, g2, g3⟩ := front hn hs (show a - 1 + b = s + 1 by omega) (mem_gen.1 f1)
    obtain ⟨k1, k2, k3⟩ := front hn hs (show a + (b - 1) = s + 1 by omega) (mem_gen.1 f2)
    have h3 := (alive_around (mem_gen.1 f3)).2.1
    have := nodup_sub_len [((a - 1 - 1, b) : Cell), (a - 1 - 1, b - 1), (a, b - 1 - 1), (a - 1, b - 1 - 1)] (l.filter (nearC (a - 1, b - 1))) (by
      simp only [List.nodup_cons, List.mem_cons, Prod.mk.injEq, List.not_mem_nil, or_false, not_or, List.nodup_nil, and_true, not_false_eq_true]
      omega) fun x hx => by
        simp only [List.mem_cons, List.not_mem_nil, or_false] at hx
        rcases hx with rfl | rfl | rfl | rfl <;> refine near_filter.2 ⟨by assumption, decide_eq_true ?_⟩ <;> simp only [ne_eq, Prod.mk.injEq] <;> omega
    simp only [List.length_cons, List.length_nil] at this
    omega
theorem diag_gens {l : List Cell} (hn : l.Nodup) {s : Int} (hs : ∀ c ∈ l, c.1 + c.2 ≤ s) : ∀ k : Nat, (∀ c ∈ gens l (2 * k), c.1 + c.2 ≤ s + k) ∧ (∀ c ∈ gens l (2 * k + 1), c.1 + c.2 ≤ s + k + 1)
  | 0 => ⟨by simpa [gens] using hs, by have := diag_one hn hs; simpa [gens] using this⟩
  | k + 1 => by
    have ih := (diag_gens hn hs k).1
    have h1 := diag_two (gens_nodup hn (2 * k)) ih
    have e : gens l (2 * (k + 1)) = genC (genC (gens l (2 * k))) := rfl
    have h2 := diag_one (up_nodup (gen_up _)) h1
    refine ⟨fun c hc => by rw [e] at hc; have := h1 c hc; omega, fun c hc => ?_⟩
    have e2 : gens l (2 * (k + 1) + 1) = genC (genC (genC (gens l (2 * k)))) := rfl
    rw [e2] at hc
    have := h2 c hc
    omega
theorem diag_12 {l : List Cell} (hn : l.Nodup) {s : Int} (hs : ∀ c ∈ l, c.1 + c.2 ≤ s) (k : Nat) (hk : k ≤ 12) : ∀ c ∈ gens l k, c.1 + c.2 ≤ s + 6 := fun c hc => by
  by_cases he : k % 2 = 0
  · obtain ⟨h1, _⟩ := diag_gens hn hs (k / 2)
    rw [show 2 * (k / 2) = k by omega] at h1
    have := h1 c hc; omega
  · obtain ⟨_, h1⟩ := diag_gens hn hs (k / 2)
    rw [show 2 * (k / 2) + 1 = k by omega] at h1
    have := h1 c hc; omega
theorem diag_iso {F G : Cell → Cell} (h : Iso F G) {l : List Cell} (hn : l.Nodup) {s : Int} (hs : ∀ c ∈ l, (F c).1 + (F c).2 ≤ s) (k : Nat) (hk : k ≤ 12) : ∀ c ∈ gens l k, (F c).1 + (F c).2 ≤ s + 6 := fun c hc => by
  have hinj : ∀ x y, F x = F y → x = y := fun x y e => by rw [← h.gf x, ← h.gf y, e]
  have hn' : (l.map F).Nodup := nodup_map_on hn fun x _ y _ => hinj x y
  have hi : Img G l (l.map F) := fun y => by
    rw [List.mem_map]
    constructor
    · rintro ⟨x, hx, rfl⟩; rw [h.gf]; exact hx
    · exact fun hy => ⟨_, hy, h.fg y⟩
  have h1 := diag_12 (l := l.map F) hn' (s := s) (fun y hy => by obtain ⟨x, hx, rfl⟩ := List.mem_map.1 hy; exact hs x hx) k hk
  exact h1 (F c) ((img_gens h hn hn' hi k (F c)).2 (by rw [h.gf]; exact hc))
def inOct (c : Cell) : Bool := decide (c.1 + c.2 ≤ 20) && (decide (c.1 - c.2 ≤ 21) && (decide (-c.1 - c.2 ≤ 22) && decide (c.2 - c.1 ≤ 21)))
theorem oct_count : ((boxL (-20) (-20) 40 40).filter inOct).length = 916 := by decide +kernel
theorem set_916 (raw : List Cell) (k : Nat) (hk : k ≤ 12) : (gens (setC raw) k).length ≤ 916 := by
  have hn := right_nodup (set_right raw)
  obtain ⟨_, h2, h3⟩ := set_run raw k (by omega)
  have d0 := diag_iso iso_id hn (s := 14) (fun c hc => by have := set_bd hc; omega) k hk
  have d1 := diag_iso iso_rot hn (s := 15) (fun c hc => by have := set_bd hc; simp only [rot]; omega) k hk
  have d2 := diag_iso (iso_rot.comp iso_rot) hn (s := 16) (fun c hc => by have := set_bd hc; simp only [rot]; omega) k hk
  have d3 := diag_iso ((iso_rot.comp iso_rot).comp iso_rot) hn (s := 15) (fun c hc => by have := set_bd hc; simp only [rot]; omega) k hk
  rw [← oct_count]
  refine nodup_sub_len _ _ (right_nodup h2) fun c hc => ?_
  have hx := h3.x c hc
  have hy := h3.y c hc
  have e0 := d0 c hc
  have e1 := d1 c hc
  have e2 := d2 c hc
  have e3 := d3 c hc
  simp only [rot] at e0 e1 e2 e3
  refine List.mem_filter.2 ⟨mem_boxL (by omega) 40 (by omega) (by omega), ?_⟩
  simp only [inOct, Bool.and_eq_true, decide_eq_true_eq]
  omega
theorem gens_map_sh (p q : Int) {M : List Cell} (hn : UpC M) : ∀ k, gens (M.map (shC p q)) k = (gens M k).map (shC p q)
  | 0 => rfl
  | k + 1 => by rw [gens, gens_map_sh p q hn k, gen_map_sh p q (gens_up hn k)]; rfl
/-- The law. -/
theorem apart_law (one two : List Cell) (k : Int) (hk : 0 ≤ k ∧ k < 13) :
    (shiftC (setC two) (17 + 2 * k) 0).1.length ≤ 60 ∧ (runC (setC one) k).2 = 0 ∧ (runC (shiftC (setC two) (17 + 2 * k) 0).1 k).2 = 0 ∧ (runC ((shiftC (setC two) (17 + 2 * k) 0).1.foldl putC (setC one)) k).2 = 0 ∧
    (runC (setC one) k).1.length ≤ 2000 ∧ (runC (shiftC (setC two) (17 + 2 * k) 0).1 k).1.length ≤ 2000 ∧
    sameC (runC ((shiftC (setC two) (17 + 2 * k) 0).1.foldl putC (setC one)) k).1 ((runC (shiftC (setC two) (17 + 2 * k) 0).1 k).1.foldl putC (runC (setC one) k).1) = true := by
  have h61 := set_len one
  have h62 := set_len two
  have hin : ∀ c ∈ setC two, inC (shC (17 + 2 * k) 0 c) = true := sh_in (by omega) (by omega)
  have hs := shift_ok (set_right two) (dx := 17 + 2 * k) (dy := 0) (by omega) hin
  have hrM := right_map (set_right two) hin
  rw [hs]
  simp only
  have hbM : InBox ((setC two).map (shC (17 + 2 * k) 0)) (9 + 2 * k) (-8) 16 16 := by
    constructor <;> intro c hc <;> obtain ⟨d, hd, rfl⟩ := List.mem_map.1 hc <;> have := set_bd hd <;> simp only [shC] <;> omega
  have hrL := set_right one
  have hbL := set_inBox one
  have hU : UpC (((setC two).map (shC (17 + 2 * k) 0)).foldl putC (setC one)) := up_putAll (set_up one)
  have hboth : Both (((setC two).map (shC (17 + 2 * k) 0)).foldl putC (setC one)) (setC one) ((setC two).map (shC (17 + 2 * k) 0)) := fun x => mem_putAll _ _ x
  have hlen := putAll_len ((setC two).map (shC (17 + 2 * k) 0)) (setC one)
  rw [List.length_map] at hlen ⊢
  have hrU : rightC (((setC two).map (shC (17 + 2 * k) 0)).foldl putC (setC one)) = true := (rightC_iff _).2 ⟨fun x hx => ((hboth x).1 hx).elim (((rightC_iff _).1 hrL).1 x) (((rightC_iff _).1 hrM).1 x), hU, by omega⟩
  have hg : ∀ j : Nat, j ≤ k.toNat → Both (gens (((setC two).map (shC (17 + 2 * k) 0)).foldl putC (setC one)) j) (gens (setC one) j) (gens ((setC two).map (shC (17 + 2 * k) 0)) j) := fun j hj =>
    (both_gens (s := 8 + k) (up_nodup hU) (right_nodup hrL) (right_nodup hrM) hboth j (fun a ha => by have := hbL.x a ha; omega) (fun b hb => by have := hbM.x b hb; omega)).1
  have hsz : ∀ j : Nat, j ≤ k.toNat → (16 + 2 * j) * (16 + 2 * j) ≤ 2000 := fun j hj => by
    have := Nat.mul_le_mul (show 16 + 2 * j ≤ 40 by omega) (show 16 + 2 * j ≤ 40 by omega); omega
  have hL := fun (j : Nat) (hj : j ≤ k.toNat) => run_box hrL hbL j (hsz j hj) (by omega) (by omega)
  have hM := fun (j : Nat) (hj : j ≤ k.toNat) => run_box hrM hbM j (hsz j hj) (by omega) (by omega)
  have hrun := run_any hrU k.toNat fun j hj => by
    obtain ⟨_, _, h3⟩ := hL j hj
    obtain ⟨_, _, h4⟩ := hM j hj
    refine ⟨fun x hx => ?_, ?_⟩
    · rcases (hg j hj x).1 hx with h | h
      · exact h3.in (by omega) (by omega) x h
      · exact h4.in (by omega) (by omega) x h
    · have h5 := nodup_sub_len _ (gens (setC one) j ++ gens ((setC two).map (shC (17 + 2 * k) 0)) j) (gens_nodup (up_nodup hU) j) fun x hx => List.mem_append.2 ((hg j hj x).1 hx)
      rw [List.length_append, gens_map_sh _ _ (set_up two), List.length_map] at h5
      have h6 := set_916 one j (by omega)
      have h7 := set_916 two j (by omega)
      omega
  obtain ⟨l1, l2, _⟩ := hL k.toNat (Nat.le_refl _)
  obtain ⟨m1, m2, _⟩ := hM k.toNat (Nat.le_refl _)
  have e1 := runC_of hrL (n := k) (by omega) l1
  have e2 := runC_of hrM (n := k) (by omega) m1
  have e3 := runC_of hrU (n := k) (by omega) hrun.1
  rw [e1, e2, e3]
  simp only
  refine ⟨h62, trivial, trivial, trivial, right_len l2, right_len m2, same_iff.2 ?_⟩
  refine up_ext (gens_up hU _) (up_putAll ((rightC_iff _).1 l2).2.1) fun x => ?_
  rw [hg k.toNat (Nat.le_refl _) x, mem_putAll]
end Go.Proofs.Ythpaadmpgdglnaa
