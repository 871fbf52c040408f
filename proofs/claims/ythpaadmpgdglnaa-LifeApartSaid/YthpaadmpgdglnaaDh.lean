/- Turns and shifts of sets, and their generations. No program. -/
import Derived.Test.YthpaadmpgdglnaaDe
import Derived.Test.YthpaadmpgdglnaaDg
import Derived.Test.YthpaadmpgdglnaaDf
namespace Go.Proofs.Ythpaadmpgdglnaa
open Go Go.RowKit
set_option linter.unusedVariables false
def rot (c : Cell) : Cell := (-c.2, c.1)
def rotN : Nat → Cell → Cell
  | 0, c => c
  | k + 1, c => rot (rotN k c)
def flipC (way : Int) (c : Cell) : Cell := if 4 ≤ pickI way 8 then (-c.1, c.2) else c
def turnC (way : Int) (c : Cell) : Cell := rotN (pickI way 8 % 4).toNat (flipC way c)
def turnedC (l : List Cell) (way : Int) : List Cell := l.foldl (fun o r => putC o (turnC way r)) []
def Small (B : Int) (c : Cell) : Prop := (-B ≤ c.1 ∧ c.1 ≤ B) ∧ (-B ≤ c.2 ∧ c.2 ≤ B)
theorem flip_small {B : Int} {c : Cell} (way : Int) (h : Small B c) : Small B (flipC way c) := by
  unfold flipC Small at *
  split
  · simp only; omega
  · exact h
theorem rotN_small {B : Int} {c : Cell} (h : Small B c) : ∀ k, Small B (rotN k c)
  | 0 => h
  | k + 1 => by
    have := rotN_small h k
    unfold Small at *
    simp only [rotN, rot]
    omega
theorem turn_small {B : Int} {c : Cell} (way : Int) (h : Small B c) : Small B (turnC way c) := rotN_small (flip_small way h) _
/-- A map of cells that keeps neighbours, and its inverse. -/
structure Iso (F G : Cell → Cell) : Prop where
  fg : ∀ x, F (G x) = x
  gf : ∀ x, G (F x) = x
  near : ∀ a b, nearC (F a) (F b) = nearC a b
theorem Iso.comp {F G F' G' : Cell → Cell} (h : Iso F G) (h' : Iso F' G') : Iso (fun x => F' (F x)) (fun x => G (G' x)) :=
  ⟨fun x => by rw [h.fg, h'.fg], fun x => by rw [h'.gf, h.gf], fun a b => by rw [h'.near, h.near]⟩
theorem iso_id : Iso (fun x => x) (fun x => x) := ⟨fun _ => rfl, fun _ => rfl, fun _ _ => rfl⟩
theorem iso_rot : Iso rot (fun c => (c.2, -c.1)) := ⟨fun x => by simp [rot], fun x => by simp [rot], fun a b => by
  obtain ⟨a1, a2⟩ := a
  obtain ⟨b1, b2⟩ := b
  simp only [nearC, rot, ne_eq, Prod.mk.injEq]
  refine decide_eq_decide.2 ?_
  omega⟩
theorem iso_rotN : ∀ k, ∃ G, Iso (rotN k) G
  | 0 => ⟨_, iso_id⟩
  | k + 1 => by
    obtain ⟨G, h⟩ := iso_rotN k
    exact ⟨_, h.comp iso_rot⟩
theorem iso_flip (way : Int) : ∃ G, Iso (flipC way) G := by
  by_cases h : 4 ≤ pickI way 8
  · refine ⟨fun c => (-c.1, c.2), fun x => by simp [flipC, h], fun x => by simp [flipC, h], fun a b => ?_⟩
    obtain ⟨a1, a2⟩ := a
    obtain ⟨b1, b2⟩ := b
    simp only [nearC, flipC, if_pos h, ne_eq, Prod.mk.injEq]
    refine decide_eq_decide.2 ?_
    omega
  · refine ⟨fun c => c, fun x => by simp [flipC, h], fun x => by simp [flipC, h], fun a b => ?_⟩
    simp only [flipC, if_neg h]
theorem iso_turn (way : Int) : ∃ G, Iso (turnC way) G := by
  obtain ⟨G1, h1⟩ := iso_flip way
  obtain ⟨G2, h2⟩ := iso_rotN (pickI way 8 % 4).toNat
  exact ⟨_, h1.comp h2⟩
theorem iso_sh (p q : Int) : Iso (shC p q) (shC (-p) (-q)) := ⟨fun x => by simp only [shC]; refine Prod.ext ?_ ?_ <;> simp only <;> omega, fun x => by simp only [shC]; refine Prod.ext ?_ ?_ <;> simp only <;> omega, fun a b => by
  obtain ⟨a1, a2⟩ := a
  obtain ⟨b1, b2⟩ := b
  simp only [nearC, shC, ne_eq, Prod.mk.injEq]
  refine decide_eq_decide.2 ?_
  omega⟩
/-- M' is the image of M. -/
def Img (G : Cell → Cell) (M M' : List Cell) : Prop := ∀ y, y ∈ M' ↔ G y ∈ M
theorem img_around {F G : Cell → Cell} (h : Iso F G) {M M' : List Cell} (hn : M.Nodup) (hn' : M'.Nodup) (hi : Img G M M') (y : Cell) : aroundC M' y = aroundC M (G y) := by
  have hinj : ∀ x y, F x = F y → x = y := fun x y e => by rw [← h.gf x, ← h.gf y, e]
  have hm : ∀ z, z ∈ (M.filter (nearC (G y))).map F ↔ z ∈ M'.filter (nearC y) := fun z => by
    rw [List.mem_map, List.mem_filter, hi]
    constructor
    · rintro ⟨x, hx, rfl⟩
      obtain ⟨h1, h2⟩ := List.mem_filter.1 hx
      rw [h.gf]
      exact ⟨h1, by rw [← h.fg y, h.near]; exact h2⟩
    · rintro ⟨h1, h2⟩
      refine ⟨G z, List.mem_filter.2 ⟨h1, ?_⟩, h.fg z⟩
      rw [← h.near, h.fg, h.fg]; exact h2
  have h1 := nodup_sub_len _ _ (nodup_map_on (f := F) (hn.filter (nearC (G y))) fun a _ b _ => hinj a b) fun x hx => (hm x).1 hx
  have h2 := nodup_sub_len _ _ (hn'.filter (nearC y)) fun x hx => (hm x).2 hx
  rw [List.length_map] at h1 h2
  unfold aroundC
  omega
theorem img_gen {F G : Cell → Cell} (h : Iso F G) {M M' : List Cell} (hn : M.Nodup) (hn' : M'.Nodup) (hi : Img G M M') : Img G (genC M) (genC M') := fun y => by
  have hh : hasC M' y = hasC M (G y) := by rw [Bool.eq_iff_iff, hasC_iff, hasC_iff]; exact hi y
  rw [mem_gen, mem_gen]
  unfold alive1
  rw [hh, img_around h hn hn' hi y]
theorem gens_nodup {l : List Cell} (hn : l.Nodup) : ∀ k, (gens l k).Nodup
  | 0 => hn
  | k + 1 => up_nodup (gen_up _)
theorem gens_up {l : List Cell} (hn : UpC l) : ∀ k, UpC (gens l k)
  | 0 => hn
  | k + 1 => gen_up _
theorem img_gens {F G : Cell → Cell} (h : Iso F G) {M M' : List Cell} (hn : M.Nodup) (hn' : M'.Nodup) (hi : Img G M M') : ∀ k, Img G (gens M k) (gens M' k)
  | 0 => hi
  | k + 1 => img_gen h (gens_nodup hn k) (gens_nodup hn' k) (img_gens h hn hn' hi k)
/-! ### turned and shifted -/
theorem turned_mem2 {l : List Cell} {way : Int} {x : Cell} : x ∈ turnedC l way ↔ ∃ r ∈ l, x = turnC way r := by
  unfold turnedC
  rw [setF_mem]
  simp
theorem turned_up (l : List Cell) (way : Int) : UpC (turnedC l way) := setF_up _ _ UpC.nil
theorem turned_len (l : List Cell) (way : Int) : (turnedC l way).length ≤ l.length := by
  have := putFold_lenG (turnC way) l []
  unfold turnedC
  simpa using this
/-- What is turned and shifted. -/
theorem far_ok {l : List Cell} {way p q : Int} {B : Int} (hl : l.length ≤ 2000) (hs : ∀ c ∈ l, Small B c) (hB : 0 ≤ B ∧ B ≤ 1000) (hp : -549755813888 ≤ p ∧ p ≤ 549755813888) (hq : -549755813888 ≤ q ∧ q ≤ 549755813888) :
    shiftC (turnedC l way) p q = ((turnedC l way).map (shC p q), 0) ∧ rightC ((turnedC l way).map (shC p q)) = true ∧ (∀ x ∈ (turnedC l way).map (shC p q), (p - B ≤ x.1 ∧ x.1 ≤ p + B) ∧ (q - B ≤ x.2 ∧ x.2 ≤ q + B)) := by
  have ht : ∀ x ∈ turnedC l way, Small B x := fun x hx => by
    obtain ⟨r, hr, rfl⟩ := turned_mem2.1 hx
    exact turn_small way (hs r hr)
  have hr : rightC (turnedC l way) = true := (rightC_iff _).2 ⟨fun x hx => by have := ht x hx; unfold Small at this; exact inC_of (by omega), turned_up l way, by have := turned_len l way; omega⟩
  have hin : ∀ c ∈ turnedC l way, inC (shC p q c) = true := fun c hc => by
    have := ht c hc
    unfold Small at this
    refine inC_of ?_
    simp only [shC]
    omega
  refine ⟨shift_ok hr (by omega) hin, right_map hr hin, fun x hx => ?_⟩
  obtain ⟨c, hc, rfl⟩ := List.mem_map.1 hx
  have := ht c hc
  unfold Small at this
  simp only [shC]
  omega
theorem far_img {l : List Cell} {way p q : Int} {G : Cell → Cell} (hg : Iso (turnC way) G) : Img (fun y => G (shC (-p) (-q) y)) l ((turnedC l way).map (shC p q)) := fun y => by
  rw [List.mem_map]
  constructor
  · rintro ⟨x, hx, rfl⟩
    obtain ⟨r, hr, rfl⟩ := turned_mem2.1 hx
    simp only
    rw [(iso_sh p q).gf, hg.gf]
    exact hr
  · intro h
    refine ⟨shC (-p) (-q) y, turned_mem2.2 ⟨_, h, ?_⟩, (iso_sh p q).fg y⟩
    rw [hg.fg]
/-- The law. -/
theorem moves_law (raw : List Cell) (way p q : Int) (k : Int) (hk : 0 ≤ k ∧ k < 13) (hp : -549755813888 ≤ p ∧ p ≤ 549755813888) (hq : -549755813888 ≤ q ∧ q ≤ 549755813888) :
    (runC (setC raw) k).2 = 0 ∧ (runC (shiftC (turnedC (setC raw) way) p q).1 k).2 = 0 ∧ sameC (runC (shiftC (turnedC (setC raw) way) p q).1 k).1 (shiftC (turnedC (runC (setC raw) k).1 way) p q).1 = true ∧
    (∀ c ∈ (runC (setC raw) k).1, Small 1000 c) ∧ (runC (setC raw) k).1.length ≤ 2000 := by
  have h60 := set_len raw
  obtain ⟨h1, h2, h3⟩ := set_run raw k.toNat (by omega)
  have e1 := runC_of (set_right raw) (n := k) (by omega) h1
  have hs : ∀ c ∈ setC raw, Small 8 c := fun c hc => by have := set_bd hc; unfold Small; omega
  obtain ⟨g1, g2, g3⟩ := far_ok (way := way) (p := p) (q := q) (by omega) hs (by omega) hp hq
  have hb : InBox ((turnedC (setC raw) way).map (shC p q)) (p - 8) (q - 8) 17 17 := ⟨fun c hc => by have := g3 c hc; omega, fun c hc => by have := g3 c hc; omega⟩
  obtain ⟨h4, h5, h6⟩ := run_box g2 hb k.toNat (by have := Nat.mul_le_mul (show 17 + 2 * k.toNat ≤ 41 by omega) (show 17 + 2 * k.toNat ≤ 41 by omega); omega) (by omega) (by omega)
  have e2 := runC_of g2 (n := k) (by omega) h4
  have hs2 : ∀ c ∈ gens (setC raw) k.toNat, Small 1000 c := fun c hc => by
    have := h3.x c hc
    have := h3.y c hc
    unfold Small
    omega
  have hl2 := right_len h2
  obtain ⟨g4, g5, g6⟩ := far_ok (way := way) (p := p) (q := q) hl2 hs2 (by omega) hp hq
  rw [g1, e1]
  simp only
  rw [e2, g4]
  simp only
  refine ⟨trivial, trivial, ?_, hs2, hl2⟩
  obtain ⟨G, hG⟩ := iso_turn way
  have hiso := hG.comp (iso_sh p q)
  have i1 := img_gens hiso (right_nodup (set_right raw)) (right_nodup g2) (far_img hG) k.toNat
  have i2 := far_img (l := gens (setC raw) k.toNat) (p := p) (q := q) hG
  exact same_iff.2 (up_ext (gens_up ((rightC_iff _).1 g2).2.1 _) ((rightC_iff _).1 g5).2.1 fun y => by rw [i1 y, i2 y])
end Go.Proofs.Ythpaadmpgdglnaa
