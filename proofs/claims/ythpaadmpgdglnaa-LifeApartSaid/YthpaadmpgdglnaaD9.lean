/- Plain laws for shifts of raw sets and their boxes, and for sets in general. No program. -/
import Derived.Test.YthpaadmpgdglnaaD8
namespace Go.Proofs.Ythpaadmpgdglnaa
theorem same_self (l : List Cell) : sameC l l = true := by simp [sameC]
theorem sh_in {raw : List Cell} {x y : Int} (hx : -1099511627000 ≤ x ∧ x ≤ 1099511627000) (hy : -1099511627000 ≤ y ∧ y ≤ 1099511627000) : ∀ c ∈ setC raw, inC (shC x y c) = true := fun c hc => by
  have := set_bd hc
  refine inC_of ?_
  simp only [shC]
  omega
/-- All that the law on shifts asks. -/
theorem shifts_law (raw : List Cell) (p q x y : Int) (hp : -549755813888 ≤ p ∧ p ≤ 549755813888) (hq : -549755813888 ≤ q ∧ q ≤ 549755813888) (hx : 0 ≤ x ∧ x ≤ 1000) (hy : 0 ≤ y ∧ y ≤ 1000) :
    ((shiftC (setC raw) p q).2 = 0 ∧ (shiftC (shiftC (setC raw) p q).1 (-p) (-q)).2 = 0 ∧ (shiftC (shiftC (setC raw) p q).1 x y).2 = 0 ∧ (shiftC (setC raw) (p + x) (q + y)).2 = 0) ∧
    (sameC (shiftC (shiftC (setC raw) p q).1 (-p) (-q)).1 (setC raw) = true ∧ sameC (shiftC (shiftC (setC raw) p q).1 x y).1 (shiftC (setC raw) (p + x) (q + y)).1 = true ∧ rightC (shiftC (setC raw) p q).1 = true) ∧
    ((boxC (shiftC (setC raw) p q).1).2 = (boxC (setC raw)).2 ∧ (boxC (setC raw)).2 = decide (0 < (setC raw).length)) ∧
    ((boxC (setC raw)).2 = true → (boxC (shiftC (setC raw) p q).1).1 = (bX (setC raw) + p, bY (setC raw) + q, bW (setC raw), bH (setC raw))) := by
  have hr := set_right raw
  have h1 := shift_ok hr (dx := p) (dy := q) (by omega) (sh_in (by omega) (by omega))
  have hm := right_map hr (sh_in (raw := raw) (x := p) (y := q) (by omega) (by omega))
  have hin : ∀ (a b : Int), (-1099511627000 ≤ p + a ∧ p + a ≤ 1099511627000) → (-1099511627000 ≤ q + b ∧ q + b ≤ 1099511627000) → ∀ c ∈ (setC raw).map (shC p q), inC (shC a b c) = true := fun a b ha hb c hc => by
    obtain ⟨d, hd, rfl⟩ := List.mem_map.1 hc
    have := sh_in ha hb d hd
    simp only [shC] at this ⊢
    rwa [Int.add_assoc, Int.add_assoc]
  have h2 := shift_ok hm (dx := -p) (dy := -q) (by omega) (hin _ _ (by omega) (by omega))
  have h3 := shift_ok hm (dx := x) (dy := y) (by omega) (hin _ _ (by omega) (by omega))
  have h4 := shift_ok hr (dx := p + x) (dy := q + y) (by omega) (sh_in (by omega) (by omega))
  rw [h1]
  simp only
  rw [h2, h3, h4, map_sh_sh, map_sh_sh, map_sh_zero _ _ _ (by omega) (by omega)]
  refine ⟨by simp, ⟨same_self _, same_self _, hm⟩, ⟨?_, box_is hr⟩, fun h => ?_⟩
  · rw [box_is hm, box_is hr, List.length_map]
  · rw [box_map hr hm (fun h0 => by rw [h0] at h; cases h)]
/-! ### the box of a raw set -/
theorem set_in {raw : List Cell} {i : Nat} {c : Cell} (h : (setC raw)[i]? = some c) : (0 ≤ c.1 - (boxC (setC raw)).1.1 ∧ c.1 - (boxC (setC raw)).1.1 < (boxC (setC raw)).1.2.2.1) ∧ (0 ≤ c.2 - (boxC (setC raw)).1.2.1 ∧ c.2 - (boxC (setC raw)).1.2.1 < (boxC (setC raw)).1.2.2.2) := by
  have hm := List.mem_of_getElem? h
  have := (box_spec (set_right raw) (List.ne_nil_of_mem hm)).2.1 c hm
  simp only [bX, bY, bW, bH] at this
  omega
theorem set_sides {raw : List Cell} (h : (boxC (setC raw)).2 = true) : (setC raw).any (fun c => decide (c.1 - (boxC (setC raw)).1.1 = 0)) = true ∧ (setC raw).any (fun c => decide (c.2 - (boxC (setC raw)).1.2.1 = 0)) = true ∧
    (setC raw).any (fun c => decide (c.1 - (boxC (setC raw)).1.1 = (boxC (setC raw)).1.2.2.1 - 1)) = true ∧ (setC raw).any (fun c => decide (c.2 - (boxC (setC raw)).1.2.1 = (boxC (setC raw)).1.2.2.2 - 1)) = true := by
  obtain ⟨_, _, ⟨a, ha, h1⟩, ⟨b, hb, h2⟩, ⟨c, hc, h3⟩, ⟨d, hd, h4⟩⟩ := box_spec (set_right raw) (fun h0 => by rw [h0] at h; cases h)
  simp only [bX, bY, bW, bH] at h1 h2 h3 h4
  simp only [List.any_eq_true, decide_eq_true_eq]
  exact ⟨⟨a, ha, by omega⟩, ⟨b, hb, by omega⟩, ⟨c, hc, by omega⟩, ⟨d, hd, by omega⟩⟩
theorem set_none {raw : List Cell} (h : (boxC (setC raw)).2 = false) : (boxC (setC raw)).1 = (0, 0, 0, 0) := by
  have := box_is (set_right raw)
  rw [h] at this
  have h0 : setC raw = [] := by
    cases hs : setC raw with
    | nil => rfl
    | cons x t => rw [hs] at this; simp at this
  rw [h0]; rfl
theorem any_step_t {α : Type} {f : α → Bool} {l : List α} {i : Nat} {c : α} {s : Bool} (hc : l[i]? = some c) (hs : s = (l.take i).any f) (h : s = true) : true = (l.take (i + 1)).any f := by
  rw [List.take_add_one, List.any_append, hc, ← hs, h]; rfl
theorem any_step_f {α : Type} {f : α → Bool} {l : List α} {i : Nat} {c : α} {s : Bool} (hc : l[i]? = some c) (hs : s = (l.take i).any f) (h : s = false) : f c = (l.take (i + 1)).any f := by
  rw [List.take_add_one, List.any_append, hc, ← hs, h]; simp
theorem sides_all {raw : List Cell} {i : Nat} {s0 s1 s2 s3 : Bool} (hi : ¬ (i : Int) < (setC raw).length) (h0 : s0 = ((setC raw).take i).any (fun c => decide (c.1 - (boxC (setC raw)).1.1 = 0)))
    (h1 : s1 = ((setC raw).take i).any (fun c => decide (c.2 - (boxC (setC raw)).1.2.1 = 0))) (h2 : s2 = ((setC raw).take i).any (fun c => decide (c.1 - (boxC (setC raw)).1.1 = (boxC (setC raw)).1.2.2.1 - 1)))
    (h3 : s3 = ((setC raw).take i).any (fun c => decide (c.2 - (boxC (setC raw)).1.2.1 = (boxC (setC raw)).1.2.2.2 - 1))) (h : (boxC (setC raw)).2 = true) : (s0, s1, s2, s3) = (true, true, true, true) := by
  rw [List.take_of_length_le (by omega)] at h0 h1 h2 h3
  obtain ⟨a, b, c, d⟩ := set_sides h
  rw [h0, h1, h2, h3, a, b, c, d]
end Go.Proofs.Ythpaadmpgdglnaa
namespace Go.Proofs.Ythpaadmpgdglnaa
def delC (l : List Cell) (c : Cell) : List Cell := l.filter fun x => decide (x ≠ c)
theorem mem_delC {l : List Cell} {c x : Cell} : x ∈ delC l c ↔ x ∈ l ∧ x ≠ c := by simp [delC]
theorem has_iff {l : List Cell} {c : Cell} : hasC l c = true ↔ c ∈ l := by simp [hasC, List.any_eq_true]
theorem same_iff {l m : List Cell} : sameC l m = true ↔ l = m := by simp [sameC]
theorem with_put {l : List Cell} {c : Cell} (h : rightC l = true) (hc : inC c = true) (hn : l.length < 2000) : withC l c true = (putC l c, 0) := by
  have := putC_len l c
  simp only [withC, h, hc, if_true, fewC]
  rw [if_pos (by omega)]
theorem right_put {l : List Cell} {c : Cell} (h : rightC l = true) (hc : inC c = true) (hn : l.length < 2000) : rightC (putC l c) = true := by
  obtain ⟨h1, h2, h3⟩ := (rightC_iff l).1 h
  refine (rightC_iff _).2 ⟨fun x hx => ?_, up_putC h2 c, by have := putC_len l c; omega⟩
  rcases (mem_putC l c x).1 hx with rfl | hx
  · exact hc
  · exact h1 x hx
theorem right_del {l : List Cell} {c : Cell} (h : rightC l = true) : rightC (delC l c) = true := by
  obtain ⟨h1, h2, h3⟩ := (rightC_iff l).1 h
  exact (rightC_iff _).2 ⟨fun x hx => h1 x (mem_delC.1 hx).1, up_filter h2 _, Nat.le_trans (List.length_filter_le _ _) h3⟩
theorem with_del {l : List Cell} {c : Cell} (h : rightC l = true) (hc : inC c = true) : withC l c false = (delC l c, 0) := by
  have h1 := right_len h
  have h2 : (delC l c).length ≤ 2000 := Nat.le_trans (List.length_filter_le _ _) h1
  have e : delC l c = l.filter fun x => decide (x ≠ c) := rfl
  simp only [withC, h, hc, if_true, fewC, ← e, Bool.false_eq_true, if_false]
  rw [if_pos h2]
theorem right_in2 {l : List Cell} (h : rightC l = true) {c : Cell} (hc : c ∈ l) : inC c = true := ((rightC_iff l).1 h).1 c hc
theorem del_len {l : List Cell} {c : Cell} (h : rightC l = true) (hc : c ∈ l) : (delC l c).length = l.length - 1 := by
  have hu := ((rightC_iff l).1 h).2.1
  obtain ⟨hlt, _⟩ := List.getElem?_eq_some_iff.1 ((low_has hu c).1 hc)
  rw [delC, filter_low hu hc, List.length_append, List.length_take, List.length_drop]
  omega
theorem put_len {l : List Cell} {c : Cell} (h : rightC l = true) (hc : ¬ c ∈ l) : (putC l c).length = l.length + 1 := by
  have hu := ((rightC_iff l).1 h).2.1
  have := lowC_le l c
  rw [putC_low hu hc, List.length_append, List.length_take, List.length_cons, List.length_drop]
  omega
/-- Raw cells put one by one. -/
def rawPut (raw : List Cell) : List Cell := raw.foldl (fun l r => putC l (rawSet r)) []
theorem rawPut_mem {raw : List Cell} {x : Cell} (h : x ∈ rawPut raw) : inC x = true := by
  obtain h | ⟨r, _, rfl⟩ := (setF_mem rawSet raw [] x).1 h
  · cases h
  · have := rawSet_bd r
    exact inC_of (by omega)
theorem rawPut_right (raw : List Cell) (i : Nat) (hi : i ≤ 60) : rightC (rawPut (raw.take i)) = true := by
  refine (rightC_iff _).2 ⟨fun x hx => rawPut_mem hx, setF_up rawSet _ UpC.nil, ?_⟩
  have := setTake_len rawSet raw i
  unfold rawPut
  omega
theorem rawPut_len (raw : List Cell) (i : Nat) : (rawPut (raw.take i)).length ≤ i := setTake_len rawSet raw i
theorem rawPut_succ {raw : List Cell} {i : Nat} {r : Cell} (h : raw[i]? = some r) : rawPut (raw.take (i + 1)) = putC (rawPut (raw.take i)) (rawSet r) := take_succ_fold h
theorem rawSet_in (r : Cell) : inC (rawSet r) = true := by have := rawSet_bd r; exact inC_of (by omega)
/-- One raw cell more. -/
theorem raw_with {raw : List Cell} {i : Nat} {r : Cell} (h : raw[i]? = some r) (hi : i ≤ 60) : withC (rawPut (raw.take i)) (rawSet r) true = (rawPut (raw.take (i + 1)), 0) := by
  have := rawPut_len raw i
  rw [rawPut_succ h, with_put (rawPut_right raw i hi) (rawSet_in r) (by omega)]
end Go.Proofs.Ythpaadmpgdglnaa
namespace Go.Proofs.Ythpaadmpgdglnaa
theorem toSet_len (l : List Cell) : (toSet l).length ≤ l.length := by
  have := putAll_len l []
  unfold toSet
  simpa using this
theorem of_ok {l : List Cell} (h : ∀ x ∈ l, inC x = true) (hn : l.length ≤ 2000) : ofC l = (toSet l, 0) := by
  have h1 : l.all inC = true := List.all_eq_true.2 h
  have h2 := toSet_len l
  unfold ofC fewC
  rw [if_pos h1, show l.foldl putC [] = toSet l from rfl, if_pos (by omega)]
theorem toSet_right {l : List Cell} (h : ∀ x ∈ l, inC x = true) (hn : l.length ≤ 2000) : rightC (toSet l) = true :=
  (rightC_iff _).2 ⟨fun x hx => h x ((mem_toSet l x).1 hx), up_toSet l, Nat.le_trans (toSet_len l) hn⟩
theorem toSet_same {l t : List Cell} (h : ∀ x, x ∈ t ↔ x ∈ l) : toSet t = toSet l := up_ext (up_toSet t) (up_toSet l) fun x => by rw [mem_toSet, mem_toSet, h]
theorem has_dec (l : List Cell) (c : Cell) : hasC l c = decide (c ∈ l) := by
  rw [Bool.eq_iff_iff, has_iff, decide_eq_true_eq]
/-- The cells that the first i raw ones speak of. -/
def rawMap (raw : List Cell) (i : Nat) : List Cell := (raw.take i).map rawSet
theorem rawMap_succ {raw : List Cell} {i : Nat} {c : Cell} (h : raw[i]? = some c) : rawMap raw (i + 1) = rawMap raw i ++ [rawSet c] := map_take_succ h
theorem rawMap_len {raw : List Cell} {i : Nat} (h : i ≤ 60) : (rawMap raw i).length ≤ 60 := by simp only [rawMap, List.length_map, List.length_take]; omega
theorem rawMap_in {raw : List Cell} {i : Nat} (x : Cell) (h : x ∈ rawMap raw i) : inC x = true := by
  obtain ⟨r, _, rfl⟩ := List.mem_map.1 h
  exact rawSet_in r
theorem turned_mem (l : List Cell) (k n : Nat) (x : Cell) : x ∈ ((([] ++ ((l.take n).drop k)) ++ l) ++ ((l.take k).drop 0)) ↔ x ∈ l := by
  simp only [List.nil_append, List.mem_append, List.drop_zero]
  constructor
  · rintro ((h | h) | h)
    · exact List.mem_of_mem_take (List.mem_of_mem_drop h)
    · exact h
    · exact List.mem_of_mem_take h
  · exact fun h => .inl (.inr h)
theorem sets_law {l t : List Cell} {c : Cell} (hl : ∀ x ∈ l, inC x = true) (hn : l.length ≤ 60) (hc : inC c = true) (ht : ∀ x, x ∈ t ↔ x ∈ l) (htn : t.length ≤ 2000) :
    (ofC l = (toSet l, 0) ∧ ofC t = (toSet l, 0) ∧ withC (toSet l) c true = (putC (toSet l) c, 0) ∧ withC (putC (toSet l) c) c false = (delC (toSet l) c, 0) ∧ withC (toSet l) c false = (delC (toSet l) c, 0)) ∧
    (rightC (toSet l) = true ∧ rightC (putC (toSet l) c) = true ∧ rightC (delC (toSet l) c) = true) ∧
    (∀ x ∈ l, hasC (toSet l) x = true ∧ hasC (putC (toSet l) c) x = true ∧ hasC (delC (toSet l) c) x = decide (x ≠ c)) ∧
    (hasC (toSet l) c = true → putC (toSet l) c = toSet l ∧ ((delC (toSet l) c).length : Int) = (toSet l).length - 1) ∧
    (hasC (toSet l) c = false → delC (toSet l) c = toSet l ∧ ((putC (toSet l) c).length : Int) = (toSet l).length + 1) ∧ hasC (putC (toSet l) c) c = true := by
  have h1 := toSet_len l
  have hr := toSet_right hl (by omega)
  have hrp := right_put hr hc (by omega)
  have hd : delC (putC (toSet l) c) c = delC (toSet l) c := up_ext (up_filter ((rightC_iff _).1 hrp).2.1 _) (up_filter (up_toSet l) _) fun x => by
    rw [mem_delC, mem_delC, mem_putC]
    constructor
    · rintro ⟨rfl | h, h2⟩
      · exact absurd rfl h2
      · exact ⟨h, h2⟩
    · exact fun ⟨h, h2⟩ => ⟨.inr h, h2⟩
  have ho := of_ok (l := t) (fun x hx => hl x ((ht x).1 hx)) htn
  rw [toSet_same ht] at ho
  have hwd := with_del hrp hc
  rw [hd] at hwd
  refine ⟨⟨of_ok hl (by omega), ho, with_put hr hc (by omega), hwd, with_del hr hc⟩, ⟨hr, hrp, right_del hr⟩, fun x hx => ⟨?_, ?_, ?_⟩, fun h => ?_, fun h => ?_, ?_⟩
  · exact has_iff.2 ((mem_toSet l x).2 hx)
  · exact has_iff.2 ((mem_putC _ c x).2 (.inr ((mem_toSet l x).2 hx)))
  · rw [has_dec, decide_eq_decide, mem_delC, mem_toSet]
    exact ⟨fun h => h.2, fun h => ⟨hx, h⟩⟩
  · have hm := has_iff.1 h
    have hlt := List.length_pos_of_mem hm
    exact ⟨putC_has (up_toSet l) hm, by rw [del_len hr hm]; omega⟩
  · have hm : ¬ c ∈ toSet l := fun hm => by rw [has_iff.2 hm] at h; cases h
    exact ⟨filter_not hm, by rw [put_len hr hm]; omega⟩
  · exact has_iff.2 ((mem_putC _ c c).2 (.inl rfl))
end Go.Proofs.Ythpaadmpgdglnaa
