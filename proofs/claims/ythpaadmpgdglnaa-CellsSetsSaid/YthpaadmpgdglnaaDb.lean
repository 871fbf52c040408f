/- The plain law of CellsSets: what is put is in, what is taken out is out, in whatever order. No program. -/
import Derived.Test.YthpaadmpgdglnaaDa
namespace Go.Proofs.Ythpaadmpgdglnaa
theorem toSet_len (l : List Cell) : (toSet l).length ≤ l.length := by
  have := putAll_len l []
  unfold toSet
  simpa using this
theorem of_ok {l : List Cell} (h : ∀ x ∈ l, inC x = true) (hn : l.length ≤ 2000) : ofC l = (toSet l, 0) := by
  have h1 : l.all inC = true := List.all_eq_true.2 h
  have h2 := toSet_len l
  unfold ofC fewC
  rw [if_pos h1, show l.foldl putC [] = toSet l from rfl, if_pos (by omega)]
theorem toSet_right {l : List Cell} (h : ∀ x ∈ l, inC x = true) (hn : l.length ≤ 2000) : rightC (toSet l) = true :=
  (rightC_iff _).2 ⟨fun x hx => h x ((mem_toSet l x).1 hx), up_toSet l, Nat.le_trans (toSet_len l) hn⟩
theorem toSet_same {l t : List Cell} (h : ∀ x, x ∈ t ↔ x ∈ l) : toSet t = toSet l := up_ext (up_toSet t) (up_toSet l) fun x => by rw [mem_toSet, mem_toSet, h]
theorem has_dec (l : List Cell) (c : Cell) : hasC l c = decide (c ∈ l) := by
  rw [Bool.eq_iff_iff, has_iff, decide_eq_true_eq]
/-- The cells that the first i raw ones speak of. -/
def rawMap (raw : List Cell) (i : Nat) : List Cell := (raw.take i).map rawSet
theorem rawMap_succ {raw : List Cell} {i : Nat} {c : Cell} (h : raw[i]? = some c) : rawMap raw (i + 1) = rawMap raw i ++ [rawSet c] := map_take_succ h
theorem rawMap_len {raw : List Cell} {i : Nat} (h : i ≤ 60) : (rawMap raw i).length ≤ 60 := by simp only [rawMap, List.length_map, List.length_take]; omega
theorem rawMap_in {raw : List Cell} {i : Nat} (x : Cell) (h : x ∈ rawMap raw i) : inC x = true := by
  obtain ⟨r, _, rfl⟩ := List.mem_map.1 h
  exact rawSet_in r
theorem turned_mem (l : List Cell) (k n : Nat) (x : Cell) : x ∈ ((([] ++ ((l.take n).drop k)) ++ l) ++ ((l.take k).drop 0)) ↔ x ∈ l := by
  simp only [List.nil_append, List.mem_append, List.drop_zero]
  constructor
  · rintro ((h | h) | h)
    · exact List.mem_of_mem_take (List.mem_of_mem_drop h)
    · exact h
    · exact List.mem_of_mem_take h
  · exact fun h => .inl (.inr h)
theorem sets_law {l t : List Cell} {c : Cell} (hl : ∀ x ∈ l, inC x = true) (hn : l.length ≤ 60) (hc : inC c = true) (ht : ∀ x, x ∈ t ↔ x ∈ l) (htn : t.length ≤ 2000) :
    (ofC l = (toSet l, 0) ∧ ofC t = (toSet l, 0) ∧ withC (toSet l) c true = (putC (toSet l) c, 0) ∧ withC (putC (toSet l) c) c false = (delC (toSet l) c, 0) ∧ withC (toSet l) c false = (delC (toSet l) c, 0)) ∧
    (rightC (toSet l) = true ∧ rightC (putC (toSet l) c) = true ∧ rightC (delC (toSet l) c) = true) ∧
    (∀ x ∈ l, hasC (toSet l) x = true ∧ hasC (putC (toSet l) c) x = true ∧ hasC (delC (toSet l) c) x = decide (x ≠ c)) ∧
    (hasC (toSet l) c = true → putC (toSet l) c = toSet l ∧ ((delC (toSet l) c).length : Int) = (toSet l).length - 1) ∧
    (hasC (toSet l) c = false → delC (toSet l) c = toSet l ∧ ((putC (toSet l) c).length : Int) = (toSet l).length + 1) ∧ hasC (putC (toSet l) c) c = true := by
  have h1 := toSet_len l
  have hr := toSet_right hl (by omega)
  have hrp := right_put hr hc (by omega)
  have hd : delC (putC (toSet l) c) c = delC (toSet l) c := up_ext (up_filter ((rightC_iff _).1 hrp).2.1 _) (up_filter (up_toSet l) _) fun x => by
    rw [mem_delC, mem_delC, mem_putC]
    constructor
    · rintro ⟨rfl | h, h2⟩
      · exact absurd rfl h2
      · exact ⟨h, h2⟩
    · exact fun ⟨h, h2⟩ => ⟨.inr h, h2⟩
  have ho := of_ok (l := t) (fun x hx => hl x ((ht x).1 hx)) htn
  rw [toSet_same ht] at ho
  have hwd := with_del hrp hc
  rw [hd] at hwd
  refine ⟨⟨of_ok hl (by omega), ho, with_put hr hc (by omega), hwd, with_del hr hc⟩, ⟨hr, hrp, right_del hr⟩, fun x hx => ⟨?_, ?_, ?_⟩, fun h => ?_, fun h => ?_, ?_⟩
  · exact has_iff.2 ((mem_toSet l x).2 hx)
  · exact has_iff.2 ((mem_putC _ c x).2 (.inr ((mem_toSet l x).2 hx)))
  · rw [has_dec, decide_eq_decide, mem_delC, mem_toSet]
    exact ⟨fun h => h.2, fun h => ⟨hx, h⟩⟩
  · have hm := has_iff.1 h
    have hlt := List.length_pos_of_mem hm
    exact ⟨putC_has (up_toSet l) hm, by rw [del_len hr hm]; omega⟩
  · have hm : ¬ c ∈ toSet l := fun hm => by rw [has_iff.2 hm] at h; cases h
    exact ⟨filter_not hm, by rw [put_len hr hm]; omega⟩
  · exact has_iff.2 ((mem_putC _ c c).2 (.inl rfl))
end Go.Proofs.Ythpaadmpgdglnaa
