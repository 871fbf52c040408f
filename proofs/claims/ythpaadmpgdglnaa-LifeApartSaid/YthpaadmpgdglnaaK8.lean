/- A store into an element of a row of the call's own. No condition. -/
import Derived.Test.YthpaadmpgdglnaaK7
namespace Go.Proofs.Ythpaadmpgdglnaa
open Go Go.RowKit
theorem flatten_set {k : Nat} : ∀ {es : List (List Value)}, (∀ x ∈ es, x.length = k) → ∀ {i : Nat} (x : List Value), i < es.length → x.length = k →
    (es.set i x).flatten = es.flatten.take (i * k) ++ x ++ es.flatten.drop (i * k + k)
  | [], _, i, _, h, _ => by simp at h
  | y :: es, hk, 0, x, _, hx => by
    have hy : y.length = k := hk y (by simp)
    simp [← hy]
  | y :: es, hk, i + 1, x, h, hx => by
    have hy : y.length = k := hk y (by simp)
    have ih := flatten_set (es := es) (fun z hz => hk z (by simp [hz])) x (i := i) (by simpa using h) hx
    have e1 : (i + 1) * k = y.length + i * k := by rw [Nat.add_mul, hy]; omega
    rw [List.set_cons_succ, List.flatten_cons, List.flatten_cons, ih, e1, List.take_length_add_append, Nat.add_assoc, List.drop_length_add_append]
    simp [List.append_assoc]
theorem set_mem_len {k : Nat} {es : List (List Value)} (hk : ∀ x ∈ es, x.length = k) {i : Nat} {x : List Value} (hx : x.length = k) : ∀ y ∈ es.set i x, y.length = k := by
  intro y hy
  rcases List.mem_or_eq_of_mem_set hy with h | rfl
  · exact hk y h
  · exact hx
theorem op_rowStore {P : Program} {n : Nat} {e : Env} {w : World} {dst : Option Tmp} {ty : TypeId} {pos : String} {after : Array Edge} {guard : Option (Nat × Bool)} {t E k B i : Nat} {x y : Operand} {v u : Value} {es : List (List Value)} (hown : Ow w B E v k es) (hi : i < es.length) (hx : look e x = some (elemPtr v i k 0)) (hy : look e y = some u)
    (hk : (P.info? t).map (·.size) = some k) (hu : u.cells.size = k) (h1 : (u.cells.toList.all fun u => u.oneCell') = true) :
    Op1 P n e w ⟨dst, .store t x y, ty, pos, after, guard⟩ (fun _ w' => Kp (fun b => v.ownBlock = some b) w w' ∧ Ow w' B E v k (es.set i u.cells.toList)) := by
  obtain ⟨hkk, hl, h2⟩ := hown
  rcases h2 with ⟨rfl, h0⟩ | ⟨b, cap, cur, rfl, hB, hh, hn, hm, hs, ht⟩
  · omega
  · have hik : i * k + k ≤ es.length * k := by
      have : (i + 1) * k ≤ es.length * k := Nat.mul_le_mul_right k hi
      rwa [Nat.add_mul, Nat.one_mul] at this
    have hck : es.length * k ≤ cap * k := Nat.mul_le_mul_right k hn
    have hul : u.cells.toList.length = k := by simpa using hu
    refine (op_store (P := P) (off := i * k) (v := u) (cs := cur) hh (by simpa [elemPtr] using hx) hy hk hu (by omega) h1 rfl).mono fun _ w' hw => ?_
    refine ⟨hw.1.mono fun q _ hq => by simp [Value.ownBlock, hq], set_mem_len hkk hul, by rw [List.length_set]; rw [flatten_length (set_mem_len hkk hul), List.length_set], .inr ⟨b, cap, _, by rw [List.length_set], hB, hw.2, by rw [List.length_set]; exact hn, hm, ?_, ?_⟩⟩
    · simp only [List.size_toArray, List.length_append, List.length_take, List.length_drop, Array.length_toList, hul]
      omega
    · rw [List.length_set, flatten_set hkk _ hi hul, ← ht, hul]
      apply List.ext_getElem?
      intro j
      have e1 : min (i * k) cur.size = i * k := by omega
      have e2 : min (i * k) (min (es.length * k) cur.size) = i * k := by omega
      simp only [List.getElem?_take, List.getElem?_append, List.getElem?_drop, List.length_append, List.length_take, Array.length_toList, hul, e1, e2]
      repeat' split
      all_goals first | rfl | (exfalso; omega) | (congr 1; omega) | (symm; apply List.getElem?_eq_none; simp; omega)
/-- The head of a row is a row. -/
theorem Ow.head {w : World} {B : Nat} {E : TypeId} {v : Value} {k : Nat} {es : List (List Value)} (h : Ow w B E v k es) {i : Nat} (hi : i ≤ es.length) : Ow w B E (subSl v 0 i k) k (es.take i) := by
  obtain ⟨hkk, hl, h2⟩ := h
  have hkt : ∀ x ∈ es.take i, x.length = k := fun x hx => hkk x (List.mem_of_mem_take hx)
  have hlt : (es.take i).length = i := by rw [List.length_take]; omega
  refine ⟨hkt, by rw [flatten_length hkt], ?_⟩
  rcases h2 with ⟨rfl, h0⟩ | ⟨b, cap, cur, rfl, hB, hh, hn, hm, hs, ht⟩
  · left
    refine ⟨?_, by omega⟩
    have : i = 0 := by omega
    subst this
    simp [subSl, sliced]
  · right
    refine ⟨b, cap, cur, ?_, hB, hh, by omega, hm, hs, ?_⟩
    · rw [hlt]
      simp only [subSl, sliced]
      split <;> simp [add_none]
    · have e1 : es = es.take i ++ es.drop i := (List.take_append_drop i es).symm
      have e2 : es.flatten = (es.take i).flatten ++ (es.drop i).flatten := by rw [← List.flatten_append, ← e1]
      have e3 : (es.take i).flatten.length = i * k := by rw [flatten_length hkt, hlt]
      have hik : i * k ≤ es.length * k := Nat.mul_le_mul_right k hi
      have e4 : (cur.toList.take (es.length * k)).take (i * k) = (es.take i).flatten := by rw [ht, e2, ← e3]; exact List.take_left
      rw [hlt, ← e4, List.take_take, Nat.min_eq_left hik]
end Go.Proofs.Ythpaadmpgdglnaa
