/- Shifted sets, in plain words. No condition. -/
import Derived.Test.YthpaadmpgdglnaaD6
namespace Go.Proofs.Ythpaadmpgdglnaa
open Go Go.RowKit
theorem set_get {l : List Cell} {i : Nat} {a c : Cell} (hi : i < l.length) (h : (l.set i a)[i]? = some c) : c = a := by
  rw [List.getElem?_set_self hi] at h
  simpa using h.symm
theorem shift_set {l : List Cell} {i : Nat} {c z : Cell} {f : Cell → Cell} (h : l[i]? = some c) : ((l.take i).map f ++ List.replicate (l.length - i) z).set i (f c) = (l.take (i + 1)).map f ++ List.replicate (l.length - (i + 1)) z := by
  have hi := (List.getElem?_eq_some_iff.1 h).1
  have hl : ((l.take i).map f).length = i := by rw [List.length_map, List.length_take]; omega
  rw [List.set_append_right _ _ (by omega), hl, Nat.sub_self, List.take_add_one, h, show l.length - i = l.length - (i + 1) + 1 by omega, List.replicate_succ]
  simp
theorem shift_far {l : List Cell} {dx dy : Int} (hl : 0 < l.length) (h : dx < -2199023255552 ∨ 2199023255552 < dx ∨ dy < -2199023255552 ∨ 2199023255552 < dy) : l.all (shOk dx dy) = false := by
  cases l with
  | nil => simp at hl
  | cons x t =>
    have : shOk dx dy x = false := by
      simp only [shOk, Bool.and_eq_false_iff, decide_eq_false_iff_not]
      omega
    simp [this]
end Go.Proofs.Ythpaadmpgdglnaa
