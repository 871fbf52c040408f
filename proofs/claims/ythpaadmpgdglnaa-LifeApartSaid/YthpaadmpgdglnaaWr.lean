/- slices.Compact, Insert and Delete at a row of the call's own, whatever it is. Each theorem names its conditions. -/
import Derived.Test.YthpaadmpgdglnaaSrt
import Derived.Test.YthpaadmpgdglnaaFb
import Derived.Test.YthpaadmpgdglnaaFc
import Derived.Test.YthpaadmpgdglnaaFd
namespace Go.Proofs.Ythpaadmpgdglnaa
set_option linter.unusedVariables false
set_option maxRecDepth 100000
open Go Go.RowKit
theorem c_compact (w : World) (B : Nat) (v : Value) (l : List Cell) (hv : Ow w B 55 v 2 (l.map encC)) :
    Fn Try.prog 105 [v] w (fun v' w' => Kp (fun b => v.ownBlock = some b) w w' ∧ Ow w' B 55 v' 2 ((compC l).map encC)) := by
  rcases hv.parts with ⟨rfl, rfl⟩ | ⟨b, sp, rfl, hB, hfr, hmx⟩
  · refine (c_compactN w).mono ?_
    rintro v' w' ⟨rfl, hk⟩
    exact ⟨hk.mono fun _ _ h => h.elim, Ow.nil _ _ _ _⟩
  · refine (c_compactF w b l sp hfr hmx).mono ?_
    rintro v' w' ⟨rfl, hk, sp', hf, hl⟩
    refine ⟨hk.mono fun q _ hq => by simp [Value.ownBlock, hq], ?_⟩
    rw [← hl]
    exact hf.owt hB rfl rfl (by unfold maxLen; omega)
theorem c_insert (w : World) (B : Nat) (v : Value) (l : List Cell) (hv : Ow w B 55 v 2 (l.map encC)) (hB : B ≤ w.heap.size) (i : Nat) (hi : i ≤ l.length) (gu : Nat) (c : Cell) (hgu : Bx w gu 55 #[.int .i64 c.1, .int .i64 c.2]) (hgv : ∀ b, v.ownBlock = some b → ¬ gu = b) (hn : l.length ≤ 1000000) :
    Fn Try.prog 107 [v, .int .i64 (i : Int), .slice (some ⟨gu, 0, none⟩) 1 1] w (fun v' w' => Kp (fun b => v.ownBlock = some b) w w' ∧ Ow w' B 55 v' 2 ((l.take i ++ [c] ++ l.drop i).map encC)) := by
  rcases Nat.lt_or_ge i l.length with hlt | hge
  · rcases hv.parts with ⟨rfl, rfl⟩ | ⟨b, sp, rfl, hB', hfr, hmx⟩
    · simp at hlt
    · refine (c_insertF w b l sp hfr hmx i gu c hgu hlt hn (hgv b rfl)).mono ?_
      rintro v' w' ⟨u, rfl, hk, ho⟩
      exact ⟨hk.mono fun q _ hq => by simp [Value.ownBlock, hq], ho.base hB'⟩
  · obtain rfl : i = l.length := by omega
    refine (c_insertE w B v l hv hB gu c hgu hn hgv).mono ?_
    rintro v' w' ⟨u, rfl, hk, ho⟩
    refine ⟨hk, ?_⟩
    rw [List.take_length, List.drop_length, List.append_nil]
    exact ho
theorem c_delete (w : World) (B : Nat) (v : Value) (l : List Cell) (hv : Ow w B 55 v 2 (l.map encC)) (i : Nat) (hi : i < l.length) :
    Fn Try.prog 108 [v, .int .i64 (i : Int), .int .i64 ((i : Int) + 1)] w (fun v' w' => Kp (fun b => v.ownBlock = some b) w w' ∧ Ow w' B 55 v' 2 ((l.take i ++ l.drop (i + 1)).map encC)) := by
  rcases hv.parts with ⟨rfl, rfl⟩ | ⟨b, sp, rfl, hB', hfr, hmx⟩
  · simp at hi
  · refine (c_deleteF w b l sp hfr hmx i hi).mono ?_
    rintro v' w' ⟨rfl, hk, sp', hf, hl⟩
    refine ⟨hk.mono fun q _ hq => by simp [Value.ownBlock, hq], ?_⟩
    have e : l.length - 1 = (l.take i ++ l.drop (i + 1)).length := by rw [List.length_append, List.length_take, List.length_drop]; omega
    rw [← hl, e]
    exact hf.owt hB' rfl rfl (by unfold maxLen; omega)
end Go.Proofs.Ythpaadmpgdglnaa
