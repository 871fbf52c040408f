/- Regions that draw, slices given whole, folds over the head of a list. No condition. -/
import Derived.Test.YthpaadmpgdglnaaK5
namespace Go.Proofs.Ythpaadmpgdglnaa
open Go Go.RowKit
section
variable {P : Program} {fn : Func} {R : Ending → World → Prop} {ks : List KF} {n : Nat} {e : Env} {w : World}
theorem cw_drawn {id : Nat} {ops : Array Oper} (S : World → World → Prop) (X : List Nat) (p : Plan) (hm : P.follows .mixedOrders = true) (hs : Region.noSelect ops = true) (hp : p.ok ops (Array.replicate ops.size false) = true) (hz : p.size ≤ ops.size)
    (h : ∀ ws, Ex w ws → Region.noSelect ops = true → RP P fn R ops ks n (S ws) X p e ws) : CW P fn R ks n (.region id ops true) e w :=
  cw_draw (S w.drew) X p hm hs hp hz fun hs => h _ (Kp.of_drew w) hs
end
theorem Ow.ne {w : World} {B : Nat} {E : TypeId} {v : Value} {k : Nat} {es : List (List Value)} {g : Nat} {T : TypeId} {cs : Array Value} (h : Ow w B E v k es) (hb : Bx w g T cs) (hE : Nat.beq E T = false) : ∀ b, v.ownBlock = some b → ¬ b = g := by
  rintro b hv rfl
  rcases h.2.2 with ⟨rfl, _⟩ | ⟨b', cap, cur, rfl, _, hh, _⟩
  · simp [Value.ownBlock] at hv
  · simp only [Value.ownBlock, Option.some.injEq] at hv
    subst hv
    have := hh.symm.trans hb
    simp only [Option.some.injEq, Obj.cells.injEq] at this
    rw [this.2.1] at hE
    simp at hE
theorem Sl.one {w : World} {A : Nat → Prop} {v : Value} {k : Nat} {es : List (List Value)} (h : Sl w A v k es) : v.oneCell' = true := by
  obtain ⟨_, a, cap, rfl, _⟩ := h
  rfl
theorem Sl.isSl {w : World} {A : Nat → Prop} {v : Value} {k : Nat} {es : List (List Value)} (h : Sl w A v k es) : ∃ a n c, v = .slice a n c := by
  obtain ⟨_, a, cap, rfl, _⟩ := h
  exact ⟨_, _, _, rfl⟩
theorem Sl.cell1 {w : World} {A : Nat → Prop} {v : Value} {k : Nat} {es : List (List Value)} (h : Sl w A v k es) : v.cells = #[v] := by
  obtain ⟨_, a, cap, rfl, _⟩ := h
  rfl
/-- A store of one cell's value that is not told. -/
theorem op_store1 {P : Program} {n : Nat} {e : Env} {w : World} {dst : Option Tmp} {ty : TypeId} {pos : String} {after : Array Edge} {guard : Option (Nat × Bool)} {t g off : Nat} {T : TypeId} {x y : Operand} {v : Value} {cs cs' : Array Value} (hv : v.cells = #[v]) (h1 : v.oneCell' = true) (hb : Bx w g T cs) (hx : look e x = some (.pointer (some ⟨g, off, none⟩))) (hy : look e y = some v)
    (hk : (P.info? t).map (·.size) = some 1) (hfit : off + 1 ≤ cs.size) (hc : (cs.toList.take off ++ [v] ++ cs.toList.drop (off + 1)).toArray = cs') :
    Op1 P n e w ⟨dst, .store t x y, ty, pos, after, guard⟩ (fun _ w' => Kp (fun k => k = g) w w' ∧ Bx w' g T cs') :=
  op_store hb hx hy hk (by rw [hv]; rfl) hfit (by rw [hv]; simp [h1]) (by rw [hv]; exact hc)
theorem one_nil : ([] : List Value).all (fun u => u.oneCell') = true := rfl
theorem one_cons {u : Value} {l : List Value} (h : u.oneCell' = true) (t : l.all (fun u => u.oneCell') = true) : (u :: l).all (fun u => u.oneCell') = true := by
  simp [h, t]
theorem Sl.lenm {α : Type} {f : α → List Value} {w : World} {A : Nat → Prop} {v : Value} {k : Nat} {l : List α} (h : Sl w A v k (l.map f)) : l.length ≤ 9223372036854775807 := by
  have := h.len
  rw [List.length_map] at this
  exact this
theorem Sl.below {w : World} {A : Nat → Prop} {v : Value} {k : Nat} {es : List (List Value)} (h : Sl w A v k es) : Sl w (fun b => b < w.heap.size) v k es := h.mono fun _ hb _ => hb
theorem Sl.since {w w0 : World} {A : Nat → Prop} {v : Value} {k : Nat} {es : List (List Value)} (h : Sl w A v k es) (hA : ∀ b, A b → w0.heap.size ≤ b) : Sl w (fun b => w0.heap.size ≤ b ∧ b < w.heap.size) v k es := h.mono fun b hb hh => ⟨hA b hh, hb⟩
/-- The elements of a block, k cells each. -/
theorem Bx.slm {α : Type} {f : α → List Value} {w : World} {g : Nat} {T : TypeId} {cs : Array Value} {A : Nat → Prop} (h : Bx w g T cs) (hA : A g) {k : Nat} {l : List α} (hk : ∀ c, (f c).length = k) (hcs : cs.toList = (l.map f).flatten) (hm : l.length ≤ maxLen) :
    Sl w A (.slice (some ⟨g, 0, none⟩) l.length l.length) k (l.map f) := by
  have hkk : ∀ x ∈ l.map f, x.length = k := by
    intro x hx
    simp only [List.mem_map] at hx
    obtain ⟨c, _, rfl⟩ := hx
    exact hk c
  refine ⟨hkk, _, l.length, by rw [List.length_map], by rw [List.length_map]; exact Nat.le_refl _, hm, (fun h => by cases h), .inr ⟨g, 0, rfl, hA, h.lt, fun i j x hx hj => ?_⟩⟩
  rw [h.cell, Nat.zero_add, ← flat_at hkk hx hj, ← hcs]
  simp

theorem take_succ_fold {α β : Type} {f : β → α → β} {b : β} {l : List α} {i : Nat} {c : α} (h : l[i]? = some c) : (l.take (i + 1)).foldl f b = f ((l.take i).foldl f b) c := by
  have hi := (List.getElem?_eq_some_iff.1 h).1
  rw [List.take_add_one, List.foldl_append, h]
  rfl
theorem take_all {α : Type} {l : List α} {i : Nat} (h : ¬ (i : Int) < l.length) : l.take i = l := List.take_of_length_le (by omega)
theorem all_succ {α : Type} {p : α → Bool} {l : List α} {i : Nat} {c : α} (h : l[i]? = some c) : (l.take (i + 1)).all p = ((l.take i).all p && p c) := by
  rw [List.take_add_one, List.all_append, h]
  simp
theorem any_succ {α : Type} {p : α → Bool} {l : List α} {i : Nat} {c : α} (h : l[i]? = some c) : (l.take (i + 1)).any p = ((l.take i).any p || p c) := by
  rw [List.take_add_one, List.any_append, h]
  simp
theorem all_stop {α : Type} {p : α → Bool} {l : List α} {i : Nat} {c : α} (h : l[i]? = some c) (hp : p c = false) : l.all p = false := by
  rw [List.all_eq_false]
  exact ⟨c, List.mem_of_getElem? h, by simp [hp]⟩
theorem any_stop {α : Type} {p : α → Bool} {l : List α} {i : Nat} {c : α} (h : l[i]? = some c) (hp : p c = true) : l.any p = true := by
  rw [List.any_eq_true]
  exact ⟨c, List.mem_of_getElem? h, hp⟩
end Go.Proofs.Ythpaadmpgdglnaa
