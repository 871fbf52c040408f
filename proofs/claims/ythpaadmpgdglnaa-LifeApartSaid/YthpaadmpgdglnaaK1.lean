/- What is known of memory, carried along, and one law for each operation of this seat's functions. No condition. -/
import Derived.Test.YthpaadmpgdglnaaK0
namespace Go.Proofs.Ythpaadmpgdglnaa
open Go Go.RowKit

/-! ### what is drawn grows -/
theorem ask_drawn {α : Type} : ∀ (x : Ask α) (w : World), w.drawn ≤ (w.ask x).2.drawn
  | .done a, w => Nat.le_refl _
  | .ask what range k, w => by
    unfold World.ask
    simp only
    split
    · exact ask_drawn (k 0) w
    · exact Nat.le_trans (Nat.le_succ _) (ask_drawn (k ((Question.extern what range).cut (w.tape w.drawn (Question.extern what range)))) { w with drawn := w.drawn + 1 })
theorem sys_drawn (w : World) (c : Sys) : w.drawn ≤ (w.sys c).2.drawn := by
  unfold World.sys
  have := ask_drawn (Kernel.perform c w.os) w
  split
  · exact Nat.le_refl _
  · rename_i h; rw [h] at this; exact this
theorem viewStore_drawn {p : Program} {w w' : World} {at_ : Addr} {u : TypeId} {k : Addr} {v : Value} {b : Bool} {l : List Addr} (h : w.viewStore p at_ u k v b = .ok (w', l)) : w.drawn ≤ w'.drawn := by
  unfold World.viewStore at h
  simp only [bind, Except.bind, pure, Except.pure] at h
  repeat' split at h
  all_goals first | (cases h; done) | (cases h; exact Nat.le_refl _)
theorem run_drawn {α : Type} {p : Program} (m : Sem α) : ∀ (w : World) (v : α) (w' : World), m.run p w = .ok v w' → w.drawn ≤ w'.drawn := by
  induction m with
  | pure a => intro w v w' h; simp only [Sem.run, Result.ok.injEq] at h; rw [h.2]; exact Nat.le_refl _
  | load m a k ih =>
    intro w v w' h
    unfold Sem.run at h
    split at h
    · exact ih _ _ _ _ h
    · split at h
      · exact ih _ _ _ _ h
      · cases h
  | store m a u k ih =>
    intro w v w' h
    have key : (match w.cell? a with
      | some _ => if w.frozen? a then .halt (.unsupported (.unsafePointer "a write to bytes that a string shares")) w else k.run p (w.setCell a u)
      | none => match w.farStore p a u (m == .atomic) with
        | .ok (w, _) => k.run p w
        | .error h => .halt h w) = Result.ok v w' → w.drawn ≤ w'.drawn := by
      intro h
      split at h
      · split at h
        · cases h
        · exact ih (w.setCell a u) _ _ h
      · split at h
        · rename_i w1 l hf
          refine Nat.le_trans ?_ (ih _ _ _ h)
          unfold World.farStore at hf
          split at hf
          · split at hf
            · rename_i r hr
              cases hf
              exact viewStore_drawn hr
            · cases hf
          · cases hf
        · cases h
    cases u <;> first | (cases h; done) | exact key h
  | new o k ih => intro w v w' h; exact ih _ { w with heap := w.heap.push o } v w' h
  | shape r k ih => intro w v w' h; exact ih _ w v w' h
  | freeze a n k ih =>
    intro w v w' h
    have := ih (w.freeze a n) v w' h
    unfold World.freeze at this
    split at this <;> exact this
  | frozen a k ih => intro w v w' h; exact ih _ w v w' h
  | getObj r k ih =>
    intro w v w' h
    unfold Sem.run at h
    split at h
    · cases h
    · exact ih _ _ _ _ h
    · cases h
  | setObj r o k ih =>
    intro w v w' h
    unfold Sem.run at h
    split at h
    · cases h
    · exact ih { w with heap := w.heap.setIfInBounds r o } _ _ h
    · cases h
  | choose q k ih =>
    intro w v w' h
    unfold Sem.run at h
    split at h
    · exact ih _ _ _ _ h
    · exact Nat.le_trans (Nat.le_succ _) (ih _ { w with drawn := w.drawn + 1 } _ _ h)
  | sys c k ih => intro w v w' h; exact Nat.le_trans (sys_drawn w c) (ih _ _ _ _ h)
  | program k ih => intro w v w' h; exact ih _ w v w' h
  | mark m k ih => intro w v w' h; exact ih w v w' h
  | halt x => intro w v w' h; cases h

/-- w' is w with new blocks, and of the old ones at most those in W written. -/
structure Kp (W : Nat → Prop) (w w' : World) : Prop where
  os : w'.os = w.os
  tape : w'.tape = w.tape
  output : w'.output = w.output
  size : w.heap.size ≤ w'.heap.size
  block : ∀ k, k < w.heap.size → ¬ W k → w'.heap[k]? = w.heap[k]?
  drawn : w.drawn ≤ w'.drawn
/-- Nothing that was there is written. -/
def No : Nat → Prop := fun _ => False
abbrev Ex (w w' : World) : Prop := Kp No w w'

theorem Kp.refl (W : Nat → Prop) (w : World) : Kp W w w := ⟨rfl, rfl, rfl, Nat.le_refl _, fun _ _ _ => rfl, Nat.le_refl _⟩
theorem Kp.trans {W W' V : Nat → Prop} {a b c : World} (h : Kp W a b) (g : Kp W' b c) (h1 : ∀ k, W k → V k) (h2 : ∀ k, k < a.heap.size → W' k → V k) : Kp V a c :=
  ⟨g.os.trans h.os, g.tape.trans h.tape, g.output.trans h.output, Nat.le_trans h.size g.size, fun k hk hv =>
    (g.block k (Nat.lt_of_lt_of_le hk h.size) (fun x => hv (h2 k hk x))).trans (h.block k hk (fun x => hv (h1 k x))), Nat.le_trans h.drawn g.drawn⟩
theorem Kp.mono {W V : Nat → Prop} {a b : World} (h : Kp W a b) (h1 : ∀ k, k < a.heap.size → W k → V k) : Kp V a b := ⟨h.os, h.tape, h.output, h.size, fun k hk hv => h.block k hk (fun x => hv (h1 k hk x)), h.drawn⟩
theorem Ex.trans {a b c : World} (h : Ex a b) (g : Ex b c) : Ex a c := Kp.trans h g (fun _ x => x) (fun _ _ x => x)
theorem Ex.kp {W : Nat → Prop} {a b c : World} (h : Ex a b) (g : Kp W b c) : Kp W a c := Kp.trans h g (fun _ x => x.elim) (fun _ _ x => x)
theorem Kp.ex {W : Nat → Prop} {a b c : World} (h : Kp W a b) (g : Ex b c) : Kp W a c := Kp.trans h g (fun _ x => x) (fun _ _ x => x.elim)
/-- .. the written ones are newer than a. -/
theorem Ex.kp_new {W : Nat → Prop} {a b c : World} (h : Ex a b) (g : Kp W b c) (hW : ∀ k, W k → a.heap.size ≤ k) : Ex a c :=
  Kp.trans h g (fun _ x => x) (fun k hk x => absurd (hW k x) (by omega))
theorem Kp.below {w w' : World} (h : Ex w w') : Below w.heap.size w w' := ⟨h.os, h.tape, h.output, h.size, fun k hk => h.block k hk id⟩
theorem Kp.of_grown {w w' : World} {row : Option Nat} (h : w.grownBy w' row) (hd : w.drawn ≤ w'.drawn) : Kp (fun k => some k = row) w w' := ⟨h.os, h.tape, h.output, h.size, fun k hk hv => h.block k hk hv, hd⟩
theorem Kp.of_alloc (w : World) (o : Obj) : Ex w (w.alloc o) := ⟨rfl, rfl, rfl, by simp, fun k hk _ => Below.heap_alloc w o k hk, Nat.le_refl _⟩
theorem Kp.of_drew (w : World) : Ex w w.drew := ⟨rfl, rfl, rfl, Nat.le_refl _, fun _ _ _ => rfl, Nat.le_succ _⟩
theorem Kp.of_setCell (w : World) (a : Addr) (v : Value) : Kp (fun k => k = a.block) w (w.setCell a v) := ⟨rfl, rfl, rfl, by simp, fun k _ hv => heap_setCell_other w a k v hv, Nat.le_refl _⟩

/-! ### a block that is known whole -/
def Bx (w : World) (g : Nat) (t : TypeId) (cs : Array Value) : Prop := w.heap[g]? = some (.cells cs t (0, 0))
theorem Bx.lt {w : World} {g : Nat} {t : TypeId} {cs : Array Value} (h : Bx w g t cs) : g < w.heap.size := (Array.getElem?_eq_some_iff.1 h).1
theorem Bx.kp {W : Nat → Prop} {w w' : World} {g : Nat} {t : TypeId} {cs : Array Value} (h : Bx w g t cs) (k : Kp W w w') (hn : ¬ W g) : Bx w' g t cs := (k.block g h.lt hn).trans h
theorem Bx.ex {w w' : World} {g : Nat} {t : TypeId} {cs : Array Value} (h : Bx w g t cs) (k : Ex w w') : Bx w' g t cs := h.kp k id
theorem Bx.cell {w : World} {g : Nat} {t : TypeId} {cs : Array Value} (h : Bx w g t cs) (i : Nat) : w.cell? ⟨g, i, none⟩ = cs[i]? := cell_of_row w g i cs t (0, 0) h
theorem Bx.free {w : World} {g : Nat} {t : TypeId} {cs : Array Value} (h : Bx w g t cs) (i : Nat) : w.frozen? ⟨g, i, none⟩ = false := frozen_of_row w g i cs t h
theorem Bx.new (w : World) (cs : Array Value) (t : TypeId) : Bx (w.alloc (.cells cs t)) w.heap.size t cs := heap_alloc_new w _
theorem Bx.ne {w : World} {g g' : Nat} {t t' : TypeId} {cs cs' : Array Value} (h : Bx w g t cs) (h' : Bx w g' t' cs') (hne : cs ≠ cs' ∨ t ≠ t') : g ≠ g' := by
  rintro rfl
  rw [Bx, h'] at h
  simp only [Option.some.injEq, Obj.cells.injEq] at h
  rcases hne with hh | hh
  · exact hh h.1.symm
  · exact hh h.2.1.symm

/-! ### a slice that is read -/
/-- v is a slice whose elements, of k cells each, are es; its block lies in A. -/
def Sl (w : World) (A : Nat → Prop) (v : Value) (k : Nat) (es : List (List Value)) : Prop :=
  (∀ x ∈ es, x.length = k) ∧ ∃ a cap, v = .slice a es.length cap ∧ es.length ≤ cap ∧ cap ≤ maxLen ∧ (a = none → cap = 0) ∧
    (es = [] ∨ ∃ b off, a = some ⟨b, off, none⟩ ∧ A b ∧ b < w.heap.size ∧ ∀ i j x, es[i]? = some x → j < k → w.cell? ⟨b, off + (i * k + j), none⟩ = x[j]?)
theorem Sl.nil (w : World) (A : Nat → Prop) (k : Nat) : Sl w A (.slice none 0 0) k [] := ⟨by simp, none, 0, rfl, Nat.le_refl _, Nat.zero_le _, fun _ => rfl, .inl rfl⟩
theorem Sl.kp {W A : Nat → Prop} {w w' : World} {v : Value} {k : Nat} {es : List (List Value)} (h : Sl w A v k es) (g : Kp W w w') (hn : ∀ b, A b → ¬ W b) : Sl w' A v k es := by
  obtain ⟨h1, a, cap, h2, h3, h4, h6, h5⟩ := h
  refine ⟨h1, a, cap, h2, h3, h4, h6, h5.imp id ?_⟩
  rintro ⟨b, off, ha, hA, hb, hc⟩
  exact ⟨b, off, ha, hA, Nat.lt_of_lt_of_le hb g.size, fun i j x hx hj => (World.cell?_of_block (w := w) (g.block b hb (hn b hA))).trans (hc i j x hx hj)⟩
theorem Sl.ex {A : Nat → Prop} {w w' : World} {v : Value} {k : Nat} {es : List (List Value)} (h : Sl w A v k es) (g : Ex w w') : Sl w' A v k es := h.kp g fun _ _ => id
theorem Sl.mono {A A' : Nat → Prop} {w : World} {v : Value} {k : Nat} {es : List (List Value)} (h : Sl w A v k es) (hA : ∀ b, b < w.heap.size → A b → A' b) : Sl w A' v k es := by
  obtain ⟨h1, a, cap, h2, h3, h4, h6, h5⟩ := h
  refine ⟨h1, a, cap, h2, h3, h4, h6, h5.imp id ?_⟩
  rintro ⟨b, off, ha, hA', hb, hc⟩
  exact ⟨b, off, ha, hA b hb hA', hb, hc⟩
theorem Sl.len {A : Nat → Prop} {w : World} {v : Value} {k : Nat} {es : List (List Value)} (h : Sl w A v k es) : es.length ≤ maxLen := by
  obtain ⟨_, a, cap, _, h3, h4, _⟩ := h; omega

/-- A pointer to a cell of an element of a slice. -/
def elemPtr (v : Value) (i k off : Nat) : Value := match v with
  | .slice (some a) _ _ => .pointer (some ⟨a.block, a.off + (i * k + off), none⟩)
  | _ => undef

theorem Sl.at {A : Nat → Prop} {w : World} {v : Value} {k : Nat} {es : List (List Value)} (h : Sl w A v k es) {i : Nat} (hi : i < es.length) :
    ∃ b off cap, v = .slice (some ⟨b, off, none⟩) es.length cap ∧ ∀ j x, es[i]? = some x → j < k → w.cell? ⟨b, off + (i * k + j), none⟩ = x[j]? := by
  obtain ⟨_, a, cap, rfl, _, _, _, h5⟩ := h
  rcases h5 with rfl | ⟨b, off, rfl, _, _, hc⟩
  · simp at hi
  · exact ⟨b, off, cap, rfl, fun j x => hc i j x⟩

/-! ### a slice that the call appends to -/
/-- v begins at the head of a row of the call's own (blocks from B on). -/
def Ow (w : World) (B : Nat) (E : TypeId) (v : Value) (k : Nat) (es : List (List Value)) : Prop :=
  (∀ x ∈ es, x.length = k) ∧ w.ownsRow B E k v es.length es.flatten
theorem Ow.nil (w : World) (B : Nat) (E : TypeId) (k : Nat) : Ow w B E (.slice none 0 0) k [] := ⟨by simp, World.ownsRow_nil w B E k⟩
theorem Ow.kp {W : Nat → Prop} {w w' : World} {B : Nat} {E : TypeId} {v : Value} {k : Nat} {es : List (List Value)} (h : Ow w B E v k es) (g : Kp W w w') (hn : ∀ b, v.ownBlock = some b → ¬ W b) : Ow w' B E v k es := by
  refine ⟨h.1, h.2.1, ?_⟩
  rcases h.2.2 with h2 | ⟨b, cap, cur, hv, hg, hh, r⟩
  · exact .inl h2
  · exact .inr ⟨b, cap, cur, hv, hg, (g.block b (Array.getElem?_eq_some_iff.1 hh).1 (hn b (by rw [hv]; rfl))).trans hh, r⟩
theorem Ow.ex {w w' : World} {B : Nat} {E : TypeId} {v : Value} {k : Nat} {es : List (List Value)} (h : Ow w B E v k es) (g : Ex w w') : Ow w' B E v k es := h.kp g fun _ _ => id
theorem Ow.lt {w : World} {B : Nat} {E : TypeId} {v : Value} {k : Nat} {es : List (List Value)} (h : Ow w B E v k es) : ∀ b, v.ownBlock = some b → B ≤ b ∧ b < w.heap.size := h.2.lt
theorem Ow.base {w : World} {B B' : Nat} {E : TypeId} {v : Value} {k : Nat} {es : List (List Value)} (h : Ow w B E v k es) (hB : B' ≤ B) : Ow w B' E v k es := by
  refine ⟨h.1, h.2.1, ?_⟩
  rcases h.2.2 with h2 | ⟨b, cap, cur, hv, hg, r⟩
  · exact .inl h2
  · exact .inr ⟨b, cap, cur, hv, Nat.le_trans hB hg, r⟩

theorem flat_at {k : Nat} : ∀ {es : List (List Value)}, (∀ x ∈ es, x.length = k) → ∀ {i j : Nat} {x : List Value}, es[i]? = some x → j < k → es.flatten[i * k + j]? = x[j]?
  | [], _, i, _, _, h, _ => by simp at h
  | y :: es, hk, 0, j, x, h, hj => by
    have hy : y = x := by simpa using h
    subst hy
    rw [Nat.zero_mul, Nat.zero_add, List.flatten_cons, List.getElem?_append_left (by rw [hk y (by simp)]; exact hj)]
  | y :: es, hk, i + 1, j, x, h, hj => by
    have hl : y.length = k := hk y (by simp)
    have h' : es[i]? = some x := by simpa using h
    rw [List.flatten_cons, List.getElem?_append_right (by rw [hl, Nat.add_mul]; omega), hl, show (i + 1) * k + j - k = i * k + j by rw [Nat.add_mul]; omega]
    exact flat_at (fun x hx => hk x (by simp [hx])) h' hj

theorem flatten_length {k : Nat} : ∀ {es : List (List Value)}, (∀ x ∈ es, x.length = k) → es.flatten.length = es.length * k
  | [], _ => by simp
  | y :: es, h => by rw [List.flatten_cons, List.length_append, h y (by simp), flatten_length (fun x hx => h x (by simp [hx])), List.length_cons, Nat.add_mul]; omega

theorem Ow.sl {w : World} {B : Nat} {E : TypeId} {v : Value} {k : Nat} {es : List (List Value)} (h : Ow w B E v k es) : Sl w (fun b => B ≤ b ∧ b < w.heap.size) v k es := by
  obtain ⟨hk, hl, h2⟩ := h
  rcases h2 with ⟨rfl, h0⟩ | ⟨b, cap, cur, rfl, hB, hh, hn, hm, hs, ht⟩
  · obtain rfl : es = [] := List.eq_nil_of_length_eq_zero h0
    exact Sl.nil _ _ _
  · refine ⟨hk, _, cap, rfl, hn, hm, (fun h => by cases h), .inr ⟨b, 0, rfl, ⟨hB, (Array.getElem?_eq_some_iff.1 hh).1⟩, (Array.getElem?_eq_some_iff.1 hh).1, fun i j x hx hj => ?_⟩⟩
    have hi : i < es.length := (List.getElem?_eq_some_iff.1 hx).1
    have hij : i * k + j < es.length * k := by
      have : (i + 1) * k ≤ es.length * k := Nat.mul_le_mul_right k hi
      rw [Nat.add_mul] at this
      omega
    rw [Nat.zero_add, cell_of_row w b _ cur E (0, 0) hh, ← flat_at hk hx hj, ← ht, List.getElem?_take, if_pos hij]
    simp

/-! ### integers -/
def I64 (x : Int) : Prop := -9223372036854775808 ≤ x ∧ x ≤ 9223372036854775807


section
variable {P : Program} {n : Nat} {e : Env} {S : World → Prop} {w : World} {dst : Option Tmp} {ty : TypeId} {pos : String} {after : Array Edge} {guard : Option (Nat × Bool)}

/-- An operation that looks at no memory: the kernel reckons it. -/
theorem ev_pure {o : Oper} {v : Value} (hsel : (match o.op with | .select .. => false | _ => true) = true) (hin : (o.op.operands.toList.all fun x => (look e x).isSome) = true)
    (hr : ∀ w, (execOp (fun x => (look e x).getD undef) o).run P w = .ok (.value v) w) : Ev P n e S o v := fun a ha w _ => by
  rw [← hr w]
  congr 1
  refine execOp_congr o (fun cs b h => by rw [h] at hsel; cases hsel) fun x hx => ?_
  have hx' := List.all_eq_true.1 hin x (by simpa using hx)
  obtain ⟨u, hu⟩ := Option.isSome_iff_exists.1 hx'
  rw [ha.eval hu, hu]
  rfl

theorem ev_move {x : Operand} {v : Value} (hx : look e x = some v) : Ev P n e S ⟨dst, .move x, ty, pos, after, guard⟩ v := fun a ha w _ => by simp [execOp, ha.eval hx]
theorem ev_assign {x : Operand} {v : Value} (hx : look e x = some v) : Ev P n e S ⟨dst, .assign x, ty, pos, after, guard⟩ v := fun a ha w _ => by simp [execOp, ha.eval hx]
theorem ev_extract {x : Operand} {vs : Array Value} {i : Nat} {v : Value} (hx : look e x = some (.tuple vs)) (hv : vs[i]? = some v) : Ev P n e S ⟨dst, .extract x i, ty, pos, after, guard⟩ v := fun a ha w _ => by
  simp [execOp, ha.eval hx, Instr.extract, hv]
theorem ev_pick {c x y : Operand} {b : Bool} {u v : Value} (hc : look e c = some (.bool b)) (hx : b = true → look e x = some u) (hy : b = false → look e y = some v) : Ev P n e S ⟨dst, .pick c x y, ty, pos, after, guard⟩ (if b then u else v) := fun a ha w _ => by
  cases b
  · simp [execOp, ha.eval hc, ha.eval (hy rfl), asBool]
  · simp [execOp, ha.eval hc, ha.eval (hx rfl), asBool]
theorem ev_pick_t {c x y : Operand} {u : Value} (hc : look e c = some (.bool true)) (hx : look e x = some u) : Ev P n e S ⟨dst, .pick c x y, ty, pos, after, guard⟩ u := fun a ha w _ => by
  simp [execOp, ha.eval hc, ha.eval hx, asBool]
theorem ev_pick_f {c x y : Operand} {u : Value} (hc : look e c = some (.bool false)) (hx : look e y = some u) : Ev P n e S ⟨dst, .pick c x y, ty, pos, after, guard⟩ u := fun a ha w _ => by
  simp [execOp, ha.eval hc, ha.eval hx, asBool]
theorem ev_not {x : Operand} {b c : Bool} (hx : look e x = some (.bool b)) (hc : (!b) = c) {t : TypeId} : Ev P n e S ⟨dst, .unOp .not t x, ty, pos, after, guard⟩ (.bool c) := fun a ha w _ => by
  simp [execOp, ha.eval hx, Op.unary, hc]
theorem ev_nilCheck {x : Operand} {p : Addr} (hx : look e x = some (.pointer (some p))) : Ev P n e S ⟨dst, .nilCheck x, ty, pos, after, guard⟩ (.pointer (some p)) := fun a ha w _ => by
  simp [execOp, ha.eval hx]

/-! ### numbers -/
theorem ev_add {x y : Operand} {p q : Int} {t u : TypeId} (hx : look e x = some (.int .i64 p)) (hy : look e y = some (.int .i64 q)) (h : -9223372036854775808 ≤ p + q ∧ p + q ≤ 9223372036854775807) :
    Ev P n e S ⟨dst, .binOp .add t x y u, ty, pos, after, guard⟩ (.int .i64 (p + q)) := fun a ha w _ => by
  simp [execOp, ha.eval hx, ha.eval hy, eqGuard, binOp, Op.intArith, IntWalk.i64_in _ h]
theorem ev_sub {x y : Operand} {p q : Int} {t u : TypeId} (hx : look e x = some (.int .i64 p)) (hy : look e y = some (.int .i64 q)) (h : -9223372036854775808 ≤ p - q ∧ p - q ≤ 9223372036854775807) :
    Ev P n e S ⟨dst, .binOp .sub t x y u, ty, pos, after, guard⟩ (.int .i64 (p - q)) := fun a ha w _ => by
  simp [execOp, ha.eval hx, ha.eval hy, eqGuard, binOp, Op.intArith, IntWalk.i64_in _ h]
theorem ev_mul {x y : Operand} {p q : Int} {t u : TypeId} (hx : look e x = some (.int .i64 p)) (hy : look e y = some (.int .i64 q)) (h : -9223372036854775808 ≤ p * q ∧ p * q ≤ 9223372036854775807) :
    Ev P n e S ⟨dst, .binOp .mul t x y u, ty, pos, after, guard⟩ (.int .i64 (p * q)) := fun a ha w _ => by
  simp [execOp, ha.eval hx, ha.eval hy, eqGuard, binOp, Op.intArith, IntWalk.i64_in _ h]
theorem ev_neg {x : Operand} {p : Int} {t : TypeId} (hx : look e x = some (.int .i64 p)) (h : -9223372036854775807 ≤ p ∧ p ≤ 9223372036854775807) :
    Ev P n e S ⟨dst, .unOp .neg t x, ty, pos, after, guard⟩ (.int .i64 (-p)) := fun a ha w _ => by
  simp [execOp, ha.eval hx, Op.unary, Op.intArith, IntWalk.i64_in (-p) (by omega)]
theorem ev_negw {x : Operand} {p : Int} {t : TypeId} (hx : look e x = some (.int .i64 p)) :
    Ev P n e S ⟨dst, .unOp .neg t x, ty, pos, after, guard⟩ (.int .i64 (wrap64 (-p))) := fun a ha w _ => by
  simp [execOp, ha.eval hx, Op.unary, Op.intArith, IntWalk.i64_left]
theorem ev_quo {x y : Operand} {p q : Int} {t u : TypeId} (hx : look e x = some (.int .i64 p)) (hy : look e y = some (.int .i64 q)) (h : 0 ≤ p ∧ p ≤ 9223372036854775807 ∧ 1 ≤ q) :
    Ev P n e S ⟨dst, .binOp .quo t x y u, ty, pos, after, guard⟩ (.int .i64 (p / q)) := fun a ha w _ => by
  have hq : q ≠ 0 := by omega
  simp [execOp, ha.eval hx, ha.eval hy, eqGuard, binOp, Op.intDiv, hq, IntWalk.i64_quo _ _ h]
theorem ev_rem {x y : Operand} {p q : Int} {t u : TypeId} (hx : look e x = some (.int .i64 p)) (hy : look e y = some (.int .i64 q)) (h : 0 ≤ p ∧ 1 ≤ q) :
    Ev P n e S ⟨dst, .binOp .rem t x y u, ty, pos, after, guard⟩ (.int .i64 (p % q)) := fun a ha w _ => by
  have hq : q ≠ 0 := by omega
  simp [execOp, ha.eval hx, ha.eval hy, eqGuard, binOp, Op.intDiv, hq, IntWalk.rem_in _ _ h.1]
/-- The sign follows the dividend. -/
theorem ev_remt {x y : Operand} {p q : Int} {t u : TypeId} (hx : look e x = some (.int .i64 p)) (hy : look e y = some (.int .i64 q)) (h : 1 ≤ q) :
    Ev P n e S ⟨dst, .binOp .rem t x y u, ty, pos, after, guard⟩ (.int .i64 (p.tmod q)) := fun a ha w _ => by
  have hq : q ≠ 0 := by omega
  simp [execOp, ha.eval hx, ha.eval hy, eqGuard, binOp, Op.intDiv, hq]
theorem ev_shl {x y : Operand} {p q : Int} {t u : TypeId} (hx : look e x = some (.int .i64 p)) (hy : look e y = some (.int .i64 q)) (h0 : 0 ≤ q ∧ q ≤ 63) (h : -9223372036854775808 ≤ p * 2 ^ q.toNat ∧ p * 2 ^ q.toNat ≤ 9223372036854775807) :
    Ev P n e S ⟨dst, .binOp .shl t x y u, ty, pos, after, guard⟩ (.int .i64 (p * 2 ^ q.toNat)) := fun a ha w _ => by
  have h1 : ¬ q < 0 := by omega
  have h2 : min q.toNat IntKind.i64.bits = q.toNat := by simp [IntKind.bits]; omega
  simp only [execOp, ha.eval hx, ha.eval hy, eqGuard, binOp, Op.shift, h1, h2, IntWalk.i64_in _ h, if_false]
  rfl
theorem ev_shr {x y : Operand} {p q : Int} {t u : TypeId} (hx : look e x = some (.int .i64 p)) (hy : look e y = some (.int .i64 q)) (h0 : 0 ≤ q ∧ q ≤ 64) :
    Ev P n e S ⟨dst, .binOp .shr t x y u, ty, pos, after, guard⟩ (.int .i64 (p / 2 ^ q.toNat)) := fun a ha w _ => by
  have h1 : ¬ q < 0 := by omega
  have h2 : min q.toNat IntKind.i64.bits = q.toNat := by simp [IntKind.bits]; omega
  have h3 : p.fdiv (2 ^ q.toNat) = p / 2 ^ q.toNat := Int.fdiv_eq_ediv_of_nonneg _ (Int.le_of_lt (Int.pow_pos (by decide)))
  simp only [execOp, ha.eval hx, ha.eval hy, eqGuard, binOp, Op.shift, h1, h2, h3, if_false]
  rfl

theorem ev_lss {x y : Operand} {p q : Int} {t u : TypeId} (hx : look e x = some (.int .i64 p)) (hy : look e y = some (.int .i64 q)) : Ev P n e S ⟨dst, .binOp .lss t x y u, ty, pos, after, guard⟩ (.bool (decide (p < q))) := fun a ha w _ => by
  simp [execOp, ha.eval hx, ha.eval hy, eqGuard, binOp, Op.intCmp]
theorem ev_leq {x y : Operand} {p q : Int} {t u : TypeId} (hx : look e x = some (.int .i64 p)) (hy : look e y = some (.int .i64 q)) : Ev P n e S ⟨dst, .binOp .leq t x y u, ty, pos, after, guard⟩ (.bool (decide (p ≤ q))) := fun a ha w _ => by
  simp [execOp, ha.eval hx, ha.eval hy, eqGuard, binOp, Op.intCmp]
theorem ev_gtr {x y : Operand} {p q : Int} {t u : TypeId} (hx : look e x = some (.int .i64 p)) (hy : look e y = some (.int .i64 q)) : Ev P n e S ⟨dst, .binOp .gtr t x y u, ty, pos, after, guard⟩ (.bool (decide (q < p))) := fun a ha w _ => by
  simp [execOp, ha.eval hx, ha.eval hy, eqGuard, binOp, Op.intCmp]
theorem ev_geq {x y : Operand} {p q : Int} {t u : TypeId} (hx : look e x = some (.int .i64 p)) (hy : look e y = some (.int .i64 q)) : Ev P n e S ⟨dst, .binOp .geq t x y u, ty, pos, after, guard⟩ (.bool (decide (q ≤ p))) := fun a ha w _ => by
  simp [execOp, ha.eval hx, ha.eval hy, eqGuard, binOp, Op.intCmp]
theorem ev_eq {x y : Operand} {p q : Int} {t u : TypeId} (hx : look e x = some (.int .i64 p)) (hy : look e y = some (.int .i64 q)) : Ev P n e S ⟨dst, .binOp .eql t x y u, ty, pos, after, guard⟩ (.bool (decide (p = q))) := fun a ha w _ => by
  simp only [execOp, ha.eval hx, ha.eval hy]
  by_cases h : p = q <;> simp [eqGuard, binOp, Op.intCmp, h]
theorem ev_ne {x y : Operand} {p q : Int} {t u : TypeId} (hx : look e x = some (.int .i64 p)) (hy : look e y = some (.int .i64 q)) : Ev P n e S ⟨dst, .binOp .neq t x y u, ty, pos, after, guard⟩ (.bool (decide (p ≠ q))) := fun a ha w _ => by
  simp only [execOp, ha.eval hx, ha.eval hy]
  by_cases h : p = q <;> simp [eqGuard, binOp, Op.intCmp, h, bne]
theorem ev_eqb {x y : Operand} {p q : Bool} {t u : TypeId} (ht : P.underlying t = some .bool) (hx : look e x = some (.bool p)) (hy : look e y = some (.bool q)) : Ev P n e S ⟨dst, .binOp .eql t x y u, ty, pos, after, guard⟩ (.bool (decide (p = q))) := fun a ha w _ => by
  have hr := run_eql_bool w t p q ht
  simp only [execOp, ha.eval hx, ha.eval hy]
  cases p <;> cases q <;> simp [eqGuard, hr]
theorem ev_neb {x y : Operand} {p q : Bool} {t u : TypeId} (ht : P.underlying t = some .bool) (hx : look e x = some (.bool p)) (hy : look e y = some (.bool q)) : Ev P n e S ⟨dst, .binOp .neq t x y u, ty, pos, after, guard⟩ (.bool (decide (p ≠ q))) := fun a ha w _ => by
  have hr := run_neq_bool w t p q ht
  simp only [execOp, ha.eval hx, ha.eval hy]
  cases p <;> cases q <;> simp [eqGuard, hr]
end
end Go.Proofs.Ythpaadmpgdglnaa
