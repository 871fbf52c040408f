/- Rows as wholes and windows of them: cut, copied into, cleared, grown in place, stored into. No condition. -/
import Derived.Test.YthpaadmpgdglnaaK9
namespace Go.Proofs.Ythpaadmpgdglnaa
set_option linter.unusedSimpArgs false
set_option linter.unusedSectionVars false
set_option linter.unusedVariables false
open Go Go.RowKit
/-- Block b is a row of whole elements, k cells each. -/
def Fr (w : World) (b : Nat) (E : TypeId) (k : Nat) (fs : List (List Value)) : Prop := (∀ x ∈ fs, x.length = k) ∧ Bx w b E fs.flatten.toArray
theorem Fr.lt {w : World} {b k : Nat} {E : TypeId} {fs : List (List Value)} (h : Fr w b E k fs) : b < w.heap.size := h.2.lt
theorem Fr.kp {W : Nat → Prop} {w w' : World} {b k : Nat} {E : TypeId} {fs : List (List Value)} (h : Fr w b E k fs) (g : Kp W w w') (hn : ¬ W b) : Fr w' b E k fs := ⟨h.1, h.2.kp g hn⟩
theorem Fr.ex {w w' : World} {b k : Nat} {E : TypeId} {fs : List (List Value)} (h : Fr w b E k fs) (g : Ex w w') : Fr w' b E k fs := h.kp g id
theorem chunk (k : Nat) : ∀ (n : Nat) (cs : List Value), cs.length = n * k → ∃ fs : List (List Value), fs.length = n ∧ (∀ x ∈ fs, x.length = k) ∧ fs.flatten = cs
  | 0, cs, h => ⟨[], rfl, by simp, by have : cs = [] := List.eq_nil_of_length_eq_zero (by simpa using h); simp [this]⟩
  | n + 1, cs, h => by
    have hk : k ≤ cs.length := by rw [h, Nat.add_mul]; omega
    obtain ⟨fs, h1, h2, h3⟩ := chunk k n (cs.drop k) (by rw [List.length_drop, h, Nat.add_mul]; omega)
    refine ⟨cs.take k :: fs, by simp [h1], ?_, by rw [List.flatten_cons, h3, List.take_append_drop]⟩
    intro x hx
    rcases List.mem_cons.1 hx with rfl | hx
    · rw [List.length_take]; omega
    · exact h2 x hx
theorem flat_take {k : Nat} {fs : List (List Value)} (h : ∀ x ∈ fs, x.length = k) (n : Nat) : fs.flatten.take (n * k) = (fs.take n).flatten := by
  induction fs generalizing n with
  | nil => simp
  | cons x fs ih =>
    cases n with
    | zero => simp
    | succ n =>
      have hx : x.length = k := h x (by simp)
      rw [List.take_succ_cons, List.flatten_cons, List.flatten_cons, Nat.add_mul, Nat.one_mul, Nat.add_comm, ← hx, List.take_length_add_append, hx, ih (fun y hy => h y (by simp [hy]))]
theorem flat_drop {k : Nat} {fs : List (List Value)} (h : ∀ x ∈ fs, x.length = k) (n : Nat) : fs.flatten.drop (n * k) = (fs.drop n).flatten := by
  induction fs generalizing n with
  | nil => simp
  | cons x fs ih =>
    cases n with
    | zero => simp
    | succ n =>
      have hx : x.length = k := h x (by simp)
      rw [List.drop_succ_cons, List.flatten_cons, Nat.add_mul, Nat.one_mul, Nat.add_comm, ← hx, List.drop_length_add_append, hx, ih (fun y hy => h y (by simp [hy]))]
theorem flat_inj {k : Nat} : ∀ {a b : List (List Value)}, (∀ x ∈ a, x.length = k) → (∀ x ∈ b, x.length = k) → a.length = b.length → a.flatten = b.flatten → a = b
  | [], [], _, _, _, _ => rfl
  | [], _ :: _, _, _, h, _ => by simp at h
  | _ :: _, [], _, _, h, _ => by simp at h
  | x :: a, y :: b, ha, hb, h, e => by
    have hx : x.length = k := ha x (by simp)
    have hy : y.length = k := hb y (by simp)
    rw [List.flatten_cons, List.flatten_cons] at e
    obtain ⟨e1, e2⟩ := List.append_inj e (by rw [hx, hy])
    rw [e1, flat_inj (fun z hz => ha z (by simp [hz])) (fun z hz => hb z (by simp [hz])) (by simpa using h) e2]
theorem Ow.full {w : World} {B : Nat} {E : TypeId} {v : Value} {k : Nat} {es : List (List Value)} (h : Ow w B E v k es) :
    (v = .slice none 0 0 ∧ es = []) ∨ ∃ b fs, v = .slice (some ⟨b, 0, none⟩) es.length fs.length ∧ B ≤ b ∧ Fr w b E k fs ∧ fs.take es.length = es ∧ es.length ≤ fs.length ∧ fs.length ≤ maxLen := by
  obtain ⟨hkk, hl, h2⟩ := h
  rcases h2 with ⟨rfl, h0⟩ | ⟨b, cap, cur, rfl, hB, hh, hn, hm, hs, ht⟩
  · exact .inl ⟨rfl, List.eq_nil_of_length_eq_zero h0⟩
  · obtain ⟨fs, h1, h2, h3⟩ := chunk k cap cur.toList (by simpa using hs)
    refine .inr ⟨b, fs, by rw [h1], hB, ⟨h2, ?_⟩, ?_, by omega, by omega⟩
    · rw [h3]; exact hh
    · refine flat_inj (k := k) (fun x hx => h2 x (List.mem_of_mem_take hx)) hkk (by rw [List.length_take]; omega) ?_
      rw [← flat_take h2, h3, ht]
theorem Fr.ow {w : World} {B b : Nat} {E : TypeId} {k : Nat} {fs : List (List Value)} (h : Fr w b E k fs) (hB : B ≤ b) {n : Nat} (hn : n ≤ fs.length) (hm : fs.length ≤ maxLen) : Ow w B E (.slice (some ⟨b, 0, none⟩) n fs.length) k (fs.take n) := by
  have hkt : ∀ x ∈ fs.take n, x.length = k := fun x hx => h.1 x (List.mem_of_mem_take hx)
  have hlt : (fs.take n).length = n := by rw [List.length_take]; omega
  refine ⟨hkt, flatten_length hkt, .inr ⟨b, fs.length, fs.flatten.toArray, by rw [hlt], hB, h.2, by rw [hlt]; exact hn, hm, by simpa using flatten_length h.1, ?_⟩⟩
  rw [hlt]
  simpa using flat_take h.1 n
theorem Fr.cells {w : World} {b : Nat} {E : TypeId} {k : Nat} {fs : List (List Value)} (h : Fr w b E k fs) {i j : Nat} {x : List Value} (hx : fs[i]? = some x) (hj : j < k) : w.cell? ⟨b, i * k + j, none⟩ = x[j]? := by
  rw [h.2.cell, ← flat_at h.1 hx hj]
  simp
theorem Fr.sl {w : World} {b : Nat} {E : TypeId} {k : Nat} {fs : List (List Value)} {A : Nat → Prop} (h : Fr w b E k fs) (hA : A b) {i n c o : Nat} (ho : n = 0 ∨ o = i * k) (hn : i + n ≤ fs.length) (hc : n ≤ c) (hm : c ≤ maxLen) : Sl w A (.slice (some ⟨b, o, none⟩) n c) k ((fs.drop i).take n) := by
  rcases ho with rfl | rfl
  · exact ⟨by simp, some ⟨b, o, none⟩, c, by simp, by simp, hm, (fun h => by cases h), .inl (by simp)⟩
  have hlen : ((fs.drop i).take n).length = n := by rw [List.length_take, List.length_drop]; omega
  refine ⟨fun x hx => h.1 x (List.mem_of_mem_drop (List.mem_of_mem_take hx)), _, c, by rw [hlen], by omega, hm, (fun h => by cases h), .inr ⟨b, i * k, rfl, hA, h.lt, fun p j x hx hj => ?_⟩⟩
  rw [List.getElem?_take] at hx
  split at hx
  · rw [List.getElem?_drop] at hx
    rw [show i * k + (p * k + j) = (i + p) * k + j by rw [Nat.add_mul]; omega]
    exact h.cells hx hj
  · cases hx
/-- .. of typed elements. -/
theorem Fr.slw {α : Type} {f : α → List Value} {w : World} {b k : Nat} {E : TypeId} {l : List α} {sp : List (List Value)} (h : Fr w b E k (l.map f ++ sp)) {A : Nat → Prop} (hA : A b) {d n c o : Nat} (ho : n = 0 ∨ o = d * k) (hn : d + n ≤ l.length) (hc : n ≤ c) (hm : c ≤ maxLen) :
    Sl w A (.slice (some ⟨b, o, none⟩) n c) k (((l.drop d).take n).map f) := by
  have h1 := h.sl hA (i := d) ho (n := n) (by rw [List.length_append, List.length_map]; omega) hc hm
  have e : ((l.map f ++ sp).drop d).take n = ((l.drop d).take n).map f := by
    rw [List.drop_append_of_le_length (by rw [List.length_map]; omega), List.take_append_of_le_length (by rw [List.length_drop, List.length_map]; omega), List.map_take, List.map_drop]
  rwa [e] at h1
theorem Fr.slt {α : Type} {f : α → List Value} {w : World} {b k : Nat} {E : TypeId} {l : List α} {sp : List (List Value)} (h : Fr w b E k (l.map f ++ sp)) {A : Nat → Prop} (hA : A b) {d n c o : Nat} (ho : n = 0 ∨ o = d * k) (hn : d + n = l.length) (hc : n ≤ c) (hm : c ≤ maxLen) :
    Sl w A (.slice (some ⟨b, o, none⟩) n c) k ((l.drop d).map f) := by
  have h1 := h.slw hA ho (Nat.le_of_eq hn) hc hm
  rwa [List.take_of_length_le (by rw [List.length_drop]; omega)] at h1
theorem Fr.sl0 {α : Type} {f : α → List Value} {w : World} {b k : Nat} {E : TypeId} {l : List α} {sp : List (List Value)} (h : Fr w b E k (l.map f ++ sp)) {A : Nat → Prop} (hA : A b) {n c : Nat} (hn : n = l.length) (hc : n ≤ c) (hm : c ≤ maxLen) :
    Sl w A (.slice (some ⟨b, 0, none⟩) n c) k (l.map f) := by
  have h1 := h.slt hA (d := 0) (o := 0) (.inr (by omega)) (n := n) (by omega) hc hm
  simpa using h1
theorem Fr.set_enc {α : Type} {f : α → List Value} {w : World} {b k j i q : Nat} {E : TypeId} {l : List α} {sp : List (List Value)} {c : α} {x : List Value} (h : Fr w b E k ((l.map f ++ sp).set (i + q) x)) (hij : i + q = j) (hj : j < l.length) (hx : x = f c := by rfl) : Fr w b E k ((l.set j c).map f ++ sp) := by
  subst hx; subst hij
  rwa [List.set_append_left _ _ (by rw [List.length_map]; exact hj), ← List.map_set] at h
/-- The row behind xs laid over it from place d on. -/
def over (fs : List (List Value)) (d : Nat) (xs : List (List Value)) : List (List Value) := fs.take d ++ xs ++ fs.drop (d + xs.length)
theorem over_tail {α : Type} {f : α → List Value} {m : List α} {sp : List (List Value)} {k n : Nat} (hn : k + n = m.length) (z : List Value) : over (m.map f ++ sp) k (List.replicate n z) = (m.take k).map f ++ (List.replicate n z ++ sp) := by
  rw [over, List.length_replicate, hn, List.take_append_of_le_length (by rw [List.length_map]; omega), ← List.map_take]
  have : (m.map f ++ sp).drop m.length = sp := by
    have hh := List.drop_left (l₁ := m.map f) (l₂ := sp)
    rwa [List.length_map] at hh
  rw [this, List.append_assoc]
theorem over_in {α : Type} {f : α → List Value} {l ns : List α} {sp : List (List Value)} {d : Nat} (h : d + ns.length ≤ l.length) : over (l.map f ++ sp) d (ns.map f) = (l.take d ++ ns ++ l.drop (d + ns.length)).map f ++ sp := by
  rw [over, List.length_map, List.take_append_of_le_length (by rw [List.length_map]; omega), List.drop_append_of_le_length (by rw [List.length_map]; omega), ← List.map_take, ← List.map_drop]
  simp
theorem over_out {α : Type} {f : α → List Value} {l ns : List α} {sp : List (List Value)} {d : Nat} (h : d ≤ l.length) : over (l.map f ++ sp) d (ns.map f) = (l.take d ++ ns).map f ++ (l.map f ++ sp).drop (d + ns.length) := by
  rw [over, List.length_map, List.take_append_of_le_length (by rw [List.length_map]; omega), ← List.map_take]
  simp
theorem over_end {α : Type} {f : α → List Value} {l : List α} {sp xs : List (List Value)} {d : Nat} (h : d = l.length) : over (l.map f ++ sp) d xs = l.map f ++ over sp 0 xs := by
  subst h
  have e1 : (l.map f ++ sp).take l.length = l.map f := by
    have hh := List.take_left (l₁ := l.map f) (l₂ := sp)
    rwa [List.length_map] at hh
  have e2 : (l.map f ++ sp).drop (l.length + xs.length) = sp.drop xs.length := by
    have hh := List.drop_length_add_append (l₁ := l.map f) (l₂ := sp) (i := xs.length)
    rwa [List.length_map] at hh
  rw [over, over, e1, e2]
  simp
theorem over_len {fs xs : List (List Value)} {d : Nat} (h : d + xs.length ≤ fs.length) : (over fs d xs).length = fs.length := by
  simp only [over, List.length_append, List.length_take, List.length_drop]; omega
theorem over_k {k : Nat} {fs xs : List (List Value)} {d : Nat} (h : ∀ x ∈ fs, x.length = k) (g : ∀ x ∈ xs, x.length = k) : ∀ x ∈ over fs d xs, x.length = k := by
  intro x hx
  rcases List.mem_append.1 hx with hx | hx
  · rcases List.mem_append.1 hx with hx | hx
    · exact h x (List.mem_of_mem_take hx)
    · exact g x hx
  · exact h x (List.mem_of_mem_drop hx)
theorem over_flat {k : Nat} {fs xs : List (List Value)} {d : Nat} (h : ∀ x ∈ fs, x.length = k) (g : ∀ x ∈ xs, x.length = k) : (over fs d xs).flatten = fs.flatten.take (d * k) ++ xs.flatten ++ fs.flatten.drop (d * k + xs.flatten.length) := by
  rw [flatten_length g, ← Nat.add_mul, flat_take h, flat_drop h]
  simp [over]
section
variable {P : Program} {n : Nat} {e : Env} {S : World → Prop} {w : World} {dst : Option Tmp} {ty : TypeId} {pos : String} {after : Array Edge} {guard : Option (Nat × Bool)}
theorem over_bx {b : Nat} {E : TypeId} {k : Nat} {fs xs : List (List Value)} {d o : Nat} (h : Fr w b E k fs) (g : ∀ x ∈ xs, x.length = k) (hfit : d + xs.length ≤ fs.length) (h1 : ∀ u ∈ xs.flatten, u.oneCell' = true) (ho : xs = [] ∨ o = d * k) :
    ∃ w', (storeCells ⟨b, o, none⟩ xs.flatten).run P w = .ok () w' ∧ Kp (fun q => q = b) w w' ∧ Fr w' b E k (over fs d xs) := by
  rcases ho with rfl | rfl
  · refine ⟨w, by simp [storeCells], Kp.refl _ _, ?_⟩
    simp only [over, List.append_nil, List.length_nil, Nat.add_zero, List.take_append_drop]
    exact h
  · have hf : d * k + xs.flatten.length ≤ fs.flatten.length := by
      rw [flatten_length g, flatten_length h.1, ← Nat.add_mul]
      exact Nat.mul_le_mul_right k hfit
    have hr := run_storeCells_at P b (d * k) E xs.flatten 0 fs.flatten.toArray w h.2 (by simpa using hf) h1
    simp only [Nat.add_zero] at hr
    refine ⟨_, hr, Kp.of_setRow _ _, over_k h.1 g, ?_⟩
    rw [over_flat h.1 g]
    exact setRow_heap w b _ _ E (0, 0) h.2
/-- A window cut out of a window; its capacity is not used up. -/
theorem ev_win {x : Operand} {t E k b off len cap : Nat} {lo hi : Option Operand} {l h : Int} (hx : look e x = some (.slice (some ⟨b, off, none⟩) len cap)) (hf : elOf P t = some (E, k))
    (hlo : (lo = none ∧ l = 0) ∨ ∃ y, lo = some y ∧ look e y = some (.int .i64 l)) (hhi : (hi = none ∧ h = len) ∨ ∃ y, hi = some y ∧ look e y = some (.int .i64 h)) (hb : 0 ≤ l ∧ l ≤ h ∧ h ≤ cap ∧ l < cap) {o : Nat} (ho : off + l.toNat * k = o) :
    Ev P n e S ⟨dst, .slice t x lo hi none, ty, pos, after, guard⟩ (.slice (some ⟨b, o, none⟩) (h.toNat - l.toNat) (cap - l.toNat)) := fun a ha w _ => by
  subst ho
  obtain ⟨hu, inf, hinf, rfl⟩ := el_parts hf
  have he : P.elem t = E := by simp [Program.elem, hu]
  have hsz : (sizeOf (P.elem t)).run P w = .ok inf.size w := by rw [he]; exact run_sizeOf hinf
  have hat := run_sliceAt_slice (P := P) w t (.slice (some ⟨b, off, none⟩) len cap) (lo.map a.eval) (hi.map a.eval) none (by rw [he]; exact hu)
  have hne : ¬ cap = l.toNat := by omega
  rcases hlo with ⟨rfl, rfl⟩ | ⟨y, rfl, hy⟩ <;> rcases hhi with ⟨rfl, rfl⟩ | ⟨z, rfl, hz⟩
  · have := run_slice_all (P := P) w t (some ⟨b, off, none⟩) len cap (by rw [he]; exact hu)
    simp only [execOp, ha.eval hx, Option.map_none] at hat ⊢
    simp at hne
    simp [hat, this, hsz, sliced, add_none]
    try omega
  · have := run_slice_h (P := P) w t (some ⟨b, off, none⟩) len cap (by rw [he]; exact hu) .i64 h (by omega) hb.2.2.1
    simp only [execOp, ha.eval hx, Option.map_none, Option.map_some, ha.eval hz] at hat ⊢
    simp at hne
    simp [hat, this, hsz, sliced, add_none]
    try omega
  · have := run_slice_l (P := P) w t (some ⟨b, off, none⟩) len cap (by rw [he]; exact hu) .i64 l hb.1 hb.2.1
    simp only [execOp, ha.eval hx, Option.map_none, Option.map_some, ha.eval hy] at hat ⊢
    simp [hat, this, hsz, sliced, add_none, hne]
  · have := run_slice_lh (P := P) w t (some ⟨b, off, none⟩) len cap (by rw [he]; exact hu) .i64 .i64 l h hb.1 hb.2.1 hb.2.2.1
    simp only [execOp, ha.eval hx, Option.map_none, Option.map_some, ha.eval hy, ha.eval hz] at hat ⊢
    simp [hat, this, hsz, sliced, add_none, hne]
/-- .. with a third index (the result is not used further). -/
theorem ev_win3 {x y z u : Operand} {t E k b off len cap : Nat} {l h m : Int} (hx : look e x = some (.slice (some ⟨b, off, none⟩) len cap)) (hf : elOf P t = some (E, k))
    (hy : look e y = some (.int .i64 l)) (hz : look e z = some (.int .i64 h)) (hu : look e u = some (.int .i64 m)) (hb : 0 ≤ l ∧ l ≤ h ∧ h ≤ m ∧ m ≤ cap ∧ l < m) {o : Nat} (ho : off + l.toNat * k = o) :
    Ev P n e S ⟨dst, .slice t x (some y) (some z) (some u), ty, pos, after, guard⟩ (.slice (some ⟨b, o, none⟩) (h.toNat - l.toNat) (m.toNat - l.toNat)) := fun a ha w _ => by
  subst ho
  obtain ⟨hu', inf, hinf, rfl⟩ := el_parts hf
  have he : P.elem t = E := by simp [Program.elem, hu']
  have hat := run_sliceAt_slice (P := P) w t (.slice (some ⟨b, off, none⟩) len cap) (some (a.eval y)) (some (a.eval z)) (some (a.eval u)) (by rw [he]; exact hu')
  have hne : ¬ m.toNat = l.toNat := by omega
  have b1 := run_sliceBound (P := P) w .i64 m cap .slice3Acap (by omega) (by omega)
  have b2 := run_sliceBound (P := P) w .i64 h m.toNat .slice3B (by omega) (by omega)
  have b3 := run_sliceBound (P := P) w .i64 l h.toNat .slice3C (by omega) (by omega)
  simp only [execOp, ha.eval hx, Option.map_some, ha.eval hy, ha.eval hz, ha.eval hu] at hat ⊢
  simp only [Sem.run_bind, hat, Instr.slice, run_underlying hu', Instr.sliceBounds, if_true, b1, b2, b3, Result.andThen_ok, Option.isSome_some, run_sizeOf hinf, Sem.run_pure, hne, if_false, Option.map_some, add_none]
theorem ev_cap {x : Operand} {t E k m c : Nat} {a0 : Option Addr} {ats : Array TypeId} (hx : look e x = some (.slice a0 m c)) (hf : elOf P t = some (E, k)) (hat : ats[0]? = some t) :
    Ev P n e S ⟨dst, .call ⟨.builtin .cap, #[x], ats⟩, ty, pos, after, guard⟩ (.int .i64 (c : Int)) := fun a ha w _ => by
  obtain ⟨hu, inf, hinf, rfl⟩ := el_parts hf
  simp [execOp, resolve, invoke, builtin, ha.eval hx, Builtin.cap_, hat, underlying, hu, goInt]
theorem ev_lenw {x : Operand} {t E k m c : Nat} {a0 : Option Addr} {ats : Array TypeId} (hx : look e x = some (.slice a0 m c)) (hf : elOf P t = some (E, k)) (hat : ats[0]? = some t) :
    Ev P n e S ⟨dst, .call ⟨.builtin .len, #[x], ats⟩, ty, pos, after, guard⟩ (.int .i64 (m : Int)) := fun a ha w _ => by
  obtain ⟨hu, inf, hinf, rfl⟩ := el_parts hf
  simp [execOp, resolve, invoke, builtin, ha.eval hx, Builtin.len_, hat, underlying, hu, goInt]
/-- The cells of the first m elements of a slice. -/
theorem Sl.first {A : Nat → Prop} {v : Value} {k : Nat} {ns : List (List Value)} (h : Sl w A v k ns) (hk : 0 < k) {m : Nat} (hm : m ≤ ns.length) : ∃ a c, v = .slice a ns.length c ∧ (a = none → ns = []) ∧ ∀ a', a = some a' → (Builtin.firstCells k m v).run P w = .ok (ns.take m).flatten.toArray w := by
  obtain ⟨hnk, a, cap, rfl, h3, h4, h6, h5⟩ := h
  refine ⟨a, cap, rfl, fun ha => List.eq_nil_of_length_eq_zero (by have := h6 ha; omega), ?_⟩
  rintro ⟨a1, o1, s1⟩ rfl
  have hl : (ns.take m).flatten.length = m * k := by rw [flatten_length (fun x hx => hnk x (List.mem_of_mem_take hx)), List.length_take, Nat.min_eq_left hm]
  refine run_firstCells_some (P := P) w k m _ ns.length cap _ hl ?_
  intro j u hu
  have hj : j < m * k := by have := (List.getElem?_eq_some_iff.1 hu).1; omega
  rcases h5 with rfl | ⟨b, off, hab, _, _, hc⟩
  · simp at hm; subst hm; simp at hj
  · simp only [Option.some.injEq, Addr.mk.injEq] at hab
    obtain ⟨rfl, rfl, rfl⟩ := hab
    rw [add_none]
    have hd : j = j / k * k + j % k := by rw [Nat.mul_comm]; exact (Nat.div_add_mod j k).symm
    have hq : j / k < m := Nat.div_lt_of_lt_mul (by rw [Nat.mul_comm]; exact hj)
    have hmk : j % k < k := Nat.mod_lt _ hk
    have hx : ns[j / k]? = some ns[j / k] := List.getElem?_eq_getElem (by omega)
    have hx' : (ns.take m)[j / k]? = some ns[j / k] := by rw [List.getElem?_take, if_pos hq, hx]
    rw [hd, hc (j / k) (j % k) _ hx hmk, ← flat_at (fun x hx => hnk x (List.mem_of_mem_take hx)) hx' hmk, ← hd]
    exact hu
/-- copy(dst, src): dst a window of a row that is known whole. -/
theorem op_wcopy {x y : Operand} {t E E' k b d o dn dc : Nat} {v : Value} {fs ns : List (List Value)} {A : Nat → Prop} {t2 : TypeId} (hf : elOf P t = some (E', k)) (hk : 0 < k) (hr : Fr w b E k fs) (hs : Sl w A v k ns) (hx : look e x = some (.slice (some ⟨b, o, none⟩) dn dc)) (hy : look e y = some v)
    {m : Nat} (hm : min ns.length dn = m) (hfit : d + m ≤ fs.length) (ho : m = 0 ∨ o = d * k) (h1 : ∀ u ∈ (ns.take m).flatten, u.oneCell' = true) :
    Op1 P n e w ⟨dst, .call ⟨.builtin .copy, #[x, y], #[t, t2]⟩, ty, pos, after, guard⟩ (fun v' w' => v' = .int .i64 (m : Int) ∧ Kp (fun q => q = b) w w' ∧ Fr w' b E k (over fs d (ns.take m))) := Op1.of_run fun a ha => by
  obtain ⟨hu, inf, hinf, hik⟩ := el_parts hf
  have hml : m ≤ ns.length := by omega
  have hmk : (ns.take m).length = m := by rw [List.length_take]; omega
  obtain ⟨a1, c1, rfl, hnil, hfirst⟩ := hs.first (P := P) hk hml
  obtain ⟨w', hst, hkp, hfr⟩ := over_bx (P := P) (o := o) hr (fun x hx => hs.1 x (List.mem_of_mem_take hx)) (by rw [hmk]; exact hfit) h1 (ho.imp (fun h => by rw [h]; rfl) id)
  refine ⟨_, w', ?_, rfl, hkp, hfr⟩
  cases a1 with
  | none =>
    have hn := hnil rfl
    subst hn
    simp at hmk
    have h0 : m = 0 := by simpa using hm.symm
    subst h0
    simp [storeCells] at hst
    subst hst
    simp [execOp, resolve, invoke, ha.eval hx, ha.eval hy, builtin, Builtin.copy_, run_underlying hu, Builtin.lenOf, run_sizeOf hinf, Builtin.firstCells, storeCells, goInt]
  | some a1 =>
    have hfc := hfirst a1 rfl
    have hmm : Nat.min ns.length dn = m := hm
    simp [execOp, resolve, invoke, ha.eval hx, ha.eval hy, builtin, Builtin.copy_, run_underlying hu, Builtin.lenOf, hmm, run_sizeOf hinf, hik, hfc, hst, goInt]
/-- clear(x): x a window of a row that is known whole. -/
theorem op_wclear {x : Operand} {t E k b d o dn dc : Nat} {fs : List (List Value)} {z : List Value} (hu : P.underlying t = some (.slice E)) (hz : ∀ w, (zeroValue E).run P w = .ok (.agg z.toArray) w) (hzk : z.length = k) (hk : 0 < k) (hz1 : ∀ u ∈ z, u.oneCell' = true) (hr : Fr w b E k fs) (hx : look e x = some (.slice (some ⟨b, o, none⟩) dn dc))
    (hfit : d + dn ≤ fs.length) (ho : dn = 0 ∨ o = d * k) :
    Op1 P n e w ⟨dst, .call ⟨.builtin .clear, #[x], #[t]⟩, ty, pos, after, guard⟩ (fun v' w' => Kp (fun q => q = b) w w' ∧ Fr w' b E k (over fs d (List.replicate dn z))) := Op1.of_run fun a ha => by
  obtain ⟨w', hst, hkp, hfr⟩ := over_bx (P := P) (o := o) (xs := List.replicate dn z) hr (fun x hx => by rw [(List.mem_replicate.1 hx).2]; exact hzk) (by simpa using hfit) (by
    intro u hu
    obtain ⟨l, hl, hul⟩ := List.mem_flatten.1 hu
    rw [(List.mem_replicate.1 hl).2] at hul
    exact hz1 u hul) (ho.imp (fun h => by rw [h]; rfl) id)
  refine ⟨.tuple #[], w', ?_, hkp, hfr⟩
  cases dn with
  | zero =>
    simp [storeCells] at hst
    subst hst
    simp [execOp, resolve, invoke, ha.eval hx, builtin, Builtin.clear_, run_underlying hu]
  | succ dn =>
    have hzc : (Builtin.zeroCells (Value.agg z.toArray).cells (dn + 1)).toList = (List.replicate (dn + 1) z).flatten := by
      have e1 : (Value.agg z.toArray).cells = z.toArray := rfl
      rw [e1]
      have hzl : 0 < z.length := by omega
      apply List.ext_getElem?
      intro j
      simp only [Builtin.zeroCells, List.size_toArray]
      by_cases hj : j < (dn + 1) * z.length
      · have hd : j = j / z.length * z.length + j % z.length := by rw [Nat.mul_comm]; exact (Nat.div_add_mod j z.length).symm
        have hq : j / z.length < dn + 1 := Nat.div_lt_of_lt_mul (by rw [Nat.mul_comm]; exact hj)
        have hm : j % z.length < z.length := Nat.mod_lt _ hzl
        have hx' : (List.replicate (dn + 1) z)[j / z.length]? = some z := by rw [List.getElem?_replicate, if_pos hq]
        have hg := flat_at (k := z.length) (es := List.replicate (dn + 1) z) (fun x hx => by rw [(List.mem_replicate.1 hx).2]) hx' hm
        rw [← hd] at hg
        rw [hg]
        simp [hj, getElem!_def, List.getElem?_eq_getElem hm]
      · rw [List.getElem?_eq_none (by simpa using hj), List.getElem?_eq_none (by rw [flatten_length (k := z.length) (fun x hx => by rw [(List.mem_replicate.1 hx).2]), List.length_replicate]; omega)]
    rw [← hzc] at hst
    simp [execOp, resolve, invoke, ha.eval hx, builtin, Builtin.clear_, run_underlying hu, hz, hst]
/-- append(x, src...) with room: x the head of a row that is known whole. -/
theorem op_wapp {x y : Operand} {t E k b m : Nat} {v : Value} {fs ns : List (List Value)} {A : Nat → Prop} (hf : elOf P t = some (E, k)) (hk : 0 < k) (hr : Fr w b E k fs) (hs : Sl w A v k ns) {c N : Nat} (hx : look e x = some (.slice (some ⟨b, 0, none⟩) m c)) (hy : look e y = some v)
    (hcap : c = fs.length) (hroom : m + ns.length ≤ fs.length) (hN : m + ns.length = N) (h1 : ∀ u ∈ ns.flatten, u.oneCell' = true) :
    Op1 P n e w ⟨dst, .call ⟨.builtin .append, #[x, y], #[t, t]⟩, ty, pos, after, guard⟩ (fun v' w' => v' = .slice (some ⟨b, 0, none⟩) N c ∧ Kp (fun q => q = b) w w' ∧ Fr w' b E k (over fs m ns)) := Op1.of_run fun a ha => by
  subst hcap hN
  obtain ⟨hu, inf, hinf, rfl⟩ := el_parts hf
  obtain ⟨a1, c1, rfl, hnil, hfirst⟩ := hs.first (P := P) hk (Nat.le_refl ns.length)
  obtain ⟨w', hst, hkp, hfr⟩ := over_bx (P := P) (o := m * inf.size) hr hs.1 hroom h1 (.inr rfl)
  refine ⟨_, w', ?_, rfl, hkp, hfr⟩
  cases a1 with
  | none =>
    have hn := hnil rfl
    subst hn
    simp [storeCells] at hst
    subst hst
    simp at hroom
    simp [execOp, resolve, invoke, ha.eval hx, ha.eval hy, builtin, Builtin.append_, run_underlying hu, run_sizeOf hinf, Builtin.lenOf, hroom, Builtin.firstCells, storeCells]
  | some a1 =>
    have hfc := hfirst a1 rfl
    rw [List.take_length] at hfc
    simp [execOp, resolve, invoke, ha.eval hx, ha.eval hy, builtin, Builtin.append_, run_underlying hu, run_sizeOf hinf, Builtin.lenOf, hroom, hfc, add_none, hst]
/-- x[j] = y: x a window of a row that is known whole. -/
theorem op_wstore {x y : Operand} {t E k b i j o q c : Nat} {u : Value} {fs : List (List Value)} (hr : Fr w b E k fs) (hx : look e x = some (elemPtr (.slice (some ⟨b, o, none⟩) q c) j k 0)) (ho : o = i * k) (hy : look e y = some u)
    (hk : (P.info? t).map (·.size) = some k) (hu : u.cells.size = k) (h1 : ∀ v ∈ u.cells.toList, v.oneCell' = true) (hfit : i + j < fs.length) :
    Op1 P n e w ⟨dst, .store t x y, ty, pos, after, guard⟩ (fun _ w' => Kp (fun q => q = b) w w' ∧ Fr w' b E k (fs.set (i + j) u.cells.toList)) := Op1.of_skip fun a ha => by
  subst ho
  obtain ⟨w', hst, hkp, hfr⟩ := over_bx (P := P) (d := i + j) (o := (i + j) * k) (xs := [u.cells.toList]) hr (fun x hx => by rw [List.mem_singleton.1 hx]; simpa using hu) (by simp; omega) (by simpa using h1) (.inr rfl)
  refine ⟨w', ?_, hkp, ?_⟩
  · cases hi : P.info? t with
    | none => rw [hi] at hk; cases hk
    | some inf =>
      rw [hi] at hk
      simp only [Option.map_some, Option.some.injEq] at hk
      have hsc : (storeVar t ⟨b, (i + j) * k, none⟩ u).run P w = .ok () w' := by
        simp only [List.flatten_cons, List.flatten_nil, List.append_nil] at hst
        simp [storeVar, run_sizeOf hi, hk, hu, hst]
      have e1 : i * k + (j * k + 0) = (i + j) * k := by rw [Nat.add_mul]; omega
      simp [execOp, ha.eval hx, ha.eval hy, elemPtr, Instr.storeAt, Instr.sureAddr, ← e1] at hsc ⊢
      rw [← Nat.add_mul] at hsc ⊢
      simp [hsc]
  · have : fs.set (i + j) u.cells.toList = over fs (i + j) [u.cells.toList] := by
      rw [over, List.set_eq_take_append_cons_drop, if_pos hfit]
      simp
    rw [this]; exact hfr
def winOff (off l cap k : Nat) : Nat := if cap = l then off else off + l * k
theorem winOff_eq {off l cap k : Nat} (h : l < cap) : winOff off l cap k = off + l * k := if_neg (by omega)
/-- A window cut out of a window, maybe at its very end. -/
theorem ev_winE {x : Operand} {t E k b off len cap : Nat} {lo hi : Option Operand} {l h : Int} (hx : look e x = some (.slice (some ⟨b, off, none⟩) len cap)) (hf : elOf P t = some (E, k))
    (hlo : (lo = none ∧ l = 0) ∨ ∃ y, lo = some y ∧ look e y = some (.int .i64 l)) (hhi : (hi = none ∧ h = len) ∨ ∃ y, hi = some y ∧ look e y = some (.int .i64 h)) (hb : 0 ≤ l ∧ l ≤ h ∧ h ≤ cap) :
    Ev P n e S ⟨dst, .slice t x lo hi none, ty, pos, after, guard⟩ (.slice (some ⟨b, winOff off l.toNat cap k, none⟩) (h.toNat - l.toNat) (cap - l.toNat)) := by
  by_cases hlt : l < cap
  · rw [winOff_eq (by omega)]
    exact ev_win hx hf hlo hhi ⟨hb.1, hb.2.1, hb.2.2, hlt⟩ rfl
  · intro a ha w _
    obtain ⟨hu, inf, hinf, rfl⟩ := el_parts hf
    have he : P.elem t = E := by simp [Program.elem, hu]
    have hsz : (sizeOf (P.elem t)).run P w = .ok inf.size w := by rw [he]; exact run_sizeOf hinf
    have hat := run_sliceAt_slice (P := P) w t (.slice (some ⟨b, off, none⟩) len cap) (lo.map a.eval) (hi.map a.eval) none (by rw [he]; exact hu)
    obtain rfl : cap = l.toNat := by omega
    have hw : winOff off l.toNat l.toNat inf.size = off := if_pos rfl
    rw [hw]
    rcases hlo with ⟨rfl, rfl⟩ | ⟨y, rfl, hy⟩ <;> rcases hhi with ⟨rfl, rfl⟩ | ⟨z, rfl, hz⟩
    · simp only [Int.toNat_zero] at *
      have := run_slice_all (P := P) w t (some ⟨b, off, none⟩) len 0 (by rw [he]; exact hu)
      simp only [execOp, ha.eval hx, Option.map_none] at hat ⊢
      simp [hat, this, hsz, sliced]
    · simp only [Int.toNat_zero] at *
      have := run_slice_h (P := P) w t (some ⟨b, off, none⟩) len _ (by rw [he]; exact hu) .i64 h (by omega) hb.2.2
      simp only [execOp, ha.eval hx, Option.map_none, Option.map_some, ha.eval hz] at hat ⊢
      simp [hat, this, hsz, sliced]
    · have := run_slice_l (P := P) w t (some ⟨b, off, none⟩) len l.toNat (by rw [he]; exact hu) .i64 l hb.1 hb.2.1
      simp only [execOp, ha.eval hx, Option.map_none, Option.map_some, ha.eval hy] at hat ⊢
      simp [hat, this, hsz, sliced]
    · have := run_slice_lh (P := P) w t (some ⟨b, off, none⟩) len l.toNat (by rw [he]; exact hu) .i64 .i64 l h hb.1 hb.2.1 hb.2.2
      simp only [execOp, ha.eval hx, Option.map_none, Option.map_some, ha.eval hy, ha.eval hz] at hat ⊢
      simp [hat, this, hsz, sliced]
theorem zeroCells_eq {z : List Value} {m : Nat} (hz : 0 < z.length) : (Builtin.zeroCells z.toArray m).toList = (List.replicate m z).flatten := by
  apply List.ext_getElem?
  intro j
  simp only [Builtin.zeroCells, List.size_toArray]
  by_cases hj : j < m * z.length
  · have hd : j = j / z.length * z.length + j % z.length := by rw [Nat.mul_comm]; exact (Nat.div_add_mod j z.length).symm
    have hq : j / z.length < m := Nat.div_lt_of_lt_mul (by rw [Nat.mul_comm]; exact hj)
    have hm : j % z.length < z.length := Nat.mod_lt _ hz
    have hx' : (List.replicate m z)[j / z.length]? = some z := by rw [List.getElem?_replicate, if_pos hq]
    have hg := flat_at (k := z.length) (es := List.replicate m z) (fun x hx => by rw [(List.mem_replicate.1 hx).2]) hx' hm
    rw [← hd] at hg
    rw [hg]
    simp [hj, getElem!_def, List.getElem?_eq_getElem hm]
  · rw [List.getElem?_eq_none (by simpa using hj), List.getElem?_eq_none (by rw [flatten_length (k := z.length) (fun x hx => by rw [(List.mem_replicate.1 hx).2]), List.length_replicate]; omega)]
/-- append(x, make([]T, q)...), as the translation writes it, without room: a new row. -/
theorem op_wappz {x y : Operand} {t t2 E k b m c bytes q : Nat} {qi : Int} {K2 : IntKind} {fs : List (List Value)} {z : List Value} (hrow : elRow P t E k bytes) (ht2 : P.underlying t2 = some (.int K2)) (hz : ∀ w, (zeroValue E).run P w = .ok (.agg z.toArray) w) (hzk : z.length = k)
    (hr : Fr w b E k fs) (hx : look e x = some (.slice (some ⟨b, 0, none⟩) m c)) (hy : look e y = some (.int .i64 qi)) (hqi : qi = q) (hm : m ≤ fs.length) (hq1 : 1 ≤ q) (hq : c < m + q) (hN : (m + q) * bytes ≤ 140737488355328) (hML : m + q ≤ 140737488355328) :
    Op1 P n e w ⟨dst, .call ⟨.builtin .append, #[x, y], #[t, t2]⟩, ty, pos, after, guard⟩ (fun v' w' => ∃ g cap, v' = .slice (some ⟨g, 0, none⟩) (m + q) cap ∧ w.heap.size ≤ g ∧ m + q ≤ cap ∧ cap ≤ maxLen ∧ Ex w w' ∧ Fr w' g E k (fs.take m ++ List.replicate (cap - m) z)) := Op1.of_run fun a ha => by
  subst hqi
  obtain ⟨i, z', hu, hi, hz', hs, hby, hzs, hk0⟩ := hrow
  have hzk0 : 0 < z.length := by omega
  have hge := grownCap_ge w (m + q) c E
  have hcm : grownCap w (m + q) c E ≤ maxLen := grownCap_le_maxLen w (m + q) c E (by unfold maxLen; omega)
  have hlt : (fs.take m).flatten.length = m * k := by rw [flatten_length (fun x hx => hr.1 x (List.mem_of_mem_take hx)), List.length_take, Nat.min_eq_left hm]
  have hfo := run_firstCells_some (P := P) w.drew k m ⟨b, 0, none⟩ m c (fs.take m).flatten hlt (by
    intro j u hj
    have hb : Bx w.drew b E fs.flatten.toArray := hr.2.ex (Kp.of_drew w)
    rw [add_none, Nat.zero_add, hb.cell, List.getElem?_toArray]
    rw [← flat_take hr.1 m, List.getElem?_take] at hj
    split at hj
    · exact hj
    · cases hj)
  have hfit := growslice_fits (old := c) hq hN
  have h48 : ¬ (281474976710656 < Builtin.nextslicecap (m + q) c * bytes) := by omega
  have h48' : ¬ ((281474976710656 : Int) < (q : Int) * (bytes : Int)) := by
    have h1 : q * bytes ≤ (m + q) * bytes := Nat.mul_le_mul_right _ (by omega)
    have h2 : ((q * bytes : Nat) : Int) = (q : Int) * (bytes : Int) := by simp
    omega
  have hwrap : IntKind.i64.wrap (q : Int) = q := IntWalk.i64_in _ ⟨by omega, by omega⟩
  have hnot : ¬ m + q ≤ c := by omega
  have h63 : ¬ (9223372036854775807 : Int) < (m : Int) + (q : Int) := by omega
  refine ⟨_, w.drew.alloc (.cells ((fs.take m).flatten.toArray ++ Builtin.zeroCells z.toArray q ++ Builtin.zeroCells z.toArray (grownCap w (m + q) c E - (m + q))) E), ?_, w.heap.size, grownCap w (m + q) c E, rfl, Nat.le_refl _, hge, hcm, (Kp.of_drew w).trans (Kp.of_alloc _ _), ?_, ?_⟩
  · have hneg : ¬ (q : Int) < 0 := by omega
    have hqk : ¬ q * k = 0 := Nat.ne_of_gt (Nat.mul_pos hq1 hk0)
    have hst := grownCap_ge w (m + q) c E
    simp [execOp, resolve, invoke, ha.eval hx, ha.eval hy, builtin, Builtin.append_, run_underlying hu, run_underlying ht2, run_sizeOf hi, hs, typeInfo, hi, hby, asInt, asIntOf, hwrap, h48, h48', hnot, h63, hneg, hqk, Question.forced, hfo, hz, newRow, grownCap, Value.cells]
  · intro x hx
    rcases List.mem_append.1 hx with hx | hx
    · exact hr.1 x (List.mem_of_mem_take hx)
    · rw [(List.mem_replicate.1 hx).2]; exact hzk
  · have e1 : ((fs.take m).flatten.toArray ++ Builtin.zeroCells z.toArray q ++ Builtin.zeroCells z.toArray (grownCap w (m + q) c E - (m + q))) = (fs.take m ++ List.replicate (grownCap w (m + q) c E - m) z).flatten.toArray := by
      apply Array.ext'
      simp only [Array.toList_append, zeroCells_eq hzk0]
      rw [show grownCap w (m + q) c E - m = q + (grownCap w (m + q) c E - (m + q)) by omega, ← List.replicate_append_replicate, List.flatten_append, List.flatten_append, List.append_assoc]
    rw [e1]
    exact Bx.new w.drew _ _
end
end Go.Proofs.Ythpaadmpgdglnaa
