/- One law for each operation that looks at memory, writes it or makes it. No condition. -/
import Derived.Test.YthpaadmpgdglnaaK1
namespace Go.Proofs.Ythpaadmpgdglnaa
open Go Go.RowKit

def isAggD : TypeDesc → Bool
  | .struct _ => true
  | .array _ _ => true
  | _ => false
/-- How many cells a struct or an array has; none: another type. -/
def aggSize (P : Program) (t : TypeId) : Option Nat :=
  match P.underlying t with
  | some u => if isAggD u then (P.info? t).map (·.size) else none
  | none => none
/-- A type of one cell, neither struct nor array. -/
def oneSize (P : Program) (t : TypeId) : Bool :=
  match P.underlying t with
  | some u => !isAggD u && (P.info? t).map (·.size) == some 1
  | none => false

section
variable {P : Program} {w : World}
theorem agg_parts {t : TypeId} {k : Nat} (ht : aggSize P t = some k) : ∃ u i, P.underlying t = some u ∧ isAggD u = true ∧ P.info? t = some i ∧ i.size = k := by
  unfold aggSize at ht
  cases hu : P.underlying t with
  | none => rw [hu] at ht; cases ht
  | some u =>
    rw [hu] at ht
    cases hd : isAggD u with
    | false => simp [hd] at ht
    | true =>
      simp only [hd, if_true] at ht
      cases hi : P.info? t with
      | none => rw [hi] at ht; cases ht
      | some i => rw [hi] at ht; simp only [Option.map_some, Option.some.injEq] at ht; exact ⟨u, i, rfl, hd, rfl, ht⟩
theorem one_parts {t : TypeId} (ht : oneSize P t = true) : ∃ u i, P.underlying t = some u ∧ isAggD u = false ∧ P.info? t = some i ∧ i.size = 1 := by
  unfold oneSize at ht
  cases hu : P.underlying t with
  | none => rw [hu] at ht; cases ht
  | some u =>
    rw [hu] at ht
    simp only [Bool.and_eq_true, Bool.not_eq_true', beq_iff_eq] at ht
    cases hi : P.info? t with
    | none => rw [hi] at ht; simp at ht
    | some i => rw [hi] at ht; exact ⟨u, i, rfl, ht.1, rfl, by simpa using ht.2⟩
theorem run_isAgg {t : TypeId} {u : TypeDesc} (h : P.underlying t = some u) : (isAgg t).run P w = .ok (isAggD u) w := by
  simp only [isAgg, Sem.run_bind, underlying, run_program, Result.andThen_ok, h]
  cases u <;> rfl
theorem run_sizeOf {t : TypeId} {i : TypeInfo} (h : P.info? t = some i) : (sizeOf t).run P w = .ok i.size w := by simp [sizeOf, typeInfo, h]
theorem run_loadVar_agg {t : TypeId} {k : Nat} (ht : aggSize P t = some k) {a : Addr} {cs : List Value} (hl : cs.length = k) (hc : ∀ j v, cs[j]? = some v → w.cell? (a.add j) = some v) :
    (loadVar t a).run P w = .ok (.agg cs.toArray) w := by
  obtain ⟨u, i, h1, h2, h3, h4⟩ := agg_parts ht
  simp only [loadVar, Sem.run_bind, run_isAgg h1, Result.andThen_ok, h2, if_true, run_sizeOf h3, h4, ← hl, run_loadCells_list (P := P) w a cs hc, Sem.run_pure]
theorem run_loadVar_one {t : TypeId} (ht : oneSize P t = true) {a : Addr} {v : Value} (hc : w.cell? a = some v) : (loadVar t a).run P w = .ok v w := by
  obtain ⟨u, i, h1, h2, h3, h4⟩ := one_parts ht
  simp [loadVar, run_isAgg h1, h2, hc]
theorem run_storeVar {t : TypeId} {k g off : Nat} {T : TypeId} {cs : Array Value} {v : Value} (hk : (P.info? t).map (·.size) = some k) (hv : v.cells.size = k) (hb : Bx w g T cs) (hfit : off + k ≤ cs.size) (h1 : ∀ u ∈ v.cells.toList, u.oneCell' = true) :
    (storeVar t ⟨g, off, none⟩ v).run P w = .ok () (w.setRow g (cs.toList.take off ++ v.cells.toList ++ cs.toList.drop (off + v.cells.toList.length)).toArray) := by
  cases hi : P.info? t with
  | none => rw [hi] at hk; cases hk
  | some i =>
    rw [hi] at hk
    simp only [Option.map_some, Option.some.injEq] at hk
    have hs := run_storeCells_at P g off T v.cells.toList 0 cs w hb (by simpa [hv] using hfit) h1
    simp only [Nat.add_zero] at hs
    simp [storeVar, run_sizeOf hi, hk, hv, hs]
end

section
variable {P : Program} {n : Nat} {e : Env} {S : World → Prop} {w : World} {dst : Option Tmp} {ty : TypeId} {pos : String} {after : Array Edge} {guard : Option (Nat × Bool)}

/-! ### loads -/
theorem ev_load1 {x : Operand} {t b off : Nat} {v : Value} (hx : look e x = some (.pointer (some ⟨b, off, none⟩))) (ht : oneSize P t = true) (hc : ∀ w, S w → w.cell? ⟨b, off, none⟩ = some v) :
    Ev P n e S ⟨dst, .load t x, ty, pos, after, guard⟩ v := fun a ha w hw => by
  simp [execOp, ha.eval hx, Instr.loadAt, Instr.sureAddr, run_loadVar_one ht (hc w hw)]
theorem ev_loadk {x : Operand} {t b off k : Nat} {cs : List Value} (hx : look e x = some (.pointer (some ⟨b, off, none⟩))) (ht : aggSize P t = some k) (hl : cs.length = k) (hc : ∀ w, S w → ∀ j v, cs[j]? = some v → w.cell? ⟨b, off + j, none⟩ = some v) :
    Ev P n e S ⟨dst, .load t x, ty, pos, after, guard⟩ (.agg cs.toArray) := fun a ha w hw => by
  have hr := run_loadVar_agg (P := P) (w := w) ht hl (a := ⟨b, off, none⟩) (fun j v hj => by
    have := hc w hw j v hj
    unfold Addr.add
    split
    · rename_i h0; subst h0; simpa using this
    · exact this)
  simp [execOp, ha.eval hx, Instr.loadAt, Instr.sureAddr, hr]
/-- .. out of a block that is known whole. -/
theorem ev_lb1 {x : Operand} {t g off : Nat} {T : TypeId} {cs : Array Value} {v : Value} (hb : ∀ w, S w → Bx w g T cs) (hx : look e x = some (.pointer (some ⟨g, off, none⟩))) (ht : oneSize P t = true) (hv : cs[off]? = some v) :
    Ev P n e S ⟨dst, .load t x, ty, pos, after, guard⟩ v := ev_load1 hx ht fun w hw => ((hb w hw).cell off).trans hv
theorem ev_lbk {x : Operand} {t g off k : Nat} {T : TypeId} {cs : Array Value} {vs : List Value} (hb : ∀ w, S w → Bx w g T cs) (hx : look e x = some (.pointer (some ⟨g, off, none⟩))) (ht : aggSize P t = some k) (hl : vs.length = k) (hv : (cs.toList.drop off).take k = vs) :
    Ev P n e S ⟨dst, .load t x, ty, pos, after, guard⟩ (.agg vs.toArray) := ev_loadk hx ht hl fun w hw j v hj => by
  rw [(hb w hw).cell, ← hj, ← hv, List.getElem?_take]
  have hjk : j < k := by
    have := (List.getElem?_eq_some_iff.1 hj).1
    omega
  rw [if_pos hjk, List.getElem?_drop]
  simp

/-! ### addresses -/
theorem run_fieldPlace {P : Program} {w : World} {f : Field} {b off k : Nat} (hk : (P.info? f.type).map (·.size) = some (k + 1)) : (fieldPlace ⟨b, off, none⟩ f).run P w = .ok ⟨b, off + f.offset, none⟩ w := by
  cases hi : P.info? f.type with
  | none => rw [hi] at hk; cases hk
  | some i =>
    rw [hi] at hk
    simp only [Option.map_some, Option.some.injEq] at hk
    simp only [fieldPlace, Sem.run_bind, run_sizeOf hi, hk, Result.andThen_ok]
    unfold Addr.add
    by_cases h0 : f.offset = 0 <;> simp [h0]
/-- Where a field begins; none: there is none, or it has no cells. -/
def fieldOff (P : Program) (t : TypeId) (i : Nat) : Option Nat :=
  match P.underlying t with
  | some (.struct fs) => match fs[i]? with
    | some f => match (P.info? f.type).map (·.size) with
      | some (_ + 1) => some f.offset
      | _ => none
    | none => none
  | _ => none
theorem ev_field {x : Operand} {t i b off o : Nat} (hx : look e x = some (.pointer (some ⟨b, off, none⟩))) (hf : fieldOff P t i = some o) :
    Ev P n e S ⟨dst, .fieldAddr t x i, ty, pos, after, guard⟩ (.pointer (some ⟨b, off + o, none⟩)) := fun a ha w _ => by
  unfold fieldOff at hf
  split at hf
  · rename_i fs hu
    split at hf
    · rename_i f hfi
      split at hf
      · rename_i k hk
        simp only [Option.some.injEq] at hf
        subst hf
        simp [execOp, ha.eval hx, Instr.fieldAt, underlying, hu, hfi, Instr.sureAddr, run_fieldPlace hk]
      · cases hf
    · cases hf
  · cases hf
/-- The cells of an array's element, and how many elements there are. -/
def arrOf (P : Program) (t : TypeId) : Option (Nat × Nat) :=
  match P.underlying t with
  | some (.array n e) => (P.info? e).map fun i => (n, i.size)
  | _ => none
theorem ev_arrAt {x y : Operand} {t b off : Nat} {m k : Nat} {i : Int} (hx : look e x = some (.pointer (some ⟨b, off, none⟩))) (hy : look e y = some (.int .i64 i)) (hf : arrOf P t = some (m, k)) (hi : 0 ≤ i ∧ i < m) :
    Ev P n e S ⟨dst, .indexAddr t x y, ty, pos, after, guard⟩ (.pointer (some ⟨b, off + i.toNat * k, none⟩)) := fun a ha w _ => by
  unfold arrOf at hf
  split at hf
  · rename_i m' e' hu
    cases hinf : P.info? e' with
    | none => rw [hinf] at hf; cases hf
    | some inf =>
      rw [hinf] at hf
      simp only [Option.map_some, Option.some.injEq, Prod.mk.injEq] at hf
      obtain ⟨rfl, rfl⟩ := hf
      have hadd : (⟨b, off, none⟩ : Addr).add (i.toNat * inf.size) = ⟨b, off + i.toNat * inf.size, none⟩ := by
        unfold Addr.add
        split
        · rename_i h0; rw [h0]; rfl
        · rfl
      simp [execOp, ha.eval hx, ha.eval hy, Instr.indexAt, asIntOf, underlying, hu, Instr.sureAddr, hi, run_sizeOf hinf, hadd]
  · cases hf
/-- The cells of a slice's element. -/
def elOf (P : Program) (t : TypeId) : Option (TypeId × Nat) :=
  match P.underlying t with
  | some (.slice e) => (P.info? e).map fun i => (e, i.size)
  | _ => none
theorem el_parts {P : Program} {t E k : Nat} (h : elOf P t = some (E, k)) : P.underlying t = some (.slice E) ∧ ∃ i, P.info? E = some i ∧ i.size = k := by
  unfold elOf at h
  split at h
  · rename_i e' hu
    cases hinf : P.info? e' with
    | none => rw [hinf] at h; cases h
    | some inf =>
      rw [hinf] at h
      simp only [Option.map_some, Option.some.injEq, Prod.mk.injEq] at h
      obtain ⟨rfl, rfl⟩ := h
      exact ⟨hu, inf, hinf, rfl⟩
  · cases h
theorem add_none (b off m : Nat) : (⟨b, off, none⟩ : Addr).add m = ⟨b, off + m, none⟩ := by
  unfold Addr.add
  split
  · rename_i h0; rw [h0]; rfl
  · rfl
theorem ev_slAt {x y : Operand} {t E k : Nat} {v : Value} {i : Int} {A : Nat → Prop} {es : List (List Value)} (hs : ∃ w, Sl w A v k es) (hx : look e x = some v) (hy : look e y = some (.int .i64 i)) (hf : elOf P t = some (E, k)) (hi : 0 ≤ i ∧ i < es.length) :
    Ev P n e S ⟨dst, .indexAddr t x y, ty, pos, after, guard⟩ (elemPtr v i.toNat k 0) := fun a ha w _ => by
  obtain ⟨w', hs⟩ := hs
  obtain ⟨b, off, cap, rfl, _⟩ := hs.at (i := i.toNat) (by omega)
  obtain ⟨hu, inf, hinf, rfl⟩ := el_parts hf
  simp [execOp, ha.eval hx, ha.eval hy, Instr.indexAt, asIntOf, underlying, hu, hi, run_sizeOf hinf, add_none, elemPtr]
theorem ev_elField {x : Operand} {t i o j k off : Nat} {v : Value} {A : Nat → Prop} {es : List (List Value)} (hs : ∃ w, Sl w A v k es) (hj : j < es.length) (hx : look e x = some (elemPtr v j k off)) (hf : fieldOff P t i = some o) :
    Ev P n e S ⟨dst, .fieldAddr t x i, ty, pos, after, guard⟩ (elemPtr v j k (off + o)) := by
  obtain ⟨w', hs⟩ := hs
  obtain ⟨b, off', cap, rfl, _⟩ := hs.at hj
  have := ev_field (n := n) (S := S) (dst := dst) (ty := ty) (pos := pos) (after := after) (guard := guard) hx hf
  simpa [elemPtr, Nat.add_assoc] using this
theorem ev_elArr {x y : Operand} {t m q j k off : Nat} {i : Int} {v : Value} {A : Nat → Prop} {es : List (List Value)} (hs : ∃ w, Sl w A v k es) (hj : j < es.length) (hx : look e x = some (elemPtr v j k off)) (hy : look e y = some (.int .i64 i)) (hf : arrOf P t = some (m, q)) (hi : 0 ≤ i ∧ i < m) :
    Ev P n e S ⟨dst, .indexAddr t x y, ty, pos, after, guard⟩ (elemPtr v j k (off + i.toNat * q)) := by
  obtain ⟨w', hs⟩ := hs
  obtain ⟨b, off', cap, rfl, _⟩ := hs.at hj
  have := ev_arrAt (n := n) (S := S) (dst := dst) (ty := ty) (pos := pos) (after := after) (guard := guard) hx hy hf hi
  simpa [elemPtr, Nat.add_assoc] using this
theorem ev_elLoad1 {x : Operand} {t j k off : Nat} {u v : Value} {A : Nat → Prop} {es : List (List Value)} {xs : List Value} (hs : ∀ w, S w → Sl w A v k es) (hS : ∃ w, S w) (hx : look e x = some (elemPtr v j k off)) (hj : es[j]? = some xs) (ht : oneSize P t = true) (ho : off < k) (hv : xs[off]? = some u) :
    Ev P n e S ⟨dst, .load t x, ty, pos, after, guard⟩ u := by
  obtain ⟨w0, hw0⟩ := hS
  obtain ⟨b, off', cap, rfl, _⟩ := (hs w0 hw0).at (List.getElem?_eq_some_iff.1 hj).1
  refine ev_load1 (b := b) (off := off' + (j * k + off)) hx ht fun w hw => ?_
  obtain ⟨b', o', cap', hv', hc⟩ := (hs w hw).at (List.getElem?_eq_some_iff.1 hj).1
  simp only [Value.slice.injEq, Option.some.injEq, Addr.mk.injEq] at hv'
  obtain ⟨⟨rfl, rfl, _⟩, _⟩ := hv'
  exact (hc off xs hj ho).trans hv
theorem ev_elLoadk {x : Operand} {t j k off q : Nat} {v : Value} {A : Nat → Prop} {es : List (List Value)} {xs us : List Value} (hs : ∀ w, S w → Sl w A v k es) (hS : ∃ w, S w) (hx : look e x = some (elemPtr v j k off)) (hj : es[j]? = some xs) (ht : aggSize P t = some q) (ho : off + q ≤ k) (hl : us.length = q) (hv : (xs.drop off).take q = us) :
    Ev P n e S ⟨dst, .load t x, ty, pos, after, guard⟩ (.agg us.toArray) := by
  obtain ⟨w0, hw0⟩ := hS
  obtain ⟨b, off', cap, rfl, _⟩ := (hs w0 hw0).at (List.getElem?_eq_some_iff.1 hj).1
  refine ev_loadk (b := b) (off := off' + (j * k + off)) hx ht hl fun w hw i u hi => ?_
  obtain ⟨b', o', cap', hv', hc⟩ := (hs w hw).at (List.getElem?_eq_some_iff.1 hj).1
  simp only [Value.slice.injEq, Option.some.injEq, Addr.mk.injEq] at hv'
  obtain ⟨⟨rfl, rfl, _⟩, _⟩ := hv'
  have hiq : i < q := by have := (List.getElem?_eq_some_iff.1 hi).1; omega
  rw [show off' + (j * k + off) + i = off' + (j * k + (off + i)) by omega, hc (off + i) xs hj (by omega), ← hi, ← hv, List.getElem?_take, if_pos hiq, List.getElem?_drop]

/-! ### len -/
theorem ev_len {x : Operand} {t E k : Nat} {v : Value} {A : Nat → Prop} {es : List (List Value)} {ats : Array TypeId} (hs : ∃ w, Sl w A v k es) (hx : look e x = some v) (hf : elOf P t = some (E, k)) (hat : ats[0]? = some t) :
    Ev P n e S ⟨dst, .call ⟨.builtin .len, #[x], ats⟩, ty, pos, after, guard⟩ (.int .i64 es.length) := fun a ha w _ => by
  obtain ⟨w', _, c, cap, rfl, _⟩ := hs
  obtain ⟨hu, inf, hinf, rfl⟩ := el_parts hf
  simp [execOp, resolve, invoke, builtin, ha.eval hx, Builtin.len_, hat, underlying, hu, goInt]

/-! ### new blocks, stores -/
/-- The cells of a type's zero value. -/
def zeroOf (P : Program) (t : TypeId) : Option (Array Value) := ((P.info? t).bind (·.zero)).map (·.cells)
theorem op_alloc {t : TypeId} {z : Array Value} (hz : zeroOf P t = some z) :
    Op1 P n e w ⟨dst, .alloc t, ty, pos, after, guard⟩ (fun v w' => ∃ g, v = .pointer (some ⟨g, 0, none⟩) ∧ w.heap.size ≤ g ∧ Ex w w' ∧ Bx w' g t z) := Op1.of_run fun a ha => by
  unfold zeroOf at hz
  cases hi : P.info? t with
  | none => rw [hi] at hz; cases hz
  | some i =>
    cases hzz : i.zero with
    | none => rw [hi] at hz; simp [hzz] at hz
    | some zz =>
      rw [hi] at hz
      simp only [Option.bind_some, hzz, Option.map_some, Option.some.injEq] at hz
      refine ⟨_, w.alloc (.cells z t), ?_, w.heap.size, rfl, Nat.le_refl _, Kp.of_alloc _ _, Bx.new w z t⟩
      simp [execOp, Instr.alloc, zeroValue, typeInfo, hi, hzz, newVar, newRow, hz]
theorem op_box {t : TypeId} {x : Operand} {v : Value} {cs : Array Value} (hx : look e x = some v) (hc : v.cells = cs) :
    Op1 P n e w ⟨dst, .box t x, ty, pos, after, guard⟩ (fun v w' => ∃ g, v = .pointer (some ⟨g, 0, none⟩) ∧ w.heap.size ≤ g ∧ Ex w w' ∧ Bx w' g t cs) := Op1.of_run fun a ha => by
  refine ⟨_, w.alloc (.cells cs t), ?_, w.heap.size, rfl, Nat.le_refl _, Kp.of_alloc _ _, Bx.new w cs t⟩
  simp [execOp, Instr.box, ha.eval hx, newVar, newRow, hc]
theorem Kp.of_setRow {g : Nat} (w : World) (cs : Array Value) : Kp (fun k => k = g) w (w.setRow g cs) := ⟨rfl, rfl, rfl, by simp, fun k _ hk => setRow_other w g k _ hk, Nat.le_refl _⟩
theorem op_store {t k g off : Nat} {T : TypeId} {x y : Operand} {v : Value} {cs cs' : Array Value} (hb : Bx w g T cs) (hx : look e x = some (.pointer (some ⟨g, off, none⟩))) (hy : look e y = some v) (hk : (P.info? t).map (·.size) = some k) (hv : v.cells.size = k) (hfit : off + k ≤ cs.size)
    (h1 : (v.cells.toList.all fun u => u.oneCell') = true) (hc : (cs.toList.take off ++ v.cells.toList ++ cs.toList.drop (off + v.cells.toList.length)).toArray = cs') :
    Op1 P n e w ⟨dst, .store t x y, ty, pos, after, guard⟩ (fun _ w' => Kp (fun k => k = g) w w' ∧ Bx w' g T cs') := Op1.of_skip fun a ha => by
  refine ⟨w.setRow g cs', ?_, Kp.of_setRow w cs', setRow_heap w g cs cs' T (0, 0) hb⟩
  have hr := run_storeVar (P := P) hk hv hb hfit (fun u hu => List.all_eq_true.1 h1 u hu)
  rw [hc] at hr
  simp [execOp, ha.eval hx, ha.eval hy, Instr.storeAt, Instr.sureAddr, hr]

/-! ### slices that are made of parts, cut, grown -/
theorem Bx.sl1 {w : World} {g : Nat} {T : TypeId} {cs : Array Value} {A : Nat → Prop} (h : Bx w g T cs) (hA : A g) (m : Nat) (hm : 1 ≤ m ∧ m ≤ maxLen) : Sl w A (.slice (some ⟨g, 0, none⟩) 1 m) cs.size [cs.toList] := by
  refine ⟨by simp, _, m, rfl, hm.1, hm.2, (fun h => by cases h), .inr ⟨g, 0, rfl, hA, h.lt, fun i j x hx hj => ?_⟩⟩
  have hi : i = 0 := by
    have := (List.getElem?_eq_some_iff.1 hx).1
    simp at this
    omega
  subst hi
  simp only [List.getElem?_cons_zero, Option.some.injEq] at hx
  subst hx
  rw [h.cell]
  simp
theorem op_buildSlice {t E m : Nat} {ps : Array (Nat × Operand)} {pv : Array (Nat × Value)} {cs : Array Value} (hps : (ps.toList.map fun p => (p.1, look e p.2)) = pv.toList.map fun p => (p.1, some p.2))
    (hr : ∀ w, (Instr.buildSlice t m pv).run P w = .ok (.slice (some ⟨w.heap.size, 0, none⟩) m m) (w.alloc (.cells cs E))) :
    Op1 P n e w ⟨dst, .buildSlice t m ps, ty, pos, after, guard⟩ (fun v w' => ∃ g, v = .slice (some ⟨g, 0, none⟩) m m ∧ w.heap.size ≤ g ∧ Ex w w' ∧ Bx w' g E cs) := Op1.of_run fun a ha => by
  have hm : (ps.map fun (i, x) => (i, a.eval x)) = pv := by
    apply Array.ext'
    rw [Array.toList_map]
    have key : ∀ (l : List (Nat × Operand)) (l' : List (Nat × Value)), (l.map fun p => (p.1, look e p.2)) = (l'.map fun p => (p.1, some p.2)) → (l.map fun (i, x) => (i, a.eval x)) = l' := by
      intro l
      induction l with
      | nil => intro l' h; cases l' with
        | nil => rfl
        | cons y l' => simp at h
      | cons x l ih => intro l' h; cases l' with
        | nil => simp at h
        | cons y l' =>
          simp only [List.map_cons, List.cons.injEq, Prod.mk.injEq] at h
          simp only [List.map_cons, ih l' h.2, ha.eval h.1.2, h.1.1]
    exact key _ _ hps
  refine ⟨_, w.alloc (.cells cs E), ?_, w.heap.size, rfl, Nat.le_refl _, Kp.of_alloc _ _, Bx.new w cs E⟩
  simp only [execOp, hm, Sem.run_bind, hr w, Result.andThen_ok, Sem.run_pure]

/-- The part of a slice from lo on, up to hi (k cells an element). -/
def subSl (v : Value) (lo hi k : Nat) : Value := match v with
  | .slice a _ cap => sliced a lo hi cap k
  | _ => undef
theorem Sl.sub {w : World} {A : Nat → Prop} {v : Value} {k : Nat} {es : List (List Value)} (h : Sl w A v k es) {lo hi : Nat} (h1 : lo ≤ hi) (h2 : hi ≤ es.length) : Sl w A (subSl v lo hi k) k ((es.take hi).drop lo) := by
  obtain ⟨hk, a, cap, rfl, h3, h4, h6, h5⟩ := h
  have hlen : ((es.take hi).drop lo).length = hi - lo := by simp; omega
  have hkk : ∀ x ∈ (es.take hi).drop lo, x.length = k := fun x hx => hk x (List.mem_of_mem_take (List.mem_of_mem_drop hx))
  unfold subSl sliced
  by_cases hm : cap = lo
  · refine ⟨hkk, a, cap - lo, by simp [hm, hlen], by omega, by omega, fun ha => by have := h6 ha; omega, .inl (List.eq_nil_of_length_eq_zero (by omega))⟩
  · rcases h5 with rfl | ⟨b, off, rfl, hA, hb, hc⟩
    · refine ⟨hkk, a.map (·.add (lo * k)), cap - lo, by rw [hlen]; simp [hm], by omega, by omega, fun ha => ?_, .inl (by simp)⟩
      have : a = none := by cases a with
        | none => rfl
        | some x => simp at ha
      have := h6 this
      omega
    · refine ⟨hkk, some ⟨b, off + lo * k, none⟩, cap - lo, by simp [hm, hlen, add_none], by omega, by omega, (fun h => by cases h), .inr ⟨b, off + lo * k, rfl, hA, hb, fun i j x hx hj => ?_⟩⟩
      have hx' : es[lo + i]? = some x := by
        rw [List.getElem?_drop, List.getElem?_take] at hx
        split at hx
        · exact hx
        · cases hx
      rw [← hc (lo + i) j x hx' hj]
      congr 2
      rw [Nat.add_mul]
      omega
theorem ev_slice {x : Operand} {t E k : Nat} {v : Value} {A : Nat → Prop} {es : List (List Value)} {lo hi : Option Operand} {l h : Int} (hs : ∃ w, Sl w A v k es) (hx : look e x = some v) (hf : elOf P t = some (E, k))
    (hlo : (lo = none ∧ l = 0) ∨ ∃ y, lo = some y ∧ look e y = some (.int .i64 l)) (hhi : (hi = none ∧ h = es.length) ∨ ∃ y, hi = some y ∧ look e y = some (.int .i64 h)) (hb : 0 ≤ l ∧ l ≤ h ∧ h ≤ es.length) :
    Ev P n e S ⟨dst, .slice t x lo hi none, ty, pos, after, guard⟩ (subSl v l.toNat h.toNat k) := fun a ha w _ => by
  obtain ⟨w', _, c, cap, rfl, hcap, _⟩ := hs
  obtain ⟨hu, inf, hinf, rfl⟩ := el_parts hf
  have he : P.elem t = E := by simp [Program.elem, hu]
  have hcap' : h ≤ cap := by omega
  have hsz : (sizeOf (P.elem t)).run P w = .ok inf.size w := by rw [he]; exact run_sizeOf hinf
  have hat := run_sliceAt_slice (P := P) w t (.slice c es.length cap) (lo.map a.eval) (hi.map a.eval) none (by rw [he]; exact hu)
  rcases hlo with ⟨rfl, rfl⟩ | ⟨y, rfl, hy⟩ <;> rcases hhi with ⟨rfl, rfl⟩ | ⟨z, rfl, hz⟩
  · have := run_slice_all (P := P) w t c es.length cap (by rw [he]; exact hu)
    simp only [execOp, ha.eval hx, Option.map_none] at hat ⊢
    simp [hat, this, hsz, subSl]
  · have := run_slice_h (P := P) w t c es.length cap (by rw [he]; exact hu) .i64 h (by omega) hcap'
    simp only [execOp, ha.eval hx, Option.map_none, Option.map_some, ha.eval hz] at hat ⊢
    simp [hat, this, hsz, subSl]
  · have := run_slice_l (P := P) w t c es.length cap (by rw [he]; exact hu) .i64 l hb.1 hb.2.1
    simp only [execOp, ha.eval hx, Option.map_none, Option.map_some, ha.eval hy] at hat ⊢
    simp [hat, this, hsz, subSl]
  · have := run_slice_lh (P := P) w t c es.length cap (by rw [he]; exact hu) .i64 .i64 l h hb.1 hb.2.1 hcap'
    simp only [execOp, ha.eval hx, Option.map_none, Option.map_some, ha.eval hy, ha.eval hz] at hat ⊢
    simp [hat, this, hsz, subSl]

/-- What is asked of an element's type: its row of the table. -/
def elRow (P : Program) (t E k bytes : Nat) : Prop := ∃ i z, P.underlying t = some (.slice E) ∧ P.info? E = some i ∧ i.zero = some z ∧ i.size = k ∧ i.bytes = bytes ∧ z.cells.size = k ∧ 0 < k
theorem op_append {t E k bytes B : Nat} {x y : Operand} {v u : Value} {es ns : List (List Value)} {A : Nat → Prop} (hrow : elRow P t E k bytes) (hown : Ow w B E v k es) (hsrc : Sl w A u k ns) (h1 : ∀ c ∈ ns.flatten, c.oneCell' = true) (hx : look e x = some v) (hy : look e y = some u)
    (hlen : es.length + ns.length ≤ maxLen) (hby : (es.length + ns.length) * bytes ≤ 140737488355328) (hB : B ≤ w.heap.size) :
    Op1 P n e w ⟨dst, .call ⟨.builtin .append, #[x, y], #[t, t]⟩, ty, pos, after, guard⟩ (fun v' w' => Kp (fun b => v.ownBlock = some b) w w' ∧ Ow w' B E v' k (es ++ ns)) := Op1.of_run fun a ha => by
  obtain ⟨i, z, ht, hi, hz, hs, hb, hzs, hk⟩ := hrow
  obtain ⟨hnk, c, cap, rfl, hcap, hcm, hnone, hcells⟩ := hsrc
  have hkk : ∀ x ∈ es ++ ns, x.length = k := fun x hx => (List.mem_append.1 hx).elim (hown.1 x) (hnk x)
  have flen : ns.flatten.length = ns.length * k := flatten_length hnk
  cases c with
  | none =>
    obtain rfl : cap = 0 := hnone rfl
    obtain rfl : ns = [] := List.eq_nil_of_length_eq_zero (by omega)
    have hr := run_append_owned_none (P := P) w B t ty E i k ht hi v es.length es.flatten hown.2
    refine ⟨v, w, ?_, Kp.refl _ _, by simpa using hown⟩
    simp only [execOp, resolve, invoke, List.map_toArray, List.map_cons, List.map_nil, ha.eval hx, ha.eval hy, List.length_nil]
    simp [builtin, hr]
  | some ad =>
    obtain ⟨v', w', hr, ho, hg, _⟩ := run_append_own (P := P) w B t ty E i z k bytes ht hi hz hs hb hzs hk v es.length es.flatten hown.2 ad ns.length cap ns.flatten flen (by
      intro j u hu
      rcases hcells with rfl | ⟨b, off, hab, _, _, hc⟩
      · simp at hu
      · simp only [Option.some.injEq] at hab
        subst hab
        rw [add_none]
        have hj : j < ns.length * k := by have := (List.getElem?_eq_some_iff.1 hu).1; omega
        have hd : j = j / k * k + j % k := by rw [Nat.mul_comm]; exact (Nat.div_add_mod j k).symm
        have hq : j / k < ns.length := Nat.div_lt_of_lt_mul (by rw [Nat.mul_comm]; exact hj)
        have hm : j % k < k := Nat.mod_lt _ hk
        rw [hd, hc (j / k) (j % k) ns[j / k] (List.getElem?_eq_getElem hq) hm, ← flat_at hnk (List.getElem?_eq_getElem hq) hm, ← hd]
        exact hu) h1 hlen hby hB
    refine ⟨v', w', ?_, (Kp.of_grown hg (run_drawn _ _ _ _ hr)).mono fun b _ hb => hb.symm, hkk, by simpa using ho⟩
    simp only [execOp, resolve, invoke, List.map_toArray, List.map_cons, List.map_nil, ha.eval hx, ha.eval hy]
    simp [builtin, hr]

/-! ### calls -/
def Enters (P : Program) (f : FuncId) : Prop := ∀ args w, (callFunc f args).run P w = .ok (.enter f args) w
def lookAll (e : Env) : List Operand → Option (List Value)
  | [] => some []
  | x :: r => match look e x, lookAll e r with
    | some v, some vs => some (v :: vs)
    | _, _ => none
theorem lookAll_eval {a : Act} (ha : Holds n e a) : ∀ {l : List Operand} {vs : List Value}, lookAll e l = some vs → l.map a.eval = vs
  | [], vs, h => by simp [lookAll] at h; simp [h]
  | x :: r, vs, h => by
    unfold lookAll at h
    cases hx : look e x with
    | none => simp [hx] at h
    | some v =>
      cases hr : lookAll e r with
      | none => simp [hx, hr] at h
      | some us =>
        simp only [hx, hr, Option.some.injEq] at h
        subst h
        simp [ha.eval hx, lookAll_eval ha hr]
theorem op_call {f : FuncId} {xs : List Operand} {vs : List Value} {ats : Array TypeId} {T : Ending → World → Prop} (hen : Enters P f) (hxs : lookAll e xs = some vs) (hc : Calls P f vs.toArray w T) (hT : ∀ ev w', T ev w' → ∃ v, ev = .returned v) :
    Op1 P n e w ⟨dst, .call ⟨.value (.func f), xs.toArray, ats⟩, ty, pos, after, guard⟩ (fun v w' => T (.returned v) w') := fun a ha K Q hK => by
  unfold Oper.wp
  have hr : (execOp a.eval ⟨dst, .call ⟨.value (.func f), xs.toArray, ats⟩, ty, pos, after, guard⟩).run P w = .ok (.enter f vs.toArray) w := by
    simp only [execOp, resolve, List.map_toArray, lookAll_eval ha hxs]
    have he : a.eval (.func f) = .func (.func f) #[] #[] := rfl
    simp only [he, Deferred.ofValue]
    simp [invoke, hen vs.toArray w]
  rw [hr]
  refine hc.mono fun ev w' ht => ?_
  obtain ⟨v, rfl⟩ := hT ev w' ht
  exact hK v w' ht
end
end Go.Proofs.Ythpaadmpgdglnaa
