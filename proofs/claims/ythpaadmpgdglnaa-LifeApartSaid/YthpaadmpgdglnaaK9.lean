/- Maps of the call's own: made, looked up, written, ranged over. No condition. -/
import Derived.Test.YthpaadmpgdglnaaK8
import Derived.Maps.RangeRun
namespace Go.Proofs.Ythpaadmpgdglnaa
set_option linter.unusedSimpArgs false
set_option linter.unusedSectionVars false
open Go Go.RowKit
open Go.ChangeMaps (setBlock)
section
variable {κ ν : Type} [DecidableEq κ]
def getM : List (κ × ν) → κ → Option ν
  | [], _ => none
  | p :: l, k => if k = p.1 then some p.2 else getM l k
def setM : List (κ × ν) → κ → ν → List (κ × ν)
  | [], k, v => [(k, v)]
  | p :: l, k, v => if k = p.1 then (k, v) :: l else p :: setM l k v
/-- Where a key stands; the length: nowhere. -/
def idxM : List (κ × ν) → κ → Nat
  | [], _ => 0
  | p :: l, k => if k = p.1 then 0 else idxM l k + 1
/-- .. with a first value, where the key was not there. -/
def touchM : List (κ × ν) → κ → ν → List (κ × ν)
  | [], k, v => [(k, v)]
  | p :: l, k, v => if k = p.1 then p :: l else p :: touchM l k v
theorem getM_setM (l : List (κ × ν)) (k : κ) (v : ν) (k' : κ) : getM (setM l k v) k' = if k' = k then some v else getM l k' := by
  induction l with
  | nil => simp [setM, getM]
  | cons p l ih =>
    unfold setM
    split
    · rename_i h; subst h
      by_cases h' : k' = p.1 <;> simp [getM, h']
    · rename_i h
      simp only [getM, ih]
      by_cases h' : k' = p.1
      · have : ¬ k' = k := fun e => h (e ▸ h')
        simp [h', this]
        intro e; exact absurd e.symm h
      · simp [h']
theorem touch_set (l : List (κ × ν)) (k : κ) (z v : ν) : (touchM l k z).modify (idxM l k) (fun p => (p.1, v)) = setM l k v := by
  induction l with
  | nil => rfl
  | cons p l ih =>
    unfold touchM idxM setM
    split
    · rename_i h; simp [h]
    · simp [ih]
theorem touch_idx (l : List (κ × ν)) (k : κ) (z : ν) : (touchM l k z)[idxM l k]? = some (k, (getM l k).getD z) := by
  induction l with
  | nil => rfl
  | cons p l ih =>
    unfold touchM idxM getM
    split
    · rename_i h; subst h; simp
    · simpa using ih
theorem idxM_some {l : List (κ × ν)} {k : κ} {v : ν} (h : getM l k = some v) : l[idxM l k]? = some (k, v) := by
  induction l with
  | nil => simp [getM] at h
  | cons p l ih =>
    unfold getM at h
    unfold idxM
    split at h
    · rename_i e; subst e
      simp only [Option.some.injEq] at h
      subst h
      simp
    · rename_i e; rw [if_neg e]; simpa using ih h
theorem idxM_none {l : List (κ × ν)} {k : κ} (h : getM l k = none) : idxM l k = l.length ∧ setM l k = fun v => l ++ [(k, v)] := by
  induction l with
  | nil => exact ⟨rfl, rfl⟩
  | cons p l ih =>
    unfold getM at h
    split at h
    · cases h
    · rename_i e
      obtain ⟨h1, h2⟩ := ih h
      refine ⟨by unfold idxM; rw [if_neg e, h1]; rfl, ?_⟩
      funext v
      unfold setM
      rw [if_neg e, h2]
      rfl
theorem touch_some {l : List (κ × ν)} {k : κ} {v : ν} (z : ν) (h : getM l k = some v) : touchM l k z = l := by
  induction l with
  | nil => simp [getM] at h
  | cons p l ih =>
    unfold getM at h
    unfold touchM
    split at h
    · rename_i e; rw [if_pos e]
    · rename_i e; rw [if_neg e, ih h]
theorem touch_none {l : List (κ × ν)} {k : κ} (z : ν) (h : getM l k = none) : touchM l k z = l ++ [(k, z)] := by
  induction l with
  | nil => rfl
  | cons p l ih =>
    unfold getM at h
    unfold touchM
    split at h
    · cases h
    · rename_i e; rw [if_neg e, ih h]; rfl
theorem mem_setM (l : List (κ × ν)) (k : κ) (v : ν) (k' : κ) : k' ∈ (setM l k v).map (·.1) ↔ k' = k ∨ k' ∈ l.map (·.1) := by
  induction l with
  | nil => simp [setM]
  | cons p l ih =>
    unfold setM
    split
    · rename_i h; subst h; simp
    · simp only [List.map_cons, List.mem_cons, ih]
      constructor
      · rintro (h | h | h) <;> simp [h]
      · rintro (h | h | h) <;> simp [h]
theorem getM_mem {l : List (κ × ν)} {k : κ} : (getM l k).isSome = true ↔ k ∈ l.map (·.1) := by
  induction l with
  | nil => simp [getM]
  | cons p l ih =>
    unfold getM
    by_cases h : k = p.1
    · simp [h]
    · rw [if_neg h, ih]; simp [h]
theorem nodup_setM {l : List (κ × ν)} (h : (l.map (·.1)).Nodup) (k : κ) (v : ν) : ((setM l k v).map (·.1)).Nodup := by
  induction l with
  | nil => simp [setM]
  | cons p l ih =>
    simp only [List.map_cons, List.nodup_cons] at h
    unfold setM
    split
    · rename_i e; subst e; simpa using h
    · rename_i e
      simp only [List.map_cons, List.nodup_cons, mem_setM]
      refine ⟨?_, ih h.2⟩
      rintro (h' | h')
      · exact e h'.symm
      · exact h.1 h'
theorem getM_nodup {l : List (κ × ν)} (h : (l.map (·.1)).Nodup) {k : κ} {v : ν} (hm : (k, v) ∈ l) : getM l k = some v := by
  induction l with
  | nil => cases hm
  | cons p l ih =>
    simp only [List.map_cons, List.nodup_cons] at h
    unfold getM
    rcases List.mem_cons.1 hm with rfl | hm
    · simp
    · have : ¬ k = p.1 := fun e => h.1 (e ▸ List.mem_map_of_mem (f := (·.1)) hm)
      rw [if_neg this]
      exact ih h.2 hm

/-- A map's entries, born one behind the other. -/
def entsF (fk : κ → Value) (fv : ν → Value) : Nat → List (κ × ν) → List MapEntry
  | _, [] => []
  | i, p :: l => ⟨fk p.1, fv p.2, i⟩ :: entsF fk fv (i + 1) l
def MapAt (w : World) (m : Nat) (fk : κ → Value) (fv : ν → Value) (l : List (κ × ν)) : Prop := w.heap[m]? = some (.map (entsF fk fv 0 l).toArray l.length)
theorem ents_len (fk : κ → Value) (fv : ν → Value) (i : Nat) (l : List (κ × ν)) : (entsF fk fv i l).length = l.length := by
  induction l generalizing i with
  | nil => rfl
  | cons p l ih => simp [entsF, ih]
theorem ents_get (fk : κ → Value) (fv : ν → Value) (i j : Nat) (l : List (κ × ν)) : (entsF fk fv i l)[j]? = (l[j]?).map fun p => ⟨fk p.1, fv p.2, i + j⟩ := by
  induction l generalizing i j with
  | nil => simp [entsF]
  | cons p l ih =>
    cases j with
    | zero => simp [entsF]
    | succ j => simp only [entsF, List.getElem?_cons_succ, ih]; congr 1; funext q; congr 1; omega
theorem ents_append (fk : κ → Value) (fv : ν → Value) (i : Nat) (l : List (κ × ν)) (p : κ × ν) : entsF fk fv i (l ++ [p]) = entsF fk fv i l ++ [⟨fk p.1, fv p.2, i + l.length⟩] := by
  induction l generalizing i with
  | nil => simp [entsF]
  | cons q l ih => simp only [List.cons_append, entsF, ih, List.length_cons]; rw [show i + 1 + l.length = i + (l.length + 1) by omega]
theorem ents_modify (fk : κ → Value) (fv : ν → Value) (i j : Nat) (l : List (κ × ν)) (v : ν) : (entsF fk fv i l).modify j (fun e => { e with val := fv v }) = entsF fk fv i (l.modify j fun p => (p.1, v)) := by
  induction l generalizing i j with
  | nil => simp [entsF]
  | cons q l ih =>
    cases j with
    | zero => simp [entsF]
    | succ j => simp [entsF, ih]
theorem ents_find (fk : κ → Value) (fv : ν → Value) (i j : Nat) (l : List (κ × ν)) (hj : j < l.length) : (entsF fk fv i l).findIdx? (fun e => (e.born : Int) == ((i + j : Nat) : Int)) = some j := by
  induction l generalizing i j with
  | nil => simp at hj
  | cons q l ih =>
    cases j with
    | zero => simp [entsF, List.findIdx?_cons]
    | succ j =>
      have hne : ((i : Int) == ((i + (j + 1) : Nat) : Int)) = false := by simp; omega
      have := ih (i + 1) j (by simpa using hj)
      rw [show i + 1 + j = i + (j + 1) by omega] at this
      simp only [entsF, List.findIdx?_cons, hne, this]
      simp

/-- What is asked of a key's type. -/
structure KeyOk (P : Program) (kt : TypeId) (fk : κ → Value) : Prop where
  und : ∃ u, P.underlying kt = some u ∧ ∀ a b, Instr.sameNow u (fk a) (fk b) = none
  eq : ∀ a b w, (Op.equal kt (fk a) (fk b)).run P w = .ok (decide (a = b)) w
  check : ∀ e a w, (Instr.checkKey e 10000 kt (fk a)).run P w = .ok () w
  bits : ∀ a, Instr.sameBits 10000 (fk a) (fk a) = true
variable {P : Program} {kt : TypeId} {fk : κ → Value} {fv : ν → Value} {w : World}
theorem run_findAsking (h : KeyOk P kt fk) (l : List (κ × ν)) (j i : Nat) (k : κ) : (Instr.findAsking kt (fk k) (entsF fk fv j l) i).run P w = .ok ((getM l k).map fun v => (i + idxM l k, fv v)) w := by
  induction l generalizing j i with
  | nil => simp [entsF, Instr.findAsking, getM]
  | cons p l ih =>
    simp only [entsF, Instr.findAsking, Sem.run_bind, h.eq, Result.andThen_ok]
    by_cases e : k = p.1
    · simp [e, getM, idxM]
    · simp only [e, decide_false, Bool.false_eq_true, if_false, ih, getM, idxM]
      congr 2
      funext v
      simp; omega
theorem run_findKey' (h : KeyOk P kt fk) (l : List (κ × ν)) (k : κ) : (Instr.findKey kt (fk k) (entsF fk fv 0 l)).run P w = .ok ((getM l k).map fun v => (idxM l k, fv v)) w := by
  obtain ⟨u, hu, hn⟩ := h.und
  have hf := run_findAsking (P := P) (w := w) (fv := fv) h l 0 0 k
  simp only [Nat.zero_add] at hf
  cases l with
  | nil => simp [Instr.findKey, run_underlying hu, entsF, Instr.findNow, getM]
  | cons p l =>
    simp only [entsF] at hf ⊢
    simp only [Instr.findKey, Sem.run_bind, run_underlying hu, Result.andThen_ok, Instr.findNow, hn, hf]
theorem run_lookup_own (h : KeyOk P kt fk) {t et : TypeId} (ht : P.underlying t = some (.map kt et)) {m : Nat} {l : List (κ × ν)} (hm : MapAt w m fk fv l) (k : κ) {z : Value} (hz : (zeroValue et).run P w = .ok z w) (ok : Bool) :
    (Instr.lookup t (.map (some m)) (fk k) ok).run P w = .ok (if ok then .tuple #[(match getM l k with | some v => fv v | none => z), .bool (getM l k).isSome] else (match getM l k with | some v => fv v | none => z)) w := by
  have hf := run_findKey' (P := P) (w := w) (fv := fv) h l k
  simp only [Instr.lookup, Sem.run_bind, run_underlying ht, Result.andThen_ok, Go.MapKept.run_getObj_map hm, h.check, hf]
  cases hg : getM l k with
  | none => rw [hg] at hf; simp [hf, hz]
  | some v => rw [hg] at hf; simp [hf]
theorem run_mapUpdate_own (h : KeyOk P kt fk) {t et : TypeId} (ht : P.underlying t = some (.map kt et)) {m : Nat} {l : List (κ × ν)} (hm : MapAt w m fk fv l) (k : κ) (v : ν) :
    (Instr.mapUpdate t (.map (some m)) (fk k) (fv v)).run P w = .ok () { w with heap := w.heap.setIfInBounds m (.map (entsF fk fv 0 (setM l k v)).toArray (setM l k v).length) } := by
  have hf := run_findKey' (P := P) (w := w) (fv := fv) h l k
  simp only [Instr.mapUpdate, Sem.run_bind, run_underlying ht, Result.andThen_ok, Go.MapKept.run_getObj_map hm, h.check, hf]
  cases hg : getM l k with
  | none =>
    obtain ⟨h1, h2⟩ := idxM_none hg
    simp only [Option.map_none, Go.MapKept.run_setObj_map _ hm, h2, ents_append, List.length_append, List.length_cons, List.length_nil, Nat.zero_add]
    simp
  | some u =>
    have hi := idxM_some hg
    have hlen : (setM l k v).length = l.length := by rw [← touch_set l k u v, touch_some u hg, List.length_modify]
    have hset : entsF fk fv 0 (setM l k v) = (entsF fk fv 0 l).modify (idxM l k) (fun e => { e with val := fv v }) := by rw [ents_modify, ← touch_set l k u v, touch_some u hg]
    have hkey : (entsF fk fv 0 l)[idxM l k]? = some ⟨fk k, fv u, 0 + idxM l k⟩ := by rw [ents_get, hi]; rfl
    have hmod : (entsF fk fv 0 l).modify (idxM l k) (fun e => { e with key := fk k, val := fv v }) = (entsF fk fv 0 l).modify (idxM l k) (fun e => { e with val := fv v }) := by
      apply List.ext_getElem?
      intro j
      simp only [List.getElem?_modify]
      by_cases e : idxM l k = j
      · subst e; rw [hkey]; simp
      · simp [e]
    simp only [Option.map_some, List.getElem?_toArray, hkey, Option.getD_some, Instr.keyThatStays, h.bits, if_true, Sem.run_bind, Sem.run_pure, Result.andThen_ok, Go.MapKept.run_setObj_map _ hm, hlen, hset]
    simp [hmod]
theorem run_mapEntry_own (h : KeyOk P kt fk) {t et : TypeId} (ht : P.underlying t = some (.map kt et)) {m : Nat} {l : List (κ × ν)} (hm : MapAt w m fk fv l) (k : κ) {z : ν} (hz : (zeroValue et).run P w = .ok (fv z) w) :
    (Instr.mapEntry t (.map (some m)) (fk k)).run P w = .ok (.tuple #[fv ((getM l k).getD z), .int .i64 (idxM l k : Nat)]) { w with heap := w.heap.setIfInBounds m (.map (entsF fk fv 0 (touchM l k z)).toArray (touchM l k z).length) } := by
  have hf := run_findKey' (P := P) (w := w) (fv := fv) h l k
  simp only [Instr.mapEntry, Sem.run_bind, run_underlying ht, Result.andThen_ok, Go.MapKept.run_getObj_map hm, h.check, hf]
  cases hg : getM l k with
  | none =>
    obtain ⟨h1, h2⟩ := idxM_none hg
    simp only [Option.map_none, Sem.run_bind, hz, Result.andThen_ok, Go.MapKept.run_setObj_map _ hm, touch_none z hg, ents_append, h1]
    simp [goInt]
  | some u =>
    have hi := idxM_some hg
    have hkey : (entsF fk fv 0 l)[idxM l k]? = some ⟨fk k, fv u, 0 + idxM l k⟩ := by rw [ents_get, hi]; rfl
    have hmod : (entsF fk fv 0 l).modify (idxM l k) (fun e => { e with key := fk k }) = entsF fk fv 0 l := by
      apply List.ext_getElem?
      intro j
      simp only [List.getElem?_modify]
      by_cases e : idxM l k = j
      · subst e; rw [hkey]; simp
      · simp [e]
    simp only [Option.map_some, List.getElem?_toArray, hkey, Option.getD_some, Instr.keyThatStays, h.bits, if_true, Sem.run_bind, Sem.run_pure, Result.andThen_ok, Go.MapKept.run_setObj_map _ hm, touch_some z hg]
    simp [hmod, goInt]
theorem run_entryStore_own {t : TypeId} {m : Nat} {l : List (κ × ν)} (hm : MapAt w m fk fv l) {j : Nat} (hj : j < l.length) (v : ν) :
    (Instr.entryStore t (.map (some m)) (.int .i64 (j : Nat)) (fv v)).run P w = .ok () { w with heap := w.heap.setIfInBounds m (.map (entsF fk fv 0 (l.modify j fun p => (p.1, v))).toArray (l.modify j fun p => (p.1, v)).length) } := by
  have hf := ents_find fk fv 0 j l hj
  simp only [Nat.zero_add] at hf
  simp only [Instr.entryStore, Sem.run_bind, Go.MapKept.run_getObj_map hm, Result.andThen_ok, asInt, asIntOf, Sem.run_map, Sem.run_pure, List.findIdx?_toArray, hf, Go.MapKept.run_setObj_map _ hm, List.length_modify]
  simp [← ents_modify, asIntOf, hf, Go.MapKept.run_setObj_map _ hm]
end
section
variable {κ ν : Type} [DecidableEq κ] {P : Program} {kt : TypeId} {fk : κ → Value} {fv : ν → Value} {w : World} {n : Nat} {e : Env} {S : World → Prop} {dst : Option Tmp} {ty : TypeId} {pos : String} {after : Array Edge} {guard : Option (Nat × Bool)}
theorem MapAt.lt {m : Nat} {l : List (κ × ν)} (h : MapAt w m fk fv l) : m < w.heap.size := (Array.getElem?_eq_some_iff.1 h).1
theorem MapAt.kp {W : Nat → Prop} {w' : World} {m : Nat} {l : List (κ × ν)} (h : MapAt w m fk fv l) (k : Kp W w w') (hn : ¬ W m) : MapAt w' m fk fv l := (k.block m h.lt hn).trans h
theorem MapAt.ex {w' : World} {m : Nat} {l : List (κ × ν)} (h : MapAt w m fk fv l) (k : Ex w w') : MapAt w' m fk fv l := h.kp k id
theorem Kp.of_setObj (w : World) (m : Nat) (o : Obj) : Kp (fun k => k = m) w { w with heap := w.heap.setIfInBounds m o } :=
  ⟨rfl, rfl, rfl, by simp, fun k _ hk => by simp [Array.getElem?_setIfInBounds, Ne.symm hk], Nat.le_refl _⟩
theorem MapAt.set {m : Nat} {l l' : List (κ × ν)} (h : MapAt w m fk fv l) : MapAt { w with heap := w.heap.setIfInBounds m (.map (entsF fk fv 0 l').toArray l'.length) } m fk fv l' := by
  simp [MapAt, Array.getElem?_setIfInBounds, h.lt]
theorem MapAt.neBx {m g : Nat} {l : List (κ × ν)} {T : TypeId} {cs : Array Value} (h : MapAt w m fk fv l) (hb : Bx w g T cs) : ¬ g = m := by
  rintro rfl; rw [MapAt, hb] at h; simp at h
theorem MapAt.neOw {m k B : Nat} {l : List (κ × ν)} {E : TypeId} {v : Value} {es : List (List Value)} (h : MapAt w m fk fv l) (ho : Ow w B E v k es) : ∀ b, v.ownBlock = some b → ¬ b = m := by
  rintro b hv rfl
  rcases ho.2.2 with ⟨rfl, _⟩ | ⟨b', cap, cur, rfl, _, hh, _⟩
  · simp [Value.ownBlock] at hv
  · simp only [Value.ownBlock, Option.some.injEq] at hv
    subst hv
    rw [MapAt, hh] at h; simp at h
theorem op_makeMap {t : TypeId} : Op1 P n e w ⟨dst, .makeMap t none, ty, pos, after, guard⟩ (fun v w' => ∃ m, v = .map (some m) ∧ w.heap.size ≤ m ∧ Ex w w' ∧ MapAt w' m fk fv ([] : List (κ × ν))) := Op1.of_run fun a ha =>
  ⟨_, w.alloc (.map #[] 0), by simp [execOp, Instr.makeMap], w.heap.size, rfl, Nat.le_refl _, Kp.of_alloc _ _, heap_alloc_new w _⟩
theorem ev_lookupOk (h : KeyOk P kt fk) {t et : TypeId} (ht : P.underlying t = some (.map kt et)) {m : Nat} {l : List (κ × ν)} (hm : ∀ w, S w → MapAt w m fk fv l) {k : κ} {z : Value} (hz : ∀ w, (zeroValue et).run P w = .ok z w) {x y : Operand} (hx : look e x = some (.map (some m))) (hy : look e y = some (fk k)) {v : Value} {b : Bool}
    (hb : (getM l k).isSome = b) (hv : (match getM l k with | some v => fv v | none => z) = v) : Ev P n e S ⟨dst, .lookup t x y true, ty, pos, after, guard⟩ (.tuple #[v, .bool b]) := fun a ha w hw => by
  have := run_lookup_own (P := P) (w := w) h ht (hm w hw) k (hz w) true
  rw [hb, hv] at this
  simp [execOp, ha.eval hx, ha.eval hy, this]
theorem op_mapUpdate (h : KeyOk P kt fk) {t et : TypeId} (ht : P.underlying t = some (.map kt et)) {m : Nat} {l : List (κ × ν)} (hm : MapAt w m fk fv l) {k : κ} {v : ν} {x y z : Operand} (hx : look e x = some (.map (some m))) (hy : look e y = some (fk k)) (hz : look e z = some (fv v)) :
    Op1 P n e w ⟨dst, .mapUpdate t x y z, ty, pos, after, guard⟩ (fun _ w' => Kp (fun b => b = m) w w' ∧ MapAt w' m fk fv (setM l k v)) := Op1.of_skip fun a ha =>
  ⟨_, by simp [execOp, ha.eval hx, ha.eval hy, ha.eval hz, run_mapUpdate_own (P := P) h ht hm k v], Kp.of_setObj _ _ _, hm.set⟩
theorem op_mapEntry (h : KeyOk P kt fk) {t et : TypeId} (ht : P.underlying t = some (.map kt et)) {m : Nat} {l : List (κ × ν)} (hm : MapAt w m fk fv l) {k : κ} {z0 : ν} (hz : ∀ w, (zeroValue et).run P w = .ok (fv z0) w) {x y : Operand} (hx : look e x = some (.map (some m))) (hy : look e y = some (fk k)) :
    Op1 P n e w ⟨dst, .mapEntry t x y, ty, pos, after, guard⟩ (fun v w' => v = .tuple #[fv ((getM l k).getD z0), .int .i64 (idxM l k : Nat)] ∧ Kp (fun b => b = m) w w' ∧ MapAt w' m fk fv (touchM l k z0)) := Op1.of_run fun a ha =>
  ⟨_, _, by simp [execOp, ha.eval hx, ha.eval hy, run_mapEntry_own (P := P) h ht hm k (hz w)], rfl, Kp.of_setObj _ _ _, hm.set⟩
theorem op_entryStore {t : TypeId} {m : Nat} {l : List (κ × ν)} {k : κ} {z0 v : ν} (hm : MapAt w m fk fv (touchM l k z0)) {x y z : Operand} (hx : look e x = some (.map (some m))) (hy : look e y = some (.int .i64 (idxM l k : Nat))) (hz : look e z = some (fv v)) :
    Op1 P n e w ⟨dst, .entryStore t x y z, ty, pos, after, guard⟩ (fun _ w' => Kp (fun b => b = m) w w' ∧ MapAt w' m fk fv (setM l k v)) := Op1.of_skip fun a ha => by
  have hj : idxM l k < (touchM l k z0).length := (List.getElem?_eq_some_iff.1 (touch_idx l k z0)).1
  have hr := run_entryStore_own (P := P) (t := t) hm hj v
  rw [touch_set] at hr
  exact ⟨_, by simp [execOp, ha.eval hx, ha.eval hy, ha.eval hz, hr], Kp.of_setObj _ _ _, hm.set⟩

/-! ### ranged over -/
/-- The iterator in block r, the entries at the places of 's' handed out. -/
def IterAt (w : World) (r m c : Nat) (s : List Nat) : Prop := w.heap[r]? = some (.mapIter (some m) c s.toArray c)
theorem IterAt.lt {r m c : Nat} {s : List Nat} (h : IterAt w r m c s) : r < w.heap.size := (Array.getElem?_eq_some_iff.1 h).1
theorem IterAt.kp {W : Nat → Prop} {w' : World} {r m c : Nat} {s : List Nat} (h : IterAt w r m c s) (k : Kp W w w') (hn : ¬ W r) : IterAt w' r m c s := (k.block r h.lt hn).trans h
theorem IterAt.ex {w' : World} {r m c : Nat} {s : List Nat} (h : IterAt w r m c s) (k : Ex w w') : IterAt w' r m c s := h.kp k id
theorem IterAt.neBx {r m c g : Nat} {s : List Nat} {T : TypeId} {cs : Array Value} (h : IterAt w r m c s) (hb : Bx w g T cs) : ¬ g = r := by
  rintro rfl; rw [IterAt, hb] at h; simp at h
theorem IterAt.neMap {r m m' c : Nat} {s : List Nat} {l : List (κ × ν)} (h : IterAt w r m c s) (hb : MapAt w m' fk fv l) : ¬ m' = r := by
  rintro rfl; rw [IterAt, hb] at h; simp at h
theorem op_range {t et : TypeId} (ht : P.underlying t = some (.map kt et)) {m : Nat} {l : List (κ × ν)} (hm : MapAt w m fk fv l) {x : Operand} (hx : look e x = some (.map (some m))) :
    Op1 P n e w ⟨dst, .range t x, ty, pos, after, guard⟩ (fun v w' => ∃ r, v = .pointer (some ⟨r, 0, none⟩) ∧ w.heap.size ≤ r ∧ Ex w w' ∧ IterAt w' r m l.length []) := Op1.of_run fun a ha =>
  ⟨_, w.alloc (.mapIter (some m) l.length #[] l.length), by simp [execOp, ha.eval hx, run_range_map (P := P) w t kt et m _ _ ht hm], w.heap.size, rfl, Nat.le_refl _, Kp.of_alloc _ _, heap_alloc_new w _⟩
theorem ents_born {fk : κ → Value} {fv : ν → Value} {l : List (κ × ν)} {x : MapEntry} (hx : x ∈ entsF fk fv 0 l) : ∃ p, l[x.born]? = some p ∧ x.key = fk p.1 ∧ x.val = fv p.2 := by
  obtain ⟨j, hj⟩ := List.getElem?_of_mem hx
  rw [ents_get] at hj
  cases hl : l[j]? with
  | none => rw [hl] at hj; cases hj
  | some p =>
    rw [hl] at hj
    simp only [Option.map_some, Option.some.injEq, Nat.zero_add] at hj
    subst hj
    exact ⟨p, hl, rfl, rfl⟩
theorem Kp.of_setBlock (w : World) (m : Nat) (o : Obj) : Kp (fun k => k = m) w (setBlock w m o) :=
  ⟨rfl, rfl, rfl, by simp [setBlock], fun k _ hk => by simp [setBlock, Array.getElem?_setIfInBounds, Ne.symm hk], Nat.le_refl _⟩
theorem op_next {r m : Nat} {l : List (κ × ν)} {s : List Nat} (hi : IterAt w r m l.length s) (hm : MapAt w m fk fv l) {x : Operand} (hx : look e x = some (.pointer (some ⟨r, 0, none⟩))) :
    Op1 P n e w ⟨dst, .next x false, ty, pos, after, guard⟩ (fun v w' => (v = .tuple #[.bool false] ∧ w' = w ∧ ∀ j, j < l.length → j ∈ s) ∨
      ∃ j p, v = .tuple #[.bool true, fk p.1, fv p.2] ∧ l[j]? = some p ∧ ¬ j ∈ s ∧ Kp (fun k => k = r) w w' ∧ IterAt w' r m l.length (s ++ [j])) := Op1.of_run fun a ha => by
  have hold : ∀ x ∈ (entsF fk fv 0 l).toArray.toList, x.born < l.length := fun x hx => by
    obtain ⟨p, hp, _⟩ := ents_born (by simpa using hx)
    exact (List.getElem?_eq_some_iff.1 hp).1
  rcases run_next_at (P := P) w ty r m l.length l.length s.toArray (entsF fk fv 0 l).toArray l.length hi hm hold (Nat.le_refl _) with ⟨h0, hr⟩ | ⟨en, hen, w1, hw1, hr⟩
  · refine ⟨_, _, by simp only [execOp, ha.eval hx, Sem.run_bind, hr, Result.andThen_ok]; rfl, .inl ⟨rfl, rfl, fun j hj => ?_⟩⟩
    have hz : leftOf (entsF fk fv 0 l).toArray s.toArray = #[] := Array.eq_empty_of_size_eq_zero h0
    have hq : l[j]? = some l[j] := List.getElem?_eq_getElem hj
    have he : (⟨fk l[j].1, fv l[j].2, j⟩ : MapEntry) ∈ entsF fk fv 0 l := List.mem_of_getElem? (i := j) (by rw [ents_get, hq]; simp)
    rcases Classical.em (j ∈ s) with h | h
    · exact h
    · exfalso
      have : (⟨fk l[j].1, fv l[j].2, j⟩ : MapEntry) ∈ leftOf (entsF fk fv 0 l).toArray s.toArray := by
        unfold leftOf
        rw [Array.mem_filter]
        refine ⟨by simpa using he, ?_⟩
        simpa using h
      rw [hz] at this
      simp at this
  · have hmem : en ∈ leftOf (entsF fk fv 0 l).toArray s.toArray := by simpa using hen
    unfold leftOf at hmem
    rw [Array.mem_filter] at hmem
    obtain ⟨p, hp, hk, hv⟩ := ents_born (fk := fk) (fv := fv) (l := l) (x := en) (by simpa using hmem.1)
    have hns : ¬ en.born ∈ s := by simpa using hmem.2
    have hk1 : Kp (fun k => k = r) w (setBlock w1 r (.mapIter (some m) l.length (s.toArray.push en.born) l.length)) := by
      rcases hw1 with rfl | rfl
      · exact Kp.of_setBlock _ _ _
      · exact (Kp.of_drew w).kp (Kp.of_setBlock _ _ _)
    have hlt : r < w1.heap.size := by rcases hw1 with rfl | rfl <;> exact hi.lt
    refine ⟨_, _, by simp only [execOp, ha.eval hx, Sem.run_bind, hr, Result.andThen_ok]; rfl, .inr ⟨en.born, p, by rw [hk, hv], hp, hns, hk1, ?_⟩⟩
    simp [IterAt, setBlock, Array.getElem?_setIfInBounds, hlt]
end
end Go.Proofs.Ythpaadmpgdglnaa
