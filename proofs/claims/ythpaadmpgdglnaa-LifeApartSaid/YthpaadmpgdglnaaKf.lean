/- Maps with cells as keys: a look-up, an entry of a range. No condition. -/
import Derived.Test.YthpaadmpgdglnaaK9
import Derived.Laws.IdiomRangeMap
import Derived.Test.YthpaadmpgdglnaaTy2
import Derived.Test.YthpaadmpgdglnaaD2
import Derived.Test.YthpaadmpgdglnaaK6
namespace Go.Proofs.Ythpaadmpgdglnaa
open Go Go.RowKit
set_option linter.unusedVariables false
set_option linter.unusedSimpArgs false
set_option linter.unusedSectionVars false
set_option maxRecDepth 100000
def keyC (c : Cell) : Value := .agg #[.int .i64 c.1, .int .i64 c.2]
def valI (n : Int) : Value := .int .i64 n
def structB' (P : Program) (t : TypeId) : Bool := match P.underlying t with
  | some (.struct _) => true
  | _ => false
theorem struct_of' {P : Program} {t : TypeId} (h : structB' P t = true) : ∃ fs, P.underlying t = some (.struct fs) := by
  unfold structB' at h
  split at h
  · rename_i fs hu
    exact ⟨fs, hu⟩
  · cases h
theorem key_55 : KeyOk Try.prog 55 keyC where
  und := by
    obtain ⟨fs, hs⟩ := struct_of' (P := Try.prog) (t := 55) (by kernel_rfl)
    exact ⟨_, hs, fun a b => by simp [Instr.sameNow, keyC]⟩
  eq := fun a b w => by
    have h := eqv_55 9998 a.1 b.1 a.2 b.2 w
    exact h
  check := fun e a w => by
    kernel_rfl
  bits := fun a => by simp [Instr.sameBits, keyC]
theorem zval_3 (w : World) : (zeroValue 3).run Try.prog w = .ok (valI 0) w := by kernel_rfl
section
variable {κ ν : Type} [DecidableEq κ] {P : Program} {kt : TypeId} {fk : κ → Value} {fv : ν → Value} {n : Nat} {e : Env} {S : World → Prop} {w : World} {dst : Option Tmp} {ty : TypeId} {pos : String} {after : Array Edge} {guard : Option (Nat × Bool)}
theorem ev_lookup (h : KeyOk P kt fk) {t et : TypeId} (ht : P.underlying t = some (.map kt et)) {m : Nat} {l : List (κ × ν)} (hm : ∀ w, S w → MapAt w m fk fv l) {k : κ} {z : ν} (hz : ∀ w, (zeroValue et).run P w = .ok (fv z) w) {x y : Operand} (hx : look e x = some (.map (some m))) (hy : look e y = some (fk k)) :
    Ev P n e S ⟨dst, .lookup t x y false, ty, pos, after, guard⟩ (fv ((getM l k).getD z)) := fun a ha w hw => by
  have := run_lookup_own (P := P) (w := w) h ht (hm w hw) k (hz w) false
  cases hg : getM l k with
  | none => rw [hg] at this; simp at this; simp [execOp, ha.eval hx, ha.eval hy, this]
  | some v => rw [hg] at this; simp at this; simp [execOp, ha.eval hx, ha.eval hy, this]
theorem ents_nodup (fk : κ → Value) (fv : ν → Value) : ∀ (i : Nat) (l : List (κ × ν)), ((entsF fk fv i l).map (·.born)).Nodup ∧ ∀ x ∈ (entsF fk fv i l).map (·.born), i ≤ x
  | i, [] => by simp [entsF]
  | i, p :: l => by
    obtain ⟨h1, h2⟩ := ents_nodup fk fv (i + 1) l
    simp only [entsF, List.map_cons, List.nodup_cons, List.mem_cons]
    refine ⟨⟨fun h => by have := h2 _ h; omega, h1⟩, ?_⟩
    rintro x (rfl | h)
    · exact Nat.le_refl _
    · have := h2 x h; omega
theorem ev_entry {r m j : Nat} {l : List (κ × ν)} {s : List Nat} {p : κ × ν} (hi : IterAt w r m l.length (s ++ [j])) (hm : MapAt w m fk fv l) (hp : l[j]? = some p) {x : Operand} (hx : look e x = some (.pointer (some ⟨r, 0, none⟩))) :
    Ev P n e (· = w) ⟨dst, .entry x, ty, pos, after, guard⟩ (.tuple #[fk p.1, fv p.2]) := fun a ha w' hw => by
  subst hw
  have he : (⟨fk p.1, fv p.2, j⟩ : MapEntry) ∈ entsF fk fv 0 l := List.mem_of_getElem? (i := j) (by rw [ents_get, hp]; simp)
  have hf : (entsF fk fv 0 l).toArray.find? (·.born == j) = some ⟨fk p.1, fv p.2, j⟩ := by rw [← Array.find?_toList]; exact find_born ⟨fk p.1, fv p.2, j⟩ _ (ents_nodup fk fv 0 l).1 he
  have hi' : w'.heap[r]? = some (.mapIter (some m) l.length (s ++ [j]).toArray l.length) := hi
  have hm' : w'.heap[m]? = some (.map (entsF fk fv 0 l).toArray l.length) := hm
  have hr : (Instr.entry (.pointer (some ⟨r, 0, none⟩))).run P w' = .ok (.tuple #[fk p.1, fv p.2]) w' := by
    have hb : (s ++ [j]).toArray.back? = some j := by simp
    simp only [Instr.entry, getObj, Sem.run_bind, Sem.run, hi', hm', Result.andThen, hb, bne_self_eq_false, Bool.false_eq_true, if_false, hf]
    rfl
  simp [execOp, ha.eval hx, hr]
end
end Go.Proofs.Ythpaadmpgdglnaa
namespace Go.Proofs.Ythpaadmpgdglnaa
open Go Go.RowKit
set_option linter.unusedVariables false
set_option linter.unusedSimpArgs false
abbrev CM : Type := List (Cell × Int)
def atM (l : CM) (k : Cell) : Int := (getM l k).getD 0
def incM (l : CM) (k : Cell) (d : Int) : CM := setM l k ((getM l k).getD 0 + d)
theorem atM_inc (l : CM) (k : Cell) (d : Int) (x : Cell) : atM (incM l k d) x = atM l x + if x = k then d else 0 := by
  unfold atM incM
  rw [getM_setM]
  split
  · rename_i h; subst h; rfl
  · simp
theorem inc_bd {l : CM} {B : Int} {k : Cell} {d : Int} (h : ∀ x, 0 ≤ (getM l x).getD 0 ∧ (getM l x).getD 0 ≤ B) (hd : 0 ≤ d) : ∀ x, 0 ≤ (getM (incM l k d) x).getD 0 ∧ (getM (incM l k d) x).getD 0 ≤ B + d := fun x => by
  have e := atM_inc l k d x
  have := h x
  unfold atM at e
  split at e <;> omega
theorem touch_getD (l : CM) (k x : Cell) : (getM (touchM l k 0) x).getD 0 = (getM l x).getD 0 := by
  cases h : getM l k with
  | some v => rw [touch_some 0 h]
  | none =>
    rw [touch_none 0 h, show l ++ [(k, (0 : Int))] = setM l k 0 from by rw [(idxM_none h).2], getM_setM]
    split
    · rename_i e; subst e; rw [h]; rfl
    · rfl
/-- The neighbours of one cell more. -/
def cnt1 (m : CM) (c : Cell) : CM :=
  incM (incM (incM (incM (incM (incM (incM (incM (incM (incM m (c.1 + -1, c.2 + -1) 1) (c.1 + 0, c.2 + -1) 1) (c.1 + 1, c.2 + -1) 1) (c.1 + -1, c.2 + 0) 1) (c.1 + 0, c.2 + 0) 1) (c.1 + 1, c.2 + 0) 1) (c.1 + -1, c.2 + 1) 1) (c.1 + 0, c.2 + 1) 1) (c.1 + 1, c.2 + 1) 1) c 9
def countsM (l : List Cell) : CM := l.foldl cnt1 []
theorem cnt1_bd {m : CM} {B : Int} (c : Cell) (h : ∀ x, 0 ≤ (getM m x).getD 0 ∧ (getM m x).getD 0 ≤ B) : ∀ x, 0 ≤ (getM (cnt1 m c) x).getD 0 ∧ (getM (cnt1 m c) x).getD 0 ≤ B + 18 := fun x => by
  have := inc_bd (k := c) (inc_bd (k := (c.1 + 1, c.2 + 1)) (inc_bd (k := (c.1 + 0, c.2 + 1)) (inc_bd (k := (c.1 + -1, c.2 + 1)) (inc_bd (k := (c.1 + 1, c.2 + 0)) (inc_bd (k := (c.1 + 0, c.2 + 0)) (inc_bd (k := (c.1 + -1, c.2 + 0))
    (inc_bd (k := (c.1 + 1, c.2 + -1)) (inc_bd (k := (c.1 + 0, c.2 + -1)) (inc_bd (k := (c.1 + -1, c.2 + -1)) (d := 1) h (by decide)) (d := 1) (by decide)) (d := 1) (by decide)) (d := 1) (by decide)) (d := 1) (by decide)) (d := 1) (by decide)) (d := 1) (by decide)) (d := 1) (by decide)) (d := 1) (by decide)) (d := 9) (by decide) x
  refine ⟨this.1, Int.le_trans this.2 (by omega)⟩
theorem counts_bd : ∀ (l : List Cell) (m : CM) (B : Int), (∀ x, 0 ≤ (getM m x).getD 0 ∧ (getM m x).getD 0 ≤ B) → ∀ x, 0 ≤ (getM (l.foldl cnt1 m) x).getD 0 ∧ (getM (l.foldl cnt1 m) x).getD 0 ≤ B + 18 * (l.length : Int)
  | [], m, B, h, x => by simpa using h x
  | c :: l, m, B, h, x => by
    have := counts_bd l (cnt1 m c) (B + 18) (cnt1_bd c h) x
    rw [List.foldl_cons]
    refine ⟨this.1, Int.le_trans this.2 ?_⟩
    rw [List.length_cons]
    omega
theorem counts_bd0 (l : List Cell) (i : Nat) (hl : l.length ≤ 2000) : ∀ x, 0 ≤ (getM (countsM (l.take i)) x).getD 0 ∧ (getM (countsM (l.take i)) x).getD 0 ≤ 36000 := fun x => by
  have := counts_bd (l.take i) [] 0 (fun _ => by simp [getM]) x
  have h2 : (l.take i).length ≤ l.length := by rw [List.length_take]; omega
  refine ⟨this.1, Int.le_trans this.2 (by omega)⟩
theorem counts_succ {l : List Cell} {i : Nat} {c : Cell} (h : l[i]? = some c) : countsM (l.take (i + 1)) = cnt1 (countsM (l.take i)) c := take_succ_fold h
section
variable {P : Program} {n : Nat} {e : Env} {S : World → Prop} {w : World} {dst : Option Tmp} {ty : TypeId} {pos : String} {after : Array Edge} {guard : Option (Nat × Bool)}
theorem ev_lookupS {kt : TypeId} (h : KeyOk P kt keyC) {t et : TypeId} (ht : P.underlying t = some (.map kt et)) {m : Nat} {l : CM} (hm : ∀ w, S w → ∃ l', MapAt w m keyC valI l' ∧ ∀ x, (getM l' x).getD 0 = (getM l x).getD 0) {k : Cell} (hz : ∀ w, (zeroValue et).run P w = .ok (valI 0) w) {x y : Operand} (hx : look e x = some (.map (some m))) (hy : look e y = some (keyC k)) :
    Ev P n e S ⟨dst, .lookup t x y false, ty, pos, after, guard⟩ (.int .i64 ((getM l k).getD 0)) := fun a ha w hw => by
  obtain ⟨l', h1, h2⟩ := hm w hw
  rw [← h2 k]
  exact ev_lookup (S := (· = w)) h ht (fun _ e => e ▸ h1) hz hx hy a ha w rfl
end
end Go.Proofs.Ythpaadmpgdglnaa
