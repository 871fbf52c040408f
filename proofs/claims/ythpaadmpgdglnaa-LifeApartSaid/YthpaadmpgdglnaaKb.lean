/- Slices held against nil, rows that begin empty, closures. No condition. -/
import Derived.Test.YthpaadmpgdglnaaKa
namespace Go.Proofs.Ythpaadmpgdglnaa
set_option linter.unusedSimpArgs false
set_option linter.unusedVariables false
open Go Go.RowKit
def nilS : Value → Bool
  | .slice none _ _ => true
  | _ => false
theorem Sl.nil_eq {α : Type} {f : α → List Value} {w : World} {A : Nat → Prop} {v : Value} {k : Nat} {l : List α} (h : Sl w A v k (l.map f)) (hn : nilS v = true) : l = [] := by
  obtain ⟨_, a, cap, rfl, h3, _, h6, _⟩ := h
  cases a with
  | none => have := h6 rfl; rw [List.length_map] at h3; exact List.eq_nil_of_length_eq_zero (by omega)
  | some a => simp [nilS] at hn
theorem Ow.of_empty {α : Type} {f : α → List Value} {k : Nat} {w : World} {B g : Nat} {E : TypeId} (h : Bx w g E #[]) (hB : B ≤ g) : Ow w B E (.slice (some ⟨g, 0, none⟩) 0 0) k (([] : List α).map f) :=
  ⟨by simp, by simp, .inr ⟨g, 0, #[], rfl, hB, h, Nat.le_refl _, Nat.zero_le _, by simp, by simp⟩⟩
theorem Ow.nilv {w : World} {B : Nat} {E : TypeId} {v : Value} {k : Nat} {es : List (List Value)} (h : Ow w B E v k es) : v.oneCell' = true := h.sl.one
/-- A row that is known whole, as a row of the call's own. -/
theorem Fr.owt {α : Type} {f : α → List Value} {w : World} {b k : Nat} {E : TypeId} {l : List α} {sp : List (List Value)} (h : Fr w b E k (l.map f ++ sp)) {B : Nat} (hB : B ≤ b) {n cap : Nat} (hn : n = l.length) (hc : cap = l.length + sp.length) (hm : cap ≤ maxLen) : Ow w B E (.slice (some ⟨b, 0, none⟩) n cap) k (l.map f) := by
  subst hn
  have hl : (l.map f ++ sp).length = cap := by rw [List.length_append, List.length_map, hc]
  have := h.ow hB (n := l.length) (by rw [hl]; omega) (by rw [hl]; exact hm)
  rw [hl] at this
  have e : (l.map f ++ sp).take l.length = l.map f := by
    have hh := List.take_left (l₁ := l.map f) (l₂ := sp)
    rwa [List.length_map] at hh
  rwa [e] at this
theorem Ow.parts {α : Type} {f : α → List Value} {w : World} {B k : Nat} {E : TypeId} {v : Value} {l : List α} (h : Ow w B E v k (l.map f)) :
    (v = .slice none 0 0 ∧ l = []) ∨ ∃ b sp, v = .slice (some ⟨b, 0, none⟩) l.length (l.length + sp.length) ∧ B ≤ b ∧ Fr w b E k (l.map f ++ sp) ∧ l.length + sp.length ≤ 9223372036854775807 := by
  rcases h.full with ⟨rfl, h0⟩ | ⟨b, fs, rfl, hB, hfr, htk, hle, hmx⟩
  · exact .inl ⟨rfl, by simpa using h0⟩
  · rw [List.length_map] at *
    have hfs : fs = l.map f ++ fs.drop l.length := by rw [← htk, List.take_append_drop]
    have hcap : fs.length = l.length + (fs.drop l.length).length := by rw [List.length_drop]; omega
    refine .inr ⟨b, fs.drop l.length, by rw [← hcap], hB, by rw [← hfs]; exact hfr, by rw [← hcap]; exact hmx⟩
theorem one_take {α : Type} {f : α → List Value} {k : Nat} (hp : Plain f k) (l : List α) (m : Nat) : ∀ u ∈ ((l.map f).take m).flatten, u.oneCell' = true := by
  rw [← List.map_take]; exact one_encs hp _
section
variable {P : Program} {n : Nat} {e : Env} {S : World → Prop} {w : World} {dst : Option Tmp} {ty : TypeId} {pos : String} {after : Array Edge} {guard : Option (Nat × Bool)}
theorem ev_eq_nil {x y : Operand} {t u E k : Nat} {v : Value} {A : Nat → Prop} {es : List (List Value)} (hs : ∃ w, Sl w A v k es) (hx : look e x = some v) (hy : look e y = some (.slice none 0 0)) (hu : P.underlying t = some (.slice E)) :
    Ev P n e S ⟨dst, .binOp .eql t x y u, ty, pos, after, guard⟩ (.bool (nilS v)) := fun a ha w _ => by
  obtain ⟨w', _, c, cap, rfl, _⟩ := hs
  have hr : (binOp .eql t (.slice c es.length cap) (.slice none 0 0)).run P w = .ok (.bool c.isNone) w := by
    have he : ∀ d, (Op.equalIn (d + 1) t (.slice c es.length cap) (.slice none 0 0)).run P w = .ok c.isNone w := fun d => by
      cases c <;> simp [Op.equalIn, run_underlying hu]
    simp only [binOp]
    simp [Op.equal, Op.maxDepth, he 9999]
  have hg : (eqGuard .eql t x y (.slice c es.length cap) (.slice none 0 0)).run P w = .ok () w := rfl
  cases c <;> simp only [execOp, ha.eval hx, ha.eval hy, Sem.run_bind, hg, hr, Result.andThen_ok] <;> rfl
theorem ev_makeFunc {f : Go.Fn} {xs : List Operand} {vs : List Value} (hxs : lookAll e xs = some vs) : Ev P n e S ⟨dst, .makeFunc f #[] xs.toArray, ty, pos, after, guard⟩ (.func f #[] vs.toArray) := fun a ha w _ => by
  simp [execOp, Instr.makeFunc, lookAll_eval ha hxs]
theorem ev_makeFunc1 {f : Go.Fn} {ys xs : List Operand} {us vs : List Value} (hys : lookAll e ys = some us) (hxs : lookAll e xs = some vs) : Ev P n e S ⟨dst, .makeFunc f ys.toArray xs.toArray, ty, pos, after, guard⟩ (.func f us.toArray vs.toArray) := fun a ha w _ => by
  simp [execOp, Instr.makeFunc, lookAll_eval ha hxs, lookAll_eval ha hys]
/-- A call of a function value: what is bound first, the arguments, what was captured. -/
theorem op_fnv {f : FuncId} {y : Operand} {xs : List Operand} {vs us cs : List Value} {ats : Array TypeId} {T : Value → World → Prop} (hen : Enters P f) (hy : look e y = some (.func (.func f) us.toArray cs.toArray)) (hxs : lookAll e xs = some vs) (hc : Fn P f (us ++ vs ++ cs) w T) :
    Op1 P n e w ⟨dst, .call ⟨.value y, xs.toArray, ats⟩, ty, pos, after, guard⟩ T := by
  have hc' : Calls P f (us ++ vs ++ cs).toArray w fun ev w' => ∃ v, ev = .returned v ∧ T v w' := hc
  intro a ha K Q hK
  unfold Oper.wp
  have hr : (execOp a.eval ⟨dst, .call ⟨.value y, xs.toArray, ats⟩, ty, pos, after, guard⟩).run P w = .ok (.enter f (us ++ vs ++ cs).toArray) w := by
    simp only [execOp, resolve, List.map_toArray, lookAll_eval ha hxs, ha.eval hy, Deferred.ofValue]
    simp [invoke, hen (us ++ (vs ++ cs)).toArray w]
  rw [hr]
  refine hc'.mono fun ev w' ht => ?_
  obtain ⟨v, rfl, hv⟩ := ht
  exact hK v w' hv
end
end Go.Proofs.Ythpaadmpgdglnaa
