/- Calls with one ending, how a function is entered and left. No condition. -/
import Derived.Test.YthpaadmpgdglnaaK2
namespace Go.Proofs.Ythpaadmpgdglnaa
open Go Go.RowKit

/-- The call returns, and T holds of what it returns and of the world behind it. -/
def Fn (P : Program) (f : FuncId) (args : List Value) (w : World) (T : Value → World → Prop) : Prop := Calls P f args.toArray w fun ev w' => ∃ v, ev = .returned v ∧ T v w'
theorem Fn.mono {P : Program} {f : FuncId} {args : List Value} {w : World} {T T' : Value → World → Prop} (h : Fn P f args w T) (ht : ∀ v w', T v w' → T' v w') : Fn P f args w T' :=
  Calls.mono h fun _ _ ⟨v, he, hv⟩ => ⟨v, he, ht _ _ hv⟩

/-- The slots at a function's beginning. -/
def argEnv : Nat → List Value → Env
  | _, [] => []
  | i, v :: vs => (i, v) :: argEnv (i + 1) vs
theorem argEnv_get : ∀ (vs : List Value) (i t : Nat) (v : Value), (argEnv i vs).get? t = some v → i ≤ t ∧ vs[t - i]? = some v
  | [], _, _, _, h => by simp [argEnv, Env.get?] at h
  | u :: vs, i, t, v, h => by
    rw [argEnv, Env.get?_cons] at h
    by_cases e : i = t
    · subst e
      simp only [if_true, Option.some.injEq] at h
      subst h
      simp
    · rw [if_neg e] at h
      obtain ⟨h1, h2⟩ := argEnv_get vs (i + 1) t v h
      refine ⟨by omega, ?_⟩
      rw [show t - i = (t - (i + 1)) + 1 by omega]
      simpa using h2
theorem fn_enter {P : Program} {f : FuncId} {fn : Func} {c : Code} {n : Nat} {vs : List Value} {w : World} {T : Value → World → Prop} (hf : P.funcs[f]? = some fn) (hb : fn.body = some c) (hn : fn.ntmps = n) (hl : vs.length ≤ n)
    (h : CW P fn (fun ev w' => ∃ v, ev = .returned v ∧ T v w') [] n c (argEnv 0 vs) w) : Fn P f vs w T := by
  refine calls_of_wp hf hb (h _ ⟨rfl, ?_, fun t v ht => ?_⟩)
  · simp [hn]; omega
  · obtain ⟨_, h2⟩ := argEnv_get vs 0 t v ht
    simp only [Nat.sub_zero] at h2
    have hlt : t < vs.length := (List.getElem?_eq_some_iff.1 h2).1
    rw [Array.getElem?_append_left (by simpa using hlt)]
    simpa using h2

section
variable {P : Program} {n : Nat} {e : Env} {S : World → Prop} {w : World}
/-- What the result variables hold. -/
inductive Res (P : Program) (e : Env) (w : World) : List ResultVar → List Value → Prop
  | nil : Res P e w [] []
  | tmp {t : Nat} {v : Value} {r : List ResultVar} {vs : List Value} (h : e.get? t = some v) (k : Res P e w r vs) : Res P e w (.tmp t :: r) (v :: vs)
  | cell {p g : Nat} {ty k : TypeId} {T : TypeId} {cs : Array Value} {r : List ResultVar} {vs : List Value} (h : e.get? p = some (.pointer (some ⟨g, 0, none⟩))) (hb : Bx w g T cs) (ht : aggSize P ty = some k) (hk : cs.size = k) (r' : Res P e w r vs) : Res P e w (.cell p ty :: r) (.agg cs :: vs)
def resOf (tmps : Array Value) : ResultVar → Sem Value
  | .tmp t => pure (tmps.getD t undef)
  | .cell p t => do loadVar t (← asAddr (tmps.getD p undef))
theorem Res.run {a : Act} (ha : Holds n e a) {rs : List ResultVar} {vs : List Value} (h : Res P e w rs vs) : (rs.mapM (resOf a.tmps)).run P w = .ok vs w := by
  induction h with
  | nil => simp
  | tmp h k ih =>
    have hv := ha.get _ _ h
    simp [List.mapM_cons, resOf, Array.getD_eq_getD_getElem?, hv, ih]
  | @cell p g ty k T cs r vs h hb ht hk r' ih =>
    have hv := ha.get _ _ h
    have hr := run_loadVar_agg (P := P) (w := w) ht (a := ⟨g, 0, none⟩) (cs := cs.toList) (by simpa using hk) (fun j v hj => by rw [add_none, Nat.zero_add, hb.cell]; simpa using hj)
    simp [List.mapM_cons, resOf, Array.getD_eq_getD_getElem?, hv, ih, asAddr, hr]
def tupled : List Value → Value
  | [v] => v
  | vs => .tuple vs.toArray
theorem ret_post {fn : Func} {T : Value → World → Prop} {rs : List ResultVar} {vs : List Value} (hres : fn.results = rs.toArray) (hr : Res P e w rs vs) (hT : T (tupled vs) w) : ∀ a, Holds n e a → bodyPost P fn (fun ev w' => ∃ v, ev = .returned v ∧ T v w') .ret a w := by
  intro a ha
  refine ⟨ha.defers, tupled vs, ?_, _, rfl, hT⟩
  have h1 := hr.run ha
  have h2 : (results fn a.tmps).run P w = ((do let vs ← fn.results.mapM (resOf a.tmps); pure (if h : vs.size = 1 then vs[0] else .tuple vs)) : Sem Value).run P w := by
    unfold results
    congr 3
  rw [h2, hres, Array.mapM_eq_mapM_toList]
  simp only [Sem.run_bind, Sem.run_map, h1, Result.andThen_ok, Sem.run_pure]
  match vs with
  | [] => rfl
  | [v] => rfl
  | _ :: _ :: _ => rfl
theorem end_post {fn : Func} {T : Value → World → Prop} {rs : List ResultVar} {vs : List Value} (hres : fn.results = rs.toArray) (hr : Res P e w rs vs) (hT : T (tupled vs) w) : ∀ a, Holds n e a → bodyPost P fn (fun ev w' => ∃ v, ev = .returned v ∧ T v w') .normal a w :=
  fun a ha => ret_post hres hr hT a ha
theorem op_fn {dst : Option Tmp} {ty : TypeId} {pos : String} {after : Array Edge} {guard : Option (Nat × Bool)} {f : FuncId} {xs : List Operand} {vs : List Value} {ats : Array TypeId} {T : Value → World → Prop} (hen : Enters P f) (hxs : lookAll e xs = some vs) (hc : Fn P f vs w T) :
    Op1 P n e w ⟨dst, .call ⟨.value (.func f), xs.toArray, ats⟩, ty, pos, after, guard⟩ T :=
  (op_call hen hxs hc fun _ _ ⟨v, h, _⟩ => ⟨v, h⟩).mono fun v w' ⟨u, h, ht⟩ => by injection h with h; subst h; exact ht
theorem enters {f : FuncId} {fn : Func} {c : Code} (hf : P.funcs[f]? = some fn) (hname : (fn.name == "runtime.NumGoroutine") = false) (hb : fn.body = some c) : Enters P f := by
  intro args w
  have h1 : fn.name ≠ "runtime.NumGoroutine" := by simpa using hname
  simp [callFunc, hf, h1, hb]
end
end Go.Proofs.Ythpaadmpgdglnaa
