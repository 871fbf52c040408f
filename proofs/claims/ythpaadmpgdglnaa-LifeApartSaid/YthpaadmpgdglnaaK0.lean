/- The frame of all walks of this seat: slots as a list, what stands behind a piece of code as a stack, one rule for each form of code, regions in whatever order. No condition. -/
import Derived.Test.YthpaadmpgdglnaaProg
import Derived.WalkKit
import Derived.OrdersHeld
import Derived.KernelRfl
import Derived.LoopN
namespace Go.Proofs.Ythpaadmpgdglnaa
open Go Go.RowKit

/-- Slots and what they hold, the youngest first. -/
abbrev Env := List (Nat × Value)
def Env.get? : Env → Nat → Option Value
  | [], _ => none
  | (k, v) :: r, t => bif Nat.beq k t then some v else Env.get? r t
def look (e : Env) : Operand → Option Value
  | .tmp t => e.get? t
  | .const v => some v
  | .global g => some (.pointer (some ⟨g, 0, none⟩))
  | .func f => some (.func (.func f) #[] #[])

structure Holds (n : Nat) (e : Env) (a : Act) : Prop where
  defers : a.defers = []
  size : a.tmps.size = n
  get : ∀ t v, e.get? t = some v → a.tmps[t]? = some v

theorem Env.get?_cons (k : Nat) (v : Value) (e : Env) (t : Nat) : Env.get? ((k, v) :: e) t = if k = t then some v else e.get? t := by
  simp only [Env.get?]
  by_cases h : k = t
  · subst h; simp
  · have : Nat.beq k t = false := by
      cases hb : Nat.beq k t with
      | false => rfl
      | true => exact absurd (Nat.eq_of_beq_eq_true hb) h
    simp [this, h]

theorem Holds.eval {n : Nat} {e : Env} {a : Act} (h : Holds n e a) {x : Operand} {v : Value} (hx : look e x = some v) : a.eval x = v := by
  cases x with
  | tmp t => have := h.get t v hx; simp [Act.eval, Array.getD_eq_getD_getElem?, this]
  | const v' => simpa [look, Act.eval] using hx
  | global g => simpa [look, Act.eval] using hx
  | func f => simpa [look, Act.eval] using hx

theorem Holds.put {n : Nat} {e : Env} {a : Act} (h : Holds n e a) {d : Nat} (hd : Nat.blt d n = true) (v : Value) : Holds n ((d, v) :: e) (a.put (some d) v) := by
  have hd' : d < n := by simpa [Nat.blt_eq] using hd
  refine ⟨h.defers, by simpa [Act.put] using h.size, fun t u ht => ?_⟩
  rw [Env.get?_cons] at ht
  by_cases e1 : d = t
  · subst e1
    simp only [if_true, Option.some.injEq] at ht
    subst ht
    simp [Act.put, h.size, hd']
  · rw [if_neg e1] at ht
    simpa [Act.put, Array.getElem?_setIfInBounds_ne e1] using h.get t u ht

/-! ### slots that are forgotten -/
def Sub (e e' : Env) : Prop := ∀ t v, e.get? t = some v → e'.get? t = some v
theorem Sub.nil {e : Env} : Sub [] e := fun t v h => by simp [Env.get?] at h
theorem Sub.cons {e e' : Env} {k : Nat} {v : Value} (h : e'.get? k = some v) (r : Sub e e') : Sub ((k, v) :: e) e' := fun t u hu => by
  rw [Env.get?_cons] at hu
  by_cases e1 : k = t
  · subst e1; simp only [if_true, Option.some.injEq] at hu; subst hu; exact h
  · rw [if_neg e1] at hu; exact r t u hu
theorem Sub.int {e e' : Env} {k : Nat} {K : IntKind} {a b : Int} (h : e'.get? k = some (.int K a)) (hab : a = b) (r : Sub e e') : Sub ((k, .int K b) :: e) e' := Sub.cons (hab ▸ h) r
theorem Sub.val {e e' : Env} {k : Nat} {u v : Value} (h : e'.get? k = some u) (hab : u = v) (r : Sub e e') : Sub ((k, v) :: e) e' := Sub.cons (hab ▸ h) r
theorem Sub.refl {e : Env} : Sub e e := fun _ _ h => h
theorem Holds.sub {n : Nat} {e e' : Env} {a : Act} (h : Holds n e' a) (hs : Sub e e') : Holds n e a := ⟨h.defers, h.size, fun t v ht => h.get t v (hs t v ht)⟩

/-! ### what stands behind -/
inductive KF where
  | seq (c : Code)
  | block (id : Nat)
  | goal (I : Act → World → Prop)
  | again (c : Code) (n : Nat)

section
variable (P : Program) (fn : Func) (R : Ending → World → Prop)
def post : List KF → Exit → Act → World → Prop
  | [] => bodyPost P fn R
  | .seq c :: ks => Exit.then (c.wp P (post ks)) (post ks)
  | .block id :: ks => Exit.inBlock id (post ks)
  | .goal I :: ks => Exit.then I (post ks)
  | .again c n :: ks => Exit.then (Code.rounds P c (post ks) n) (post ks)

theorem post_ret (ks : List KF) (a : Act) (w : World) : post P fn R ks .ret a w = bodyPost P fn R .ret a w := by
  induction ks with
  | nil => rfl
  | cons k ks ih => cases k <;> simpa [post, Exit.then, Exit.inBlock] using ih
theorem post_panic (ks : List KF) (c : List PanicEntry) (a : Act) (w : World) : post P fn R ks (.panic c) a w = bodyPost P fn R (.panic c) a w := by
  induction ks with
  | nil => rfl
  | cons k ks ih => cases k <;> simpa [post, Exit.then, Exit.inBlock] using ih

def CW (ks : List KF) (n : Nat) (c : Code) (e : Env) (w : World) : Prop := ∀ a, Holds n e a → c.wp P (post P fn R ks) a w
def NW (ks : List KF) (n : Nat) (e : Env) (w : World) : Prop := ∀ a, Holds n e a → post P fn R ks .normal a w
def XW (ks : List KF) (id : Nat) (n : Nat) (e : Env) (w : World) : Prop := ∀ a, Holds n e a → post P fn R ks (.exit id) a w
def RW (ops : Array Oper) (ks : List KF) (n : Nat) (l : List Oper) (e : Env) (w : World) : Prop := ∀ a, Holds n e a → wpList P ops (post P fn R ks) l a w
end

section
variable {P : Program} {fn : Func} {R : Ending → World → Prop} {ks : List KF} {n : Nat} {e : Env} {w : World}

theorem cw_seq {x y : Code} (h : CW P fn R (.seq y :: ks) n x e w) : CW P fn R ks n (.seq x y) e w := fun a ha => wp_seq (h a ha)
theorem cw_block {id : Nat} {c : Code} (h : CW P fn R (.block id :: ks) n c e w) : CW P fn R ks n (.block id c) e w := fun a ha => wp_block (h a ha)
theorem cw_skip (h : NW P fn R ks n e w) : CW P fn R ks n .skip e w := fun a ha => wp_skip (h a ha)
theorem cw_exit {id : Nat} (h : XW P fn R ks id n e w) : CW P fn R ks n (.exit id) e w := fun a ha => wp_exit (h a ha)
theorem cw_true {c : Operand} {x y : Code} (hc : look e c = some (.bool true)) (h : CW P fn R ks n x e w) : CW P fn R ks n (.cond c x y) e w := fun a ha => wp_cond_true (ha.eval hc) (h a ha)
theorem cw_false {c : Operand} {x y : Code} (hc : look e c = some (.bool false)) (h : CW P fn R ks n y e w) : CW P fn R ks n (.cond c x y) e w := fun a ha => wp_cond_false (ha.eval hc) (h a ha)
theorem cw_if {c : Operand} {x y : Code} {t : Bool} (hc : look e c = some (.bool t)) (h1 : t = true → CW P fn R ks n x e w) (h2 : t = false → CW P fn R ks n y e w) : CW P fn R ks n (.cond c x y) e w :=
  fun a ha => wp_cond_split (ha.eval hc) (fun h => h1 h a ha) (fun h => h2 h a ha)
theorem cw_sub {c : Code} {e' : Env} (hs : Sub e' e) (h : CW P fn R ks n c e' w) : CW P fn R ks n c e w := fun a ha => h a (ha.sub hs)
theorem nw_seq {y : Code} (h : CW P fn R ks n y e w) : NW P fn R (.seq y :: ks) n e w := fun a ha => h a ha
theorem nw_block {id : Nat} (h : NW P fn R ks n e w) : NW P fn R (.block id :: ks) n e w := fun a ha => h a ha
theorem nw_goal {I : Act → World → Prop} (h : ∀ a, Holds n e a → I a w) : NW P fn R (.goal I :: ks) n e w := fun a ha => h a ha
theorem xw_seq {y : Code} {id : Nat} (h : XW P fn R ks id n e w) : XW P fn R (.seq y :: ks) id n e w := fun a ha => h a ha
theorem xw_goal {I : Act → World → Prop} {id : Nat} (h : XW P fn R ks id n e w) : XW P fn R (.goal I :: ks) id n e w := fun a ha => h a ha
theorem xw_hit {id : Nat} (h : NW P fn R ks n e w) : XW P fn R (.block id :: ks) id n e w := fun a ha => by
  have := h a ha; simpa [post, Exit.inBlock] using this
theorem xw_miss {i id : Nat} (hne : Nat.beq id i = false) (h : XW P fn R ks id n e w) : XW P fn R (.block i :: ks) id n e w := fun a ha => by
  have hn : id ≠ i := fun h => by subst h; simp at hne
  have := h a ha; simpa [post, Exit.inBlock, hn] using this
theorem cw_ret (h : ∀ a, Holds n e a → bodyPost P fn R .ret a w) : CW P fn R ks n .ret e w := fun a ha => wp_ret (by rw [post_ret]; exact h a ha)
theorem nw_nil (h : ∀ a, Holds n e a → bodyPost P fn R .normal a w) : NW P fn R [] n e w := fun a ha => h a ha

/-- A loop, round by round. -/
theorem cw_rounds {c : Code} (m : Nat) (h : CW P fn R (.again c m :: ks) n c e w) : CW P fn R ks n (.loop c) e w := fun a ha => wp_loop_rounds (m + 1) (h a ha)
theorem nw_again {c : Code} {m : Nat} (h : CW P fn R (.again c m :: ks) n c e w) : NW P fn R (.again c (m + 1) :: ks) n e w := fun a ha => h a ha
theorem xw_again {c : Code} {m id : Nat} (h : XW P fn R ks id n e w) : XW P fn R (.again c m :: ks) id n e w := fun a ha => h a ha
/-- A loop: its state 's', what the slots hold of it, what holds of it. -/
theorem cw_loop {σ : Type} {c : Code} (env : σ → Env) (J : σ → World → Prop) (μ : σ → Nat) (s0 : σ) (h0 : Sub (env s0) e) (hJ : J s0 w)
    (round : ∀ s w', J s w' → CW P fn R (.goal (fun a w'' => ∃ s', (Holds n (env s') a ∧ J s' w'') ∧ μ s' < μ s) :: ks) n c (env s) w') : CW P fn R ks n (.loop c) e w := by
  intro a ha
  -- the measure of a state of the machine: the least measure of the states that it stands for
  have key : ∀ m a w, (∃ s, (Holds n (env s) a ∧ J s w) ∧ μ s ≤ m) → (Code.loop c).wp P (post P fn R ks) a w := by
    intro m a w hm
    refine wp_loop (fun a w => ∃ s, (Holds n (env s) a ∧ J s w)) (fun a w => Classical.epsilon fun k => (∃ s, (Holds n (env s) a ∧ J s w) ∧ μ s = k) ∧ ∀ s, (Holds n (env s) a ∧ J s w) → k ≤ μ s) (by obtain ⟨s, h, _⟩ := hm; exact ⟨s, h⟩) ?_
    intro a w hI
    have least : ∀ a w, (∃ s, Holds n (env s) a ∧ J s w) → ∃ k, (∃ s, (Holds n (env s) a ∧ J s w) ∧ μ s = k) ∧ ∀ s, (Holds n (env s) a ∧ J s w) → k ≤ μ s := by
      intro a w ⟨s, hs⟩
      have : ∀ k s, μ s = k → (Holds n (env s) a ∧ J s w) → ∃ k, (∃ s, (Holds n (env s) a ∧ J s w) ∧ μ s = k) ∧ ∀ s, (Holds n (env s) a ∧ J s w) → k ≤ μ s := by
        intro k
        induction k using Nat.strongRecOn with
        | _ k ih =>
          intro s hk hs
          by_cases hall : ∀ s', (Holds n (env s') a ∧ J s' w) → k ≤ μ s'
          · exact ⟨k, ⟨s, hs, hk⟩, hall⟩
          · have ⟨s', h'⟩ := Classical.not_forall.1 hall
            have ⟨h1, h2⟩ := Classical.not_imp.1 h'
            exact ih (μ s') (by omega) s' rfl h1
      exact this (μ s) s rfl hs
    obtain ⟨⟨s, hs, hk⟩, hmin⟩ := Classical.epsilon_spec (least a w hI)
    refine wp_mono (round s w hs.2 a hs.1) ?_
    intro ex a' w' hq
    cases ex with
    | normal =>
      obtain ⟨s', hs', hlt⟩ := hq
      refine ⟨⟨s', hs'⟩, ?_⟩
      obtain ⟨_, hmin'⟩ := Classical.epsilon_spec (least a' w' ⟨s', hs'⟩)
      have := hmin' s' hs'
      rw [hk] at hlt
      exact Nat.lt_of_le_of_lt this hlt
    | exit id => exact hq
    | goto l => exact hq
    | ret => exact hq
    | panic ch => exact hq
    | outgrown => exact hq
  exact key (μ s0) a w ⟨s0, ⟨ha.sub h0, hJ⟩, Nat.le_refl _⟩

/-- A place at which ways meet again. -/
theorem cw_cut {σ : Type} {x y : Code} (env : σ → Env) (J : σ → World → Prop) (h1 : CW P fn R (.goal (fun a w' => ∃ s, Holds n (env s) a ∧ J s w') :: ks) n x e w)
    (h2 : ∀ s w', J s w' → CW P fn R ks n y (env s) w') : CW P fn R ks n (.seq x y) e w := by
  intro a ha
  refine wp_seq (wp_mono (h1 a ha) ?_)
  intro ex a' w' hq
  cases ex with
  | normal => obtain ⟨s, hs, hJ⟩ := hq; exact h2 s w' hJ a' hs
  | exit id => exact hq
  | goto l => exact hq
  | ret => exact hq
  | panic ch => exact hq
  | outgrown => exact hq

theorem nw_cut {σ : Type} {env : σ → Env} {J : σ → World → Prop} (s : σ) (hs : Sub (env s) e) (hJ : J s w) : NW P fn R (.goal (fun a w' => ∃ s, Holds n (env s) a ∧ J s w') :: ks) n e w :=
  nw_goal fun _ ha => ⟨s, ha.sub hs, hJ⟩
theorem nw_round {σ : Type} {env : σ → Env} {J : σ → World → Prop} {m : Nat} {μ : σ → Nat} (s : σ) (hs : Sub (env s) e) (hJ : J s w) (hm : μ s < m) : NW P fn R (.goal (fun a w'' => ∃ s', (Holds n (env s') a ∧ J s' w'') ∧ μ s' < m) :: ks) n e w :=
  nw_goal fun _ ha => ⟨s, ⟨ha.sub hs, hJ⟩, hm⟩

/-! ### operations -/
/-- What an operation does, wherever it stands. -/
def Op1 (P : Program) (n : Nat) (e : Env) (w : World) (o : Oper) (T : Value → World → Prop) : Prop :=
  ∀ a, Holds n e a → ∀ (K : Act → World → Prop) (Q : Exit → Act → World → Prop), (∀ v w', T v w' → K (a.put o.dst v) w') → o.wp P a w K Q
/-- What an operation yields in each world that meets S. -/
def Ev (P : Program) (n : Nat) (e : Env) (S : World → Prop) (o : Oper) (v : Value) : Prop := ∀ a, Holds n e a → ∀ w, S w → (execOp a.eval o).run P w = .ok (.value v) w

theorem Ev.op1 {S : World → Prop} {o : Oper} {v : Value} (h : Ev P n e S o v) (hS : S w) : Op1 P n e w o (fun v' w' => v' = v ∧ w' = w) := fun a ha K Q hK => by
  unfold Oper.wp
  rw [h a ha w hS]
  exact hK v w ⟨rfl, rfl⟩
theorem Op1.of_run {o : Oper} {T : Value → World → Prop} (h : ∀ a, Holds n e a → ∃ v w', (execOp a.eval o).run P w = .ok (.value v) w' ∧ T v w') : Op1 P n e w o T := fun a ha K Q hK => by
  obtain ⟨v, w', hr, ht⟩ := h a ha
  unfold Oper.wp
  rw [hr]
  exact hK v w' ht
theorem Op1.of_skip {o : Oper} {T : Value → World → Prop} (h : ∀ a, Holds n e a → ∃ w', (execOp a.eval o).run P w = .ok .skip w' ∧ T undef w') : Op1 P n e w o T := fun a ha K Q hK => by
  obtain ⟨w', hr, ht⟩ := h a ha
  unfold Oper.wp
  rw [hr]
  exact hK undef w' ht
theorem Op1.mono {o : Oper} {T T' : Value → World → Prop} (h : Op1 P n e w o T) (ht : ∀ v w', T v w' → T' v w') : Op1 P n e w o T' := fun a ha K Q hK => h a ha K Q fun v w' hv => hK v w' (ht v w' hv)

/-- What a guard says. -/
def gd (ops : Array Oper) (e : Env) : Option (Nat × Bool) → Option Bool
  | none => some true
  | some (j, want) => match (ops[j]?).bind (·.dst) with
    | none => none
    | some t => match e.get? t with
      | some (.bool b) => some (b == want)
      | some (.tuple _) => some false
      | _ => none

theorem gd_spec {ops : Array Oper} {o : Oper} {b : Bool} {a : Act} (ha : Holds n e a) (h : gd ops e o.guard = some b) : Region.wanted o (yielded ops a.tmps) = b := by
  unfold gd at h
  unfold Region.wanted
  cases hg : o.guard with
  | none => rw [hg] at h; simpa using h
  | some gw =>
    obtain ⟨j, want⟩ := gw
    rw [hg] at h
    simp only at h ⊢
    unfold yielded
    cases hd : (ops[j]?).bind (·.dst) with
    | none => rw [hd] at h; simp at h
    | some t =>
      rw [hd] at h
      simp only at h ⊢
      cases ht : e.get? t with
      | none => rw [ht] at h; simp at h
      | some v =>
        have hv := ha.get t v ht
        rw [ht] at h
        simp only [hv, Option.bind_some]
        split at h
        · rename_i b' he
          simp only [Option.some.injEq] at he h
          subst he
          simp only
          rw [← h]
          cases b' <;> cases want <;> rfl
        · rename_i he
          simp only [Option.some.injEq] at he h
          subst he; subst h
          cases want <;> rfl
        · cases h

theorem cw_region {id : Nat} {l : List Oper} (h : RW P fn R l.toArray ks n l e w) : CW P fn R ks n (.region id l.toArray false) e w := fun a ha => wp_region_lit (h a ha)
theorem rw_nil {ops : Array Oper} (h : NW P fn R ks n e w) : RW P fn R ops ks n [] e w := fun a ha => wpList_nil (h a ha)
theorem rw_sub {ops : Array Oper} {l : List Oper} {e' : Env} (hs : Sub e' e) (h : RW P fn R ops ks n l e' w) : RW P fn R ops ks n l e w := fun a ha => h a (ha.sub hs)

theorem rw_op {ops : Array Oper} {o : Oper} {rest : List Oper} {d : Nat} {T : Value → World → Prop} (hop : Op1 P n e w o T) (hg : gd ops e o.guard = some true) (hd : o.dst = some d) (hn : Nat.blt d n = true)
    (k : ∀ v w', T v w' → RW P fn R ops ks n rest ((d, v) :: e) w') : RW P fn R ops ks n (o :: rest) e w := by
  intro a ha
  refine wpList_step fun K hK => ?_
  rw [gd_spec ha hg, if_pos rfl]
  refine hop a ha K _ fun v w' hv => hK _ _ (k v w' hv _ ?_)
  rw [hd]
  exact ha.put hn v
theorem rw_ev {ops : Array Oper} {o : Oper} {rest : List Oper} {d : Nat} {v : Value} (hev : Ev P n e (· = w) o v) (hg : gd ops e o.guard = some true) (hd : o.dst = some d) (hn : Nat.blt d n = true)
    (k : RW P fn R ops ks n rest ((d, v) :: e) w) : RW P fn R ops ks n (o :: rest) e w :=
  rw_op (hev.op1 rfl) hg hd hn fun _ _ ⟨h1, h2⟩ => h1 ▸ h2 ▸ k
/-- An operation without a slot of its own (a store). -/
theorem rw_none {ops : Array Oper} {o : Oper} {rest : List Oper} {T : Value → World → Prop} (hop : Op1 P n e w o T) (hg : gd ops e o.guard = some true) (hd : o.dst = none)
    (k : ∀ v w', T v w' → RW P fn R ops ks n rest e w') : RW P fn R ops ks n (o :: rest) e w := by
  intro a ha
  refine wpList_step fun K hK => ?_
  rw [gd_spec ha hg, if_pos rfl]
  refine hop a ha K _ fun v w' hv => hK _ _ (k v w' hv _ ?_)
  rw [hd]
  exact ha
theorem rw_skip {ops : Array Oper} {o : Oper} {rest : List Oper} {d : Nat} (hg : gd ops e o.guard = some false) (hd : o.dst = some d) (hn : Nat.blt d n = true)
    (k : RW P fn R ops ks n rest ((d, .tuple #[]) :: e) w) : RW P fn R ops ks n (o :: rest) e w := by
  intro a ha
  refine wpList_step fun K hK => ?_
  rw [gd_spec ha hg, if_neg (by simp)]
  refine hK _ _ (k _ ?_)
  rw [hd]
  exact ha.put hn undef

/-! ### regions that draw their order -/
/-- The order in which the operations are walked: 'take' one that yields in each world that may come up; 'one': the only one that may come up; 'two': either. -/
inductive Plan where
  | done
  | take (i : Nat) (p : Plan)
  | one (i : Nat) (p : Plan)
  | two (i j : Nat) (p q : Plan)
def Plan.ok (ops : Array Oper) : Plan → Array Bool → Bool
  | .done, l => Region.ready .any ops l == []
  | .take i p, l => Region.free .any ops l i && (Region.ready .any ops l).contains i && p.ok ops (l.setIfInBounds i true)
  | .one i p, l => Region.ready .any ops l == [i] && p.ok ops (l.setIfInBounds i true)
  | .two i j p q, l => Region.ready .any ops l == [i, j] && p.ok ops (l.setIfInBounds i true) && q.ok ops (l.setIfInBounds j true)
def Plan.size : Plan → Nat
  | .done => 0
  | .take _ p => p.size + 1
  | .one _ p => p.size + 1
  | .two _ _ p q => max p.size q.size + 1
end
/-- Whatever order is picked from here on, and S holds behind each operation that is carried out but those of X. -/
def wpAnyX (P : Program) (ops : Array Oper) (Q : Exit → Act → World → Prop) (S : World → Prop) (X : List Nat) : Nat → Array Bool → Act → World → Prop
  | 0, listed, a, w => Region.ready .any ops listed = [] ∧ Q .normal a w
  | fuel + 1, listed, a, w =>
    (Region.ready .any ops listed = [] → Q .normal a w) ∧
    ∀ i ∈ Region.ready .any ops listed, wpOp P ops Q i (fun a' w' => (X.contains i = false → S w') ∧ wpAnyX P ops Q S X fuel (listed.setIfInBounds i true) a' w') a w
/-- Each operation of X waits for number i. -/
def waits (ops : Array Oper) (X : List Nat) (i : Nat) : Bool := !X.contains i && X.all fun x => match ops[x]? with
  | some o => o.after.toList.any fun e => Region.binds .any e && Nat.beq e.on i
  | none => true

section
variable {P : Program} {ops : Array Oper} {Q : Exit → Act → World → Prop} {S : World → Prop} {X : List Nat}
theorem wpAny_of_X : ∀ (fuel : Nat) (listed : Array Bool) (a : Act) (w : World), wpAnyX P ops Q S X fuel listed a w → wpAny P .any ops Q fuel listed a w
  | 0, _, _, _, h => h
  | fuel + 1, _, _, _, h => ⟨h.1, fun i hi => wpOp_mono (fun a' w' h' => wpAny_of_X fuel _ a' w' h'.2) (h.2 i hi)⟩
theorem wpAnyX_first {i : Nat} {oi : Oper} {v : Value} (hi : ops[i]? = some oi) (hsel : ∀ (j : Nat) (o : Oper) cs b, ops[j]? = some o → o.op ≠ .select cs b)
    (hQ : ∀ c a w, Q (.panic c) (a.put oi.dst v) w → Q (.panic c) a w) (hX : waits ops X i = true) :
    ∀ (fuel : Nat) (listed : Array Bool) (a : Act) (w : World),
      (∀ j oj, ops[j]? = some oj → j ≠ i → listed.getD j true = false → (∀ e ∈ oj.after, Region.binds .any e = true → e.on ≠ i) → oi.apart ops oj = true) →
      i ∈ Region.ready .any ops listed → YieldsIf P ops S oi v a → S w →
      wpAnyX P ops Q S X fuel (listed.setIfInBounds i true) (a.put oi.dst v) w → wpAnyX P ops Q S X (fuel + 1) listed a w := by
  intro fuel
  induction fuel with
  | zero =>
    intro listed a w _ hr hy hS H
    refine ⟨fun h => (by rw [h] at hr; cases hr), fun j hj => ?_⟩
    by_cases hji : j = i
    · subst hji; exact hy.wpOp hi hS ⟨fun _ => hS, H⟩
    · have := ready_mono hj hji
      rw [H.1] at this
      cases this
  | succ fuel ih =>
    intro listed a w hfree hr hy hS H
    refine ⟨fun h => (by rw [h] at hr; cases hr), fun j hj => ?_⟩
    by_cases hji : j = i
    · subst hji; exact hy.wpOp hi hS ⟨fun _ => hS, H⟩
    · have h1 := H.2 j (ready_mono hj hji)
      obtain ⟨hjun, oj, hoj, hall⟩ := mem_ready.1 hj
      have hnot : ∀ e ∈ oj.after, Region.binds .any e = true → e.on ≠ i := fun e he hb heq => by
        have h1 := hall e he hb
        have h0 := (mem_ready.1 hr).1
        rw [heq] at h1
        rcases Nat.lt_or_ge i listed.size with h' | h'
        · simp [h'] at h0 h1; rw [h0] at h1; cases h1
        · simp [Array.getElem?_eq_none h'] at h1
      have hjX : X.contains j = false := by
        cases hc : X.contains j with
        | false => rfl
        | true =>
          simp only [waits, Bool.and_eq_true] at hX
          have hx := List.all_eq_true.1 hX.2 j (by simpa using hc)
          simp only [hoj, List.any_eq_true, Bool.and_eq_true] at hx
          obtain ⟨e, he, hb, hon⟩ := hx
          exact absurd (Nat.eq_of_beq_eq_true hon) (hnot e (by simpa using he) hb)
      have h2 := wpOp_putIf hoj (hfree j oj hoj hji hjun hnot) (fun cs b => hsel i oi cs b hi) (fun cs b => hsel j oj cs b hoj) hQ hy h1
      have hfree' : ∀ k ok, ops[k]? = some ok → k ≠ i → (listed.setIfInBounds j true).getD k true = false →
          (∀ e ∈ ok.after, Region.binds .any e = true → e.on ≠ i) → oi.apart ops ok = true := fun k ok hk hki hun hno => by
        refine hfree k ok hk hki ?_ hno
        by_cases hjk : j = k
        · subst hjk; exact hjun
        · rw [getD_set_ne true hjk] at hun; exact hun
      refine wpOp_mono (fun a' w' h3 => ⟨h3.2.1, ih (listed.setIfInBounds j true) a' w' hfree' (ready_mono hr (Ne.symm hji)) h3.1 (h3.2.1 hjX) ?_⟩) h2
      rw [Array.setIfInBounds_comm _ _ hji]
      exact h3.2.2
theorem wpAnyX_all {rs : List Nat} {fuel : Nat} {listed : Array Bool} {a : Act} {w : World} (hr : Region.ready .any ops listed = rs) (hne : rs ≠ [])
    (h : ∀ i ∈ rs, wpOp P ops Q i (fun a' w' => (X.contains i = false → S w') ∧ wpAnyX P ops Q S X fuel (listed.setIfInBounds i true) a' w') a w) : wpAnyX P ops Q S X (fuel + 1) listed a w :=
  ⟨fun h0 => absurd (hr ▸ h0) hne, hr ▸ h⟩
theorem wpAnyX_done {listed : Array Bool} {a : Act} {w : World} (hr : Region.ready .any ops listed = []) (h : Q .normal a w) : ∀ fuel, wpAnyX P ops Q S X fuel listed a w
  | 0 => ⟨hr, h⟩
  | _ + 1 => ⟨fun _ => h, by rw [hr]; simp⟩
end

section
variable {P : Program} {fn : Func} {R : Ending → World → Prop} {ks : List KF} {n : Nat} {e : Env} {w : World}
def RP (P : Program) (fn : Func) (R : Ending → World → Prop) (ops : Array Oper) (ks : List KF) (n : Nat) (S : World → Prop) (X : List Nat) (p : Plan) (e : Env) (w : World) : Prop :=
  ∀ a l f, Holds n e a → p.ok ops l = true → p.size ≤ f → wpAnyX P ops (post P fn R ks) S X f l a w

theorem cw_draw {id : Nat} {ops : Array Oper} (S : World → Prop) (X : List Nat) (p : Plan) (hm : P.follows .mixedOrders = true) (hs : Region.noSelect ops = true) (hp : p.ok ops (Array.replicate ops.size false) = true) (hz : p.size ≤ ops.size)
    (h : Region.noSelect ops = true → RP P fn R ops ks n S X p e w.drew) : CW P fn R ks n (.region id ops true) e w := fun a ha =>
  wp_region_any hm (wpAny_of_X _ _ _ _ (h hs a _ _ ha hp hz))

section
variable {ops : Array Oper} {S : World → Prop} {X : List Nat}
theorem rp_done (h : NW P fn R ks n e w) : RP P fn R ops ks n S X .done e w := fun a l f ha hp _ => by
  simp only [Plan.ok, beq_iff_eq] at hp
  exact wpAnyX_done hp (h a ha) f
theorem panic_put (a : Act) (x : Option Tmp) (v : Value) (c : List PanicEntry) (w : World) (h : post P fn R ks (.panic c) (a.put x v) w) : post P fn R ks (.panic c) a w := by
  rw [post_panic] at h ⊢
  have e : (a.put x v).defers = a.defers := by cases x <;> rfl
  simpa [bodyPost, e] using h
theorem take_of {i : Nat} {p : Plan} {o : Oper} {d : Nat} {v : Value} (hs : Region.noSelect ops = true) (hS : S w) (hi : ops[i]? = some o) (hx : waits ops X i = true) (hy : ∀ a, Holds n e a → YieldsIf P ops S o v a) (hd : o.dst = some d) (hn : Nat.blt d n = true)
    (k : RP P fn R ops ks n S X p ((d, v) :: e) w) : RP P fn R ops ks n S X (.take i p) e w := fun a l f ha hp hf => by
  simp only [Plan.ok, Bool.and_eq_true] at hp
  obtain ⟨⟨h1, h2⟩, h3⟩ := hp
  obtain ⟨f, rfl⟩ : ∃ g, f = g + 1 := ⟨f - 1, by simp only [Plan.size] at hf; omega⟩
  refine wpAnyX_first hi (Region.noSelect_spec hs) (fun c a w h => panic_put a _ v c w h) hx f l a w (Region.free_spec hi h1) (by simpa using h2) (hy a ha) hS ?_
  rw [hd]
  exact k _ _ f (ha.put hn v) h3 (by simp only [Plan.size] at hf; omega)
theorem rp_take {i : Nat} {p : Plan} {o : Oper} {d : Nat} {v : Value} (hs : Region.noSelect ops = true) (hS : S w) (hi : ops[i]? = some o) (hx : waits ops X i = true) (hev : Ev P n e S o v) (hg : gd ops e o.guard = some true) (hd : o.dst = some d) (hn : Nat.blt d n = true)
    (k : RP P fn R ops ks n S X p ((d, v) :: e) w) : RP P fn R ops ks n S X (.take i p) e w :=
  take_of hs hS hi hx (fun a ha => .inl ⟨gd_spec ha hg, fun w hw => hev a ha w hw⟩) hd hn k
theorem rp_skip {i : Nat} {p : Plan} {o : Oper} {d : Nat} (hs : Region.noSelect ops = true) (hS : S w) (hi : ops[i]? = some o) (hx : waits ops X i = true) (hg : gd ops e o.guard = some false) (hd : o.dst = some d) (hn : Nat.blt d n = true)
    (k : RP P fn R ops ks n S X p ((d, .tuple #[]) :: e) w) : RP P fn R ops ks n S X (.take i p) e w :=
  take_of hs hS hi hx (fun _ ha => .inr ⟨gd_spec ha hg, rfl⟩) hd hn k

theorem wpOp_one {i : Nat} {o : Oper} {T : Value → World → Prop} {a : Act} {K : Act → World → Prop} (hi : ops[i]? = some o) (ha : Holds n e a) (hop : Op1 P n e w o T) (hg : gd ops e o.guard = some true)
    (k : ∀ v w', T v w' → K (a.put o.dst v) w') : wpOp P ops (post P fn R ks) i K a w := by
  unfold wpOp
  simp only [hi, gd_spec ha hg, if_true]
  exact .inl (hop a ha K _ k)
/-- What is asked of one operation that comes up. -/
def Up (P : Program) (fn : Func) (R : Ending → World → Prop) (ops : Array Oper) (ks : List KF) (n : Nat) (S : World → Prop) (X : List Nat) (i : Nat) (p : Plan) (e : Env) (w : World) : Prop :=
  ∀ a, Holds n e a → wpOp P ops (post P fn R ks) i (fun a' w' => (X.contains i = false → S w') ∧ ∀ l f, p.ok ops l = true → p.size ≤ f → wpAnyX P ops (post P fn R ks) S X f l a' w') a w
theorem up_op {i : Nat} {p : Plan} {o : Oper} {d : Nat} {T : Value → World → Prop} (hi : ops[i]? = some o) (hop : Op1 P n e w o T) (hg : gd ops e o.guard = some true) (hd : o.dst = some d) (hn : Nat.blt d n = true)
    (k : ∀ v w', T v w' → (X.contains i = false → S w') ∧ RP P fn R ops ks n S X p ((d, v) :: e) w') : Up P fn R ops ks n S X i p e w := fun a ha =>
  wpOp_one hi ha hop hg fun v w' hv => by
    obtain ⟨hs', hk⟩ := k v w' hv
    rw [hd]
    exact ⟨hs', fun l f hp hf => hk _ l f (ha.put hn v) hp hf⟩
theorem up_none {i : Nat} {p : Plan} {o : Oper} {T : Value → World → Prop} (hi : ops[i]? = some o) (hop : Op1 P n e w o T) (hg : gd ops e o.guard = some true) (hd : o.dst = none)
    (k : ∀ v w', T v w' → (X.contains i = false → S w') ∧ RP P fn R ops ks n S X p e w') : Up P fn R ops ks n S X i p e w := fun a ha =>
  wpOp_one hi ha hop hg fun v w' hv => by
    obtain ⟨hs', hk⟩ := k v w' hv
    rw [hd]
    exact ⟨hs', fun l f hp hf => hk _ l f ha hp hf⟩
theorem up_skip {i : Nat} {p : Plan} {o : Oper} {d : Nat} (hi : ops[i]? = some o) (hg : gd ops e o.guard = some false) (hd : o.dst = some d) (hn : Nat.blt d n = true) (hS : X.contains i = false → S w)
    (k : RP P fn R ops ks n S X p ((d, .tuple #[]) :: e) w) : Up P fn R ops ks n S X i p e w := fun a ha => by
  unfold wpOp
  simp only [hi, gd_spec ha hg, Bool.false_eq_true, if_false]
  rw [hd]
  exact ⟨hS, fun l f hp hf => k _ l f (ha.put hn undef) hp hf⟩
theorem in_X {i : Nat} {p : Prop} (h : X.contains i = true) : X.contains i = false → p := fun h2 => by rw [h] at h2; cases h2
theorem rp_up {i : Nat} {p : Plan} (h : Up P fn R ops ks n S X i p e w) : RP P fn R ops ks n S X (.one i p) e w := fun a l f ha hp hf => by
  simp only [Plan.ok, Bool.and_eq_true, beq_iff_eq] at hp
  obtain ⟨f, rfl⟩ : ∃ g, f = g + 1 := ⟨f - 1, by simp only [Plan.size] at hf; omega⟩
  refine wpAnyX_all hp.1 (by simp) fun j hj => ?_
  simp only [List.mem_singleton] at hj
  subst hj
  exact wpOp_mono (fun a' w' h => ⟨h.1, h.2 _ f hp.2 (by simp only [Plan.size] at hf; omega)⟩) (h a ha)
theorem rp_two {i j : Nat} {p q : Plan} (h1 : Up P fn R ops ks n S X i p e w) (h2 : Up P fn R ops ks n S X j q e w) : RP P fn R ops ks n S X (.two i j p q) e w := fun a l f ha hp hf => by
  simp only [Plan.ok, Bool.and_eq_true, beq_iff_eq] at hp
  obtain ⟨⟨h0, hp⟩, hq⟩ := hp
  obtain ⟨f, rfl⟩ : ∃ g, f = g + 1 := ⟨f - 1, by simp only [Plan.size] at hf; omega⟩
  have hf' : p.size ≤ f ∧ q.size ≤ f := by simp only [Plan.size] at hf; omega
  refine wpAnyX_all h0 (by simp) fun k hk => ?_
  simp only [List.mem_cons, List.not_mem_nil, or_false] at hk
  rcases hk with rfl | rfl
  · exact wpOp_mono (fun a' w' h => ⟨h.1, h.2 _ f hp hf'.1⟩) (h1 a ha)
  · exact wpOp_mono (fun a' w' h => ⟨h.1, h.2 _ f hq hf'.2⟩) (h2 a ha)
end
end
end Go.Proofs.Ythpaadmpgdglnaa
