/- From a walk to a row's statement: how the arguments are opened, and the row's last step. No condition. -/
import Derived.Test.YthpaadmpgdglnaaHead
import Derived.Test.YthpaadmpgdglnaaTy2
import Derived.Test.YthpaadmpgdglnaaD8
import Derived.WalkKit
import Derived.ProofKit
import Derived.OpenShut
import Derived.Below
import Derived.ChangeSame
import Derived.WideKeyArgs
import Derived.Deep.Slices
namespace Go.Proofs.Ythpaadmpgdglnaa
open Go Go.RowKit Go.ChangeShapes Go.WideShapes Go.ChangeAt
set_option linter.unusedVariables false
set_option linter.unusedSimpArgs false
set_option maxRecDepth 100000

section
variable {H : Type} {enc : TypeId × Value → H} {P : Program}
/-- A type whose every cell is an integer of 64 bits. -/
def flatI (P : Program) : Nat → TypeId → Bool
  | 0, _ => false
  | n + 1, t => match P.underlying t with
    | some (.int .i64) => true
    | some (.struct fs) => (List.range (P.cellsOf t)).all fun i => fs.toList.any fun f => decide (f.offset ≤ i ∧ i < f.offset + P.cellsOf f.type) && flatI P n f.type
    | some (.array k e) => decide (0 < P.cellsOf e) && (P.cellsOf t == k * P.cellsOf e) && flatI P n e
    | _ => false
/-- A cell that holds an integer of 64 bits. -/
def IsI (v : Value) : Prop := ∃ n : Int, v = .int .i64 n ∧ -9223372036854775808 ≤ n ∧ n ≤ 9223372036854775807
theorem wf64 {n : Int} (h : (Lit.int .i64 n).wf = true) : -9223372036854775808 ≤ n ∧ n ≤ 9223372036854775807 := by
  simpa [Lit.wf, IntKind.min, IntKind.max, IntKind.signed, IntKind.bits] using h
theorem trod_array {w : World} {base : Nat} {spare : Nat → Bool} {held : Bool} {fuel k : Nat} {t e : TypeId} {cs : List Value} {x : DataW H × List MemPlace} (ht : P.underlying t = some (.array k e))
    (h : DataW.trod enc P w base spare held fuel t cs = some x) : ∃ (xs : List (DataW H × List MemPlace)) (n : Nat), cs.length = P.cellsOf t ∧ xs.length = k ∧
      ∀ i, i < k → DataW.trod enc P w base spare held n e ((cs.drop (i * P.cellsOf e)).take (P.cellsOf e)) = xs[i]? := by
  cases fuel with
  | zero => simp [DataW.trod] at h
  | succ n =>
    unfold DataW.trod at h
    rw [ht] at h
    split at h <;> simp_all
    obtain ⟨hl, xs, hp, hd⟩ := h
    exact ⟨xs, by simpa using mapM_some_length hp, n, fun i hi => mapM_some_get hp i i (by simp [hi])⟩
theorem flat_trod {w : World} {base : Nat} {spare : Nat → Bool} {held : Bool} : ∀ (n : Nat) (t : TypeId) (fuel : Nat) (cs : List Value) (x : DataW H × List MemPlace), flatI P n t = true →
    DataW.trod enc P w base spare held fuel t cs = some x → ∀ v ∈ cs, IsI v
  | 0, _, _, _, _, h, _ => by simp [flatI] at h
  | n + 1, t, fuel, cs, x, h, hx => by
    unfold flatI at h
    split at h
    · rename_i ht
      obtain ⟨m, rfl, _, hw⟩ := DataW.trod_int ht hx
      intro v hv
      simp only [List.mem_singleton] at hv
      subst hv
      exact ⟨m, rfl, wf64 hw⟩
    · rename_i fs ht
      obtain ⟨xs, m, _, _, hl, hs, hf⟩ := DataW.trod_struct ht hx
      intro v hv
      obtain ⟨i, hi, rfl⟩ := List.getElem_of_mem hv
      rw [List.all_eq_true] at h
      have h1 := h i (List.mem_range.2 (hl ▸ hi))
      rw [List.any_eq_true] at h1
      obtain ⟨f, hfm, hd⟩ := h1
      simp only [Bool.and_eq_true, decide_eq_true_eq] at hd
      obtain ⟨⟨h2, h3⟩, h4⟩ := hd
      obtain ⟨j, hj, rfl⟩ := List.getElem_of_mem hfm
      have hj' : j < fs.size := by simpa using hj
      have e := hf j fs[j] (by simp [hj'])
      have hjx : j < xs.length := by omega
      rw [List.getElem?_eq_getElem hjx] at e
      refine flat_trod n _ m _ _ (by simpa using h4) e _ ?_
      simp only [Array.getElem_toList] at h2 h3
      rw [List.mem_iff_getElem?]
      refine ⟨i - fs[j].offset, ?_⟩
      rw [List.getElem?_take, if_pos (by omega), List.getElem?_drop, show fs[j].offset + (i - fs[j].offset) = i by omega, List.getElem?_eq_getElem hi]
    · rename_i k e ht
      simp only [Bool.and_eq_true, decide_eq_true_eq, beq_iff_eq] at h
      obtain ⟨⟨h1, h2⟩, h3⟩ := h
      obtain ⟨xs, m, hl, hxs, hf⟩ := trod_array ht hx
      intro v hv
      obtain ⟨i, hi, rfl⟩ := List.getElem_of_mem hv
      have hik : i / P.cellsOf e < k := Nat.div_lt_of_lt_mul (by rw [Nat.mul_comm, ← h2, ← hl]; exact hi)
      have e1 := hf _ hik
      rw [List.getElem?_eq_getElem (by rw [hxs]; exact hik)] at e1
      refine flat_trod n _ m _ _ h3 e1 _ ?_
      have h4 := Nat.div_add_mod i (P.cellsOf e)
      have h5 := Nat.mod_lt i h1
      rw [List.mem_iff_getElem?]
      refine ⟨i % P.cellsOf e, ?_⟩
      rw [List.getElem?_take, if_pos h5, List.getElem?_drop, Nat.mul_comm, h4, List.getElem?_eq_getElem hi]
    · cases h
/-- An argument as the row opens it. -/
def Arg (P : Program) (w : World) (t : TypeId) (v : Value) : Prop :=
  ∃ (H : Type) (enc : TypeId × Value → H) (base : Nat) (d : DataW H) (ps : List MemPlace), Value.okWide P w .any base t v ∧ DataW.Trod enc P w 0 (fun _ => true) true t v d ps
theorem arg_int {w : World} {t : TypeId} {v : Value} (ht : P.underlying t = some (.int .i64)) (h : Arg P w t v) : ∃ n : Int, v = .int .i64 n ∧ -9223372036854775808 ≤ n ∧ n ≤ 9223372036854775807 := by
  obtain ⟨H, enc, base, d, ps, h1, h2⟩ := h
  obtain ⟨n, rfl, _, _, hw⟩ := open_int ht h1 h2
  exact ⟨n, rfl, wf64 hw⟩
theorem arg_bool {w : World} {t : TypeId} {v : Value} (ht : P.underlying t = some .bool) (h : Arg P w t v) : ∃ b, v = .bool b := by
  obtain ⟨H, enc, base, d, ps, h1, h2⟩ := h
  exact okWide_bool ht h1
/-- A struct of k integers. -/
theorem arg_agg {w : World} {t : TypeId} {v : Value} {fs : Array Field} {k n : Nat} (ht : P.underlying t = some (.struct fs)) (hc : P.cellsOf t = k) (hfl : flatI P n t = true) (h : Arg P w t v) :
    ∃ cs : Array Value, v = .agg cs ∧ cs.size = k ∧ ∀ x ∈ cs.toList, IsI x := by
  obtain ⟨H, enc, base, d, ps, h1, fuel, h2⟩ := h
  obtain ⟨cs, rfl, hs⟩ := okWide_struct ht h1
  exact ⟨cs, rfl, hs.trans hc, flat_trod n t fuel _ _ hfl (by simpa [Value.cells] using h2)⟩
theorem cell_plain {w : World} {a : Addr} {v : Value} (h : w.cell? a = some v) : a.spot = none ∧ a.block < w.heap.size := by
  unfold World.cell? at h
  split at h
  · rename_i hb
    refine ⟨?_, (Array.getElem?_eq_some_iff.1 hb).1⟩
    split at h
    · cases h
    · simp_all
  · cases h
/-- Rows of lists as rows of what they encode. -/
theorem decode {α : Type} {f : α → List Value} {ok : α → Prop} {q : List Value → Prop} (h : ∀ x, q x → ∃ c, x = f c ∧ ok c) : ∀ es : List (List Value), (∀ x ∈ es, q x) → ∃ l : List α, es = l.map f ∧ ∀ c ∈ l, ok c
  | [], _ => ⟨[], rfl, by simp⟩
  | e :: es, hq => by
    obtain ⟨c, rfl, hc⟩ := h e (hq e (by simp))
    obtain ⟨l, rfl, hl⟩ := decode h es fun x hx => hq x (by simp [hx])
    exact ⟨c :: l, rfl, by simpa using ⟨hc, hl⟩⟩
/-- A slice whose elements are k integers each. -/
theorem arg_slice {w : World} {t e : TypeId} {v : Value} {k n : Nat} (hk : 0 < k) (ht : P.underlying t = some (.slice e)) (hc : P.cellsOf e = k) (hfl : flatI P n e = true) (h : Arg P w t v) :
    ∃ es : List (List Value), Sl w (fun b => b < w.heap.size) v k es ∧ ∀ x ∈ es, ∀ y ∈ x, IsI y := by
  obtain ⟨H, enc, base, d, ps, h1, fuel, h2⟩ := h
  obtain ⟨a, len, cap, rfl⟩ := okWide_slice ht h1
  rcases Deep.open_slice ht (cs := [Value.slice a len cap]) (by simpa [Value.cells] using h2) with ⟨h0, _⟩ | ⟨a', len', cap', m, f, D, Pl, h0, _, hl, hm, hmm, _, hx⟩
  · simp only [List.cons.injEq, Value.slice.injEq, and_true] at h0
    obtain ⟨rfl, rfl, rfl⟩ := h0
    exact ⟨[], Sl.nil _ _ _, by simp⟩
  · simp only [List.cons.injEq, Value.slice.injEq, and_true] at h0
    obtain ⟨rfl, rfl, rfl⟩ := h0
    simp only [if_true] at hmm
    subst hmm
    rw [hc] at hx
    obtain ⟨E, hE⟩ := Deep.choose_lt (α := List Value) (p := fun i cs' => w.cells? 0 (a'.add (i * k)) k = some cs' ∧ DataW.trod enc P w 0 (fun _ => true) true f e cs' = some (D i, Pl i)) hx
    have hlen : ∀ i, i < m → (E i).length = k := fun i hi => (World.cells?_some (hE i hi).1).2.1
    refine ⟨(List.range len).map E, ⟨?_, some a', m, by simp, by simpa using hl, hm, by simp, ?_⟩, ?_⟩
    · intro x hx'
      simp only [List.mem_map, List.mem_range] at hx'
      obtain ⟨i, hi, rfl⟩ := hx'
      exact hlen i (by omega)
    · by_cases h0 : len = 0
      · left; simp [h0]
      right
      have hcell : ∀ i j, i < len → j < k → w.cell? (a'.add (i * k + j)) = (E i)[j]? := fun i j hi hj => by
        have := (World.cells?_some (hE i (by omega)).1).2.2 j hj
        rwa [Deep.add_add] at this
      have hsp : a'.spot = none ∧ a'.block < w.heap.size := cell_plain (v := (E 0)[0]'(by rw [hlen 0 (by omega)]; exact hk)) (by
        have := hcell 0 0 (by omega) hk
        rw [Nat.zero_mul] at this
        rw [List.getElem?_eq_getElem (by rw [hlen 0 (by omega)]; exact hk)] at this
        simpa [Addr.add] using this)
      obtain ⟨b, off, sp⟩ := a'
      obtain ⟨hsp1, hsp2⟩ := hsp
      simp only at hsp1 hsp2
      subst hsp1
      refine ⟨b, off, rfl, hsp2, hsp2, fun i j x hx' hj => ?_⟩
      obtain ⟨hi, rfl⟩ := List.getElem?_eq_some_iff.1 hx'
      simp only [List.length_map, List.length_range] at hi
      have := hcell i j hi hj
      simp only [List.getElem_map, List.getElem_range]
      rw [← this]
      unfold Addr.add
      split
      · rename_i h0
        simp [h0]
      · rfl
    · intro x hx' y hy
      simp only [List.mem_map, List.mem_range] at hx'
      obtain ⟨i, hi, rfl⟩ := hx'
      exact flat_trod n e f _ _ hfl (hE i (by omega)).2 y hy
/-- The arguments as the row opens them. -/
def Args (P : Program) (w : World) : List TypeId → List Value → Prop
  | [], [] => True
  | t :: ts, v :: vs => Arg P w t v ∧ Args P w ts vs
  | _, _ => False
theorem args_cons {w : World} {t : TypeId} {ts : List TypeId} {vs : List Value} (h : Args P w (t :: ts) vs) : ∃ v vs', vs = v :: vs' ∧ Arg P w t v ∧ Args P w ts vs' := by
  match vs, h with
  | v :: vs', h => exact ⟨v, vs', rfl, h.1, h.2⟩
theorem args_nil {w : World} {vs : List Value} (h : Args P w [] vs) : vs = [] := by
  match vs, h with
  | [], _ => rfl
theorem args_of {w : World} {base : Nat} : ∀ (ts : List TypeId) (vs : List Value) (ds : List (DataW H)) (ps : List MemPlace), (∀ (j : Nat) t v, ts[j]? = some t → vs[j]? = some v → Value.okWide P w .any base t v) →
    DataW.TrodAll enc P w 0 (fun _ => true) true ts vs ds ps → Args P w ts vs ∧ ds.length = ts.length
  | [], vs, ds, ps, _, h => by
    obtain ⟨rfl, rfl, _⟩ := trodAll_nil h
    exact ⟨trivial, rfl⟩
  | t :: ts, vs, ds, ps, hv, h => by
    obtain ⟨v, vs', d, ds', p, q, rfl, rfl, rfl, h1, h2⟩ := trodAll_cons h
    obtain ⟨h3, h4⟩ := args_of ts vs' ds' q (fun j t' v' ht hv' => hv (j + 1) t' v' (by simpa using ht) (by simpa using hv')) h2
    exact ⟨⟨⟨H, enc, base, d, p, hv 0 t v rfl rfl, h1⟩, h3⟩, by simp [h4]⟩
theorem trodAll_stays (hl : laidOutB P = true) {w w' : World} {base : Nat} {sp : Nat → Bool} : ∀ (ts : List TypeId) (vs : List Value) (ds : List (DataW H)) (ps : List MemPlace), (∀ t ∈ ts, P.readableRec t = true ∧ t < P.types.size) →
    DataW.TrodAll enc P w base (fun _ => true) true ts vs ds ps → (∀ p ∈ ps, w.sameAt w' p) → (∀ p ∈ ps, sp p.block = true) → DataW.TrodAll enc P w' base sp true ts vs ds ps
  | [], vs, ds, ps, _, h, _, _ => by
    obtain ⟨rfl, rfl, rfl⟩ := trodAll_nil h
    exact rfl
  | t :: ts, vs, ds, ps, ht, h, h1, h2 => by
    obtain ⟨v, vs', d, ds', p, q, rfl, rfl, rfl, h3, h4⟩ := trodAll_cons h
    simp only [List.mem_append] at h1 h2
    exact trodAll_cons_mk (WideElems.Trod_stays hl (ht t (by simp)).1 (ht t (by simp)).2 h3 (fun p hp => h1 p (.inl hp)) (fun p hp => h2 p (.inl hp)))
      (trodAll_stays hl ts vs' ds' q (fun t' ht' => ht t' (by simp [ht'])) h4 (fun p hp => h1 p (.inr hp)) (fun p hp => h2 p (.inr hp)))
/-- A law that answers true and writes nothing that was there: what the row asks when it has returned. -/
theorem law_post {f : Func} {s : ChangeSpec} {w w' : World} {args : Array Value} {ds gs : List (DataW H)} {before : List MemPlace} (hl : laidOutB P = true) (hb4 : P.underlying 4 = some .bool) (hv : s.vars = []) (hr : f.resultTypes = #[4])
    (hp : ∀ t ∈ f.params.toList, P.readableRec t = true ∧ t < P.types.size)
    (hfn : ∀ (ds : List (DataW H)), ds.length = f.params.size → (s.fn H ds).results = [.lit (.bool true)] ∧ (s.fn H ds).args = ds ∧ (s.fn H ds).vars = [])
    (hn : ds.length = f.params.size) (hW : DataW.Whole enc P f.params.toList s.vars false w args.toList ds gs before) (hb : Below w.heap.size w w') : s.post enc P f false true false false w args (.bool true) w' := by
  obtain ⟨p, q, h1, h2, rfl, h3, h4⟩ := id hW
  rw [hv] at h2
  obtain ⟨rfl, rfl⟩ := trodVars_none h2
  obtain ⟨e1, e2, e3⟩ := hfn ds hn
  have hlt : ∀ x ∈ p ++ [], x.block < w.heap.size := fun x hx => hW.lt x hx
  rw [List.append_nil] at hlt
  refine ⟨ds, [], p ++ [], [], p, [], hW, ?_, ?_, ?_, hb.frame _, fun h => by cases h⟩
  · rw [hr, List.append_nil, e1]
    exact trodAll_mk1 ⟨1, by simp [DataW.trod, Value.cells, hb4]⟩
  · rw [List.append_nil, e2]
    exact trodAll_stays hl _ _ _ _ hp h1 (fun x hx => hb.same (hlt x hx)) (fun x hx => by simpa using hlt x hx)
  · rw [hv, List.append_nil, e3]
    exact rfl
end
/-- From a walk to the row's step. -/
theorem lifted_of {f : FuncId} {fn : Func} {s : ChangeSpec} {conds : List PathCond} (hf : Try.prog.funcs[f]? = some fn) (noInit : Try.prog.inits.idxOf? f = none) (own : ownKnob Try.prog.godebug = none) (hl : laidOutB Try.prog = true)
    (hp : (fn.params.toList.all fun t => Try.prog.readableRec t && decide (t < Try.prog.types.size)) = true) (hr : fn.resultTypes = #[4]) (hv : s.vars = [])
    (hfn : ∀ (H : Type) (ds : List (DataW H)), ds.length = fn.params.size → (s.fn H ds).results = [.lit (.bool true)] ∧ (s.fn H ds).args = ds ∧ (s.fn H ds).vars = [])
    (walk : ∀ (w : World) (args : List Value), Args Try.prog w fn.params.toList args → Fn Try.prog f args w fun v w' => v = .bool true ∧ Ex w w')
    (os : Os) (started : os.Started) (H : Type) (enc : TypeId × Value → H)
    (witness : ∃ (w : World) (tape : Tape) (i : Input), w.os = os ∧ (w.forCall tape i).Shaped Try.prog ∧ i.vars = [] ∧ Input.okWide Try.prog (w.forCall tape i) .any w.heap.size f i ∧
      s.pre6 enc Try.prog fn conds false (w.forCall tape i).memory i.args ∧ ({} : Assume).holds Try.prog (lone (Frame.enter Try.prog f i.args .normal) [] (w.forCall tape i))) :
    ReturnsInHanded {} Try.checked os f .any (s.pre6 enc Try.prog fn conds false) (s.post enc Try.prog fn false true false false) := by
  refine returnsInHanded_of_change (C := Try.checked) own started noInit hf witness ?_
  intro w base args ds gs before hval hW _ _
  have hps : ∀ t ∈ fn.params.toList, Try.prog.readableRec t = true ∧ t < Try.prog.types.size := fun t ht => by
    have := List.all_eq_true.1 hp t ht
    simpa using this
  obtain ⟨p, q, h1, h2, _⟩ := id hW
  obtain ⟨h3, h4⟩ := args_of (base := base) fn.params.toList args.toList ds p (fun j t v ht hv' => hval j t v (by simpa using ht) (by simpa using hv')) h1
  have h5 := walk w args.toList h3
  unfold Fn at h5
  rw [Array.toArray_toList] at h5
  refine h5.mono fun ev w' ⟨v, he, hv', hx⟩ => ?_
  subst hv'
  exact ⟨_, he, law_post hl bool_4 hv hr hps (hfn H) (by simpa using h4) hW hx.below⟩
theorem own_ok : ownKnob Try.prog.godebug = none := by kernel_rfl
theorem laid_ok : laidOutB Try.prog = true := by kernel_rfl
theorem flat_45 : flatI Try.prog 4 45 = true := by kernel_rfl
theorem cells_45 : Try.prog.cellsOf 45 = 2 := by kernel_rfl
theorem list2 {x : List Value} (h : x.length = 2) : ∃ a b, x = [a, b] := by
  match x, h with
  | [a, b], _ => exact ⟨a, b, rfl⟩
/-- A slice of cells. -/
theorem arg_raw {w : World} {v : Value} (h : Arg Try.prog w 23 v) : ∃ raw : List Cell, Sl w (fun b => b < w.heap.size) v 2 (raw.map encC) ∧ RawOk raw := by
  obtain ⟨es, h1, h2⟩ := arg_slice (by decide) und_sl_23 cells_45 flat_45 h
  obtain ⟨raw, rfl, hr⟩ := decode (f := encC) (ok := fun c : Cell => (-9223372036854775808 ≤ c.1 ∧ c.1 ≤ 9223372036854775807) ∧ (-9223372036854775808 ≤ c.2 ∧ c.2 ≤ 9223372036854775807))
    (q := fun x => x.length = 2 ∧ ∀ y ∈ x, IsI y) (fun x ⟨h1, h2⟩ => by
      obtain ⟨a, b, rfl⟩ := list2 h1
      obtain ⟨n, rfl, hn⟩ := h2 a (by simp)
      obtain ⟨m, rfl, hm⟩ := h2 b (by simp)
      exact ⟨(n, m), rfl, hn, hm⟩) es fun x hx => ⟨h1.1 x hx, h2 x hx⟩
  exact ⟨raw, h1, hr⟩
end Go.Proofs.Ythpaadmpgdglnaa
namespace Go.Proofs.Ythpaadmpgdglnaa
open Go Go.RowKit Go.ChangeShapes Go.WideShapes Go.ChangeAt
set_option maxRecDepth 100000
def structB (P : Program) (t : TypeId) : Bool := match P.underlying t with
  | some (.struct _) => true
  | _ => false
theorem struct_of {P : Program} {t : TypeId} (h : structB P t = true) : ∃ fs, P.underlying t = some (.struct fs) := by
  unfold structB at h
  split at h
  · rename_i fs hu
    exact ⟨fs, hu⟩
  · cases h
theorem flat_55 : flatI Try.prog 4 55 = true := by kernel_rfl
theorem cells_55 : Try.prog.cellsOf 55 = 2 := by kernel_rfl
theorem struct_55 : structB Try.prog 55 = true := by kernel_rfl
theorem flat_3 : flatI Try.prog 4 3 = true := by kernel_rfl
theorem cells_3 : Try.prog.cellsOf 3 = 1 := by kernel_rfl
/-- A list of cells. -/
theorem arg_cells {w : World} {v : Value} (h : Arg Try.prog w 46 v) : ∃ l : List Cell, Sl w (fun b => b < w.heap.size) v 2 (l.map encC) := by
  obtain ⟨es, h1, h2⟩ := arg_slice (by decide) und_sl_46 cells_55 flat_55 h
  obtain ⟨l, rfl, _⟩ := decode (f := encC) (ok := fun _ : Cell => True)
    (q := fun x => x.length = 2 ∧ ∀ y ∈ x, IsI y) (fun x ⟨h1, h2⟩ => by
      obtain ⟨a, b, rfl⟩ := list2 h1
      obtain ⟨n, rfl, hn⟩ := h2 a (by simp)
      obtain ⟨m, rfl, hm⟩ := h2 b (by simp)
      exact ⟨(n, m), rfl, trivial⟩) es fun x hx => ⟨h1.1 x hx, h2 x hx⟩
  exact ⟨l, h1⟩
/-- A cell. -/
theorem arg_cell {w : World} {v : Value} (h : Arg Try.prog w 55 v) : ∃ c : Cell, v = .agg #[.int .i64 c.1, .int .i64 c.2] ∧ (-9223372036854775808 ≤ c.1 ∧ c.1 ≤ 9223372036854775807) ∧ (-9223372036854775808 ≤ c.2 ∧ c.2 ≤ 9223372036854775807) := by
  obtain ⟨fs, hs⟩ := struct_of struct_55
  obtain ⟨cs, rfl, h1, h2⟩ := arg_agg hs cells_55 flat_55 h
  obtain ⟨a, b, e⟩ := list2 (x := cs.toList) (by simpa using h1)
  rw [e] at h2
  obtain ⟨n, rfl, hn⟩ := h2 a (by simp)
  obtain ⟨m, rfl, hm⟩ := h2 b (by simp)
  refine ⟨(n, m), ?_, hn, hm⟩
  rw [show cs = (cs.toList).toArray from (Array.toArray_toList).symm, e]
end Go.Proofs.Ythpaadmpgdglnaa
