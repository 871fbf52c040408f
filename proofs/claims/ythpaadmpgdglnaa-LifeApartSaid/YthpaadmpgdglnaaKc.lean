/- slices.overlaps, which the model itself answers: two rows of two blocks do not overlap. No condition. -/
import Derived.Test.YthpaadmpgdglnaaTy2
namespace Go.Proofs.Ythpaadmpgdglnaa
set_option linter.unusedSimpArgs false
set_option linter.unusedVariables false
set_option maxRecDepth 100000
open Go Go.RowKit
theorem find_147 : Extern.find Try.f147 = some (Extern.SlicesOverlaps.overlaps Try.f147.params Try.f147.resultTypes) := by kernel_rfl
theorem findNext_147 : (Extern.findNext Try.f147).isNone = true := by kernel_rfl
theorem call_147 (args : Array Value) (w : World) : (callFunc 147 args).run Try.prog w = ((Extern.SlicesOverlaps.overlaps Try.f147.params Try.f147.resultTypes args).run Try.prog w).andThen fun v w' => .ok (.value v) w' := by
  have h1 : (Try.f147.name == "runtime.NumGoroutine") = false := by kernel_rfl
  have h2 : Try.f147.body.isNone = true := rfl
  have h3 : Extern.findNext Try.f147 = none := Option.isNone_iff_eq_none.1 findNext_147
  simp only [callFunc, Sem.run_bind, run_program, Result.andThen_ok, Try.func147, h1, h2, Bool.false_eq_true, if_false, if_true, run_mark, h3, find_147, Sem.run_pure]
theorem par_147 : Try.f147.params[0]? = some 46 := by kernel_rfl
theorem run_overlaps {w : World} {a b n m c d o : Nat} {cs : Array Value} {fs : Array Value} {T T' : TypeId} (ha : Bx w a T cs) (hb : Bx w b T' fs) (hne : ¬ a = b) (hn : n ≠ 0) (hm : m ≠ 0) :
    (Extern.SlicesOverlaps.overlaps Try.f147.params Try.f147.resultTypes #[.slice (some ⟨a, 0, none⟩) n c, .slice (some ⟨b, o, none⟩) m d]).run Try.prog w = .ok (.bool false) w := by
  obtain ⟨hu, inf, hinf, hk⟩ := el_parts el_46
  have hne' : (a == b) = false := by simpa using hne
  have hfa : ∀ i, w.frozen? ⟨a, i, none⟩ = false := fun i => ha.free i
  have hfb : ∀ i, w.frozen? ⟨b, i, none⟩ = false := fun i => hb.free i
  have hsa : w.shape? a = some (T, cs.size) := by have := ha; unfold Bx at this; simp [World.shape?, this]
  have hsb : w.shape? b = some (T', fs.size) := by have := hb; unfold Bx at this; simp [World.shape?, this]
  delta Extern.SlicesOverlaps.overlaps Extern.SlicesOverlaps.overlaps.match_4
  simp only [Array.getLit, List.getElem_toArray, List.getElem_cons_zero, List.getElem_cons_succ]
  delta Extern.SlicesOverlaps.overlaps._sparseCasesOn_4
  simp [par_147, run_underlying hu, run_sizeOf hinf, hk, hn, hm, hne, hne', hfa, hfb, noView, viewAt, hsa, hsb, mayBeOne, stringish, bne]
section
variable {P : Program} {n : Nat} {e : Env} {w : World} {dst : Option Tmp} {ty : TypeId} {pos : String} {after : Array Edge} {guard : Option (Nat × Bool)}
/-- A call that the model itself answers. -/
theorem op_extern {f : FuncId} {xs : List Operand} {vs : List Value} {ats : Array TypeId} {v : Value} (hxs : lookAll e xs = some vs) (hc : (callFunc f vs.toArray).run P w = .ok (.value v) w) :
    Op1 P n e w ⟨dst, .call ⟨.value (.func f), xs.toArray, ats⟩, ty, pos, after, guard⟩ (fun v' w' => v' = v ∧ w' = w) := Op1.of_run fun a ha => by
  refine ⟨v, w, ?_, rfl, rfl⟩
  simp only [execOp, resolve, List.map_toArray, lookAll_eval ha hxs]
  have he : a.eval (.func f) = .func (.func f) #[] #[] := rfl
  simp only [he, Deferred.ofValue]
  simp [invoke, hc]
end
theorem call_overlaps {w : World} {a b n m c d o : Nat} {cs : Array Value} {fs : Array Value} {T T' : TypeId} (ha : Bx w a T cs) (hb : Bx w b T' fs) (hne : ¬ a = b) (hn : n ≠ 0) (hm : m ≠ 0) :
    (callFunc 147 #[.slice (some ⟨a, 0, none⟩) n c, .slice (some ⟨b, o, none⟩) m d]).run Try.prog w = .ok (.value (.bool false)) w := by
  rw [call_147, run_overlaps ha hb hne hn hm]
  rfl
end Go.Proofs.Ythpaadmpgdglnaa
