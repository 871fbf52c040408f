/- Structs and arrays of numbers and of Bools, compared. No condition. -/
import Derived.Test.YthpaadmpgdglnaaTy
import Derived.Laws.StructEq
import Derived.DeepKeys
namespace Go.Proofs.Ythpaadmpgdglnaa

open Go Go.RowKit
section
variable {P : Program}
theorem eqf_cons {d : Nat} {xs ys : Array Value} {t off : Nat} {rest : List (Nat × Nat × Bool)} {a b : Value} {r r' : Bool} (ha : ∀ w, (part t xs off).run P w = .ok a w) (hb : ∀ w, (part t ys off).run P w = .ok b w)
    (h : ∀ w, (Op.equalIn d t a b).run P w = .ok r w) (k : ∀ {fs : List Field}, fs.map (fun f => (f.type, f.offset, f.name != "_")) = rest → ∀ w, (Op.eqFields d xs ys fs).run P w = .ok r' w) :
    ∀ {fs : List Field}, fs.map (fun f => (f.type, f.offset, f.name != "_")) = (t, off, true) :: rest → ∀ w, (Op.eqFields d xs ys fs).run P w = .ok (r && r') w := by
  intro fs hfs w
  cases fs with
  | nil => simp at hfs
  | cons f fs =>
    simp only [List.map_cons, List.cons.injEq, Prod.mk.injEq] at hfs
    obtain ⟨⟨rfl, rfl, hn⟩, hr⟩ := hfs
    have hn' : f.name ≠ "_" := by simpa using hn
    simp only [Op.eqFields, hn', ne_eq, not_false_eq_true, if_true, Sem.run_bind, ha, hb, h, Result.andThen_ok]
    cases r
    · simp
    · simpa using k hr w
theorem eqf_nil {d : Nat} {xs ys : Array Value} : ∀ {fs : List Field}, fs.map (fun f => (f.type, f.offset, f.name != "_")) = [] → ∀ w, (Op.eqFields d xs ys fs).run P w = .ok true w := by
  intro fs hfs w
  cases fs with
  | nil => simp [Op.eqFields]
  | cons f fs => simp at hfs
theorem eqItems_cons {d : Nat} {e : TypeId} {n : Nat} {xs ys : Array Value} {i : Nat} {is : List Nat} {a b : Value} {r r' : Bool} (ha : ∀ w, (part e xs (i * n)).run P w = .ok a w) (hb : ∀ w, (part e ys (i * n)).run P w = .ok b w)
    (h : ∀ w, (Op.equalIn d e a b).run P w = .ok r w) (k : ∀ w, (Op.eqItems d e n xs ys is).run P w = .ok r' w) : ∀ w, (Op.eqItems d e n xs ys (i :: is)).run P w = .ok (r && r') w := fun w => by
  simp only [Op.eqItems, Sem.run_bind, ha, hb, h, Result.andThen_ok]
  cases r
  · simp
  · simpa using k w
theorem eqItems_nil {d : Nat} {e : TypeId} {n : Nat} {xs ys : Array Value} : ∀ w, (Op.eqItems d e n xs ys []).run P w = .ok true w := fun w => by simp [Op.eqItems]
theorem eqInt {d : Nat} {t : TypeId} {a b : Int} {k : IntKind} (hu : P.underlying t = some (.int k)) : ∀ w, (Op.equalIn (d + 1) t (.int .i64 a) (.int .i64 b)).run P w = .ok (a == b) w := fun w => run_equalIn_int w d t .i64 k a b hu
theorem eqBool {d : Nat} {t : TypeId} {a b : Bool} (hu : P.underlying t = some .bool) : ∀ w, (Op.equalIn (d + 1) t (.bool a) (.bool b)).run P w = .ok (a == b) w := fun w => run_equalIn_bool' w d t a b hu
end
theorem und_3 : Try.prog.underlying 3 = some (.int .i64) := by kernel_rfl
theorem info_some {t k : Nat} (h : (Try.prog.info? t).map (·.size) = some k) : ∃ i, Try.prog.info? t = some i := by
  cases hi : Try.prog.info? t with
  | none => rw [hi] at h; cases h
  | some i => exact ⟨i, rfl⟩
theorem info_3_ok : Try.prog.info? 3 = some (info_some size_3).choose := (info_some size_3).choose_spec
theorem info_4_ok : Try.prog.info? 4 = some (info_some size_4).choose := (info_some size_4).choose_spec
theorem eqv_55 (d : Nat) (a0 b0 : Int) (a1 b1 : Int) : ∀ w, (Op.equalIn (d + 2) 55 (.agg #[.int .i64 a0, .int .i64 a1]) (.agg #[.int .i64 b0, .int .i64 b1])).run Try.prog w = .ok (decide ((a0, a1) = (b0, b1))) w := fun w => by
  have hd : (decide ((a0, a1) = (b0, b1))) = ((a0 == b0) && ((a1 == b1) && true)) := Bool.eq_iff_iff.2 (by simp [Prod.ext_iff])
  rw [hd]
  rw [show d + 2 = (d + 1) + 1 from rfl, run_equalIn_struct w (d + 1) 55 _ _ (by kernel_rfl) (by kernel_rfl)]
  exact (eqf_cons (t := 3) (off := 0) (a := (.int .i64 a0)) (b := (.int .i64 b0)) (fun w => by kernel_rfl) (fun w => by kernel_rfl) (eqInt (d := d + 0) und_3) (eqf_cons (t := 3) (off := 1) (a := (.int .i64 a1)) (b := (.int .i64 b1)) (fun w => by kernel_rfl) (fun w => by kernel_rfl) (eqInt (d := d + 0) und_3) (eqf_nil))) (by kernel_rfl) w
theorem ev_eql_55 {n : Nat} {e : Env} {S : World → Prop} {dst : Option Tmp} {ty u : TypeId} {pos : String} {after : Array Edge} {guard : Option (Nat × Bool)} {x y : Operand} {a0 b0 : Int} {a1 b1 : Int} (hx : look e x = some (.agg #[.int .i64 a0, .int .i64 a1])) (hy : look e y = some (.agg #[.int .i64 b0, .int .i64 b1])) :
    Ev Try.prog n e S ⟨dst, .binOp .eql 55 x y u, ty, pos, after, guard⟩ (.bool (decide ((a0, a1) = (b0, b1)))) := ev_eql_agg hx hy fun w => by
  have h := eqv_55 9998 a0 b0 a1 b1 w
  simp only [Sem.run_bind, run_eqGuard_agg (P := Try.prog) w .eql 55 x y _ _ (by kernel_rfl), Result.andThen_ok, run_eql_struct, show (10000 : Nat) = 9998 + 2 from rfl, h]
theorem ev_neq_55 {n : Nat} {e : Env} {S : World → Prop} {dst : Option Tmp} {ty u : TypeId} {pos : String} {after : Array Edge} {guard : Option (Nat × Bool)} {x y : Operand} {a0 b0 : Int} {a1 b1 : Int} (hx : look e x = some (.agg #[.int .i64 a0, .int .i64 a1])) (hy : look e y = some (.agg #[.int .i64 b0, .int .i64 b1])) :
    Ev Try.prog n e S ⟨dst, .binOp .neq 55 x y u, ty, pos, after, guard⟩ (.bool (decide ((a0, a1) ≠ (b0, b1)))) := ev_neq_agg hx hy fun w => by
  have h := eqv_55 9998 a0 b0 a1 b1 w
  simp only [Sem.run_bind, run_eqGuard_agg (P := Try.prog) w .neq 55 x y _ _ (by kernel_rfl), Result.andThen_ok, run_neq_struct, show (10000 : Nat) = 9998 + 2 from rfl, h, decide_not]
theorem eqv_32 (d : Nat) (a0 b0 : Int) (a1 b1 : Int) (a2 b2 : Int) (a3 b3 : Int) : ∀ w, (Op.equalIn (d + 2) 32 (.agg #[.int .i64 a0, .int .i64 a1, .int .i64 a2, .int .i64 a3]) (.agg #[.int .i64 b0, .int .i64 b1, .int .i64 b2, .int .i64 b3])).run Try.prog w = .ok (decide ((a0, a1, a2, a3) = (b0, b1, b2, b3))) w := fun w => by
  have hd : (decide ((a0, a1, a2, a3) = (b0, b1, b2, b3))) = ((a0 == b0) && ((a1 == b1) && ((a2 == b2) && ((a3 == b3) && true)))) := Bool.eq_iff_iff.2 (by simp [Prod.ext_iff])
  rw [hd]
  rw [show d + 2 = (d + 1) + 1 from rfl, run_equalIn_array w (d + 1) _ _ (show Try.prog.underlying 32 = some (.array 4 3) from by kernel_rfl) info_3_ok, show Try.prog.cellsOf 3 = 1 from by kernel_rfl, show List.range 4 = [0, 1, 2, 3] from rfl]
  exact (eqItems_cons (a := (.int .i64 a0)) (b := (.int .i64 b0)) (fun w => by kernel_rfl) (fun w => by kernel_rfl) (eqInt (d := d + 0) und_3) (eqItems_cons (a := (.int .i64 a1)) (b := (.int .i64 b1)) (fun w => by kernel_rfl) (fun w => by kernel_rfl) (eqInt (d := d + 0) und_3) (eqItems_cons (a := (.int .i64 a2)) (b := (.int .i64 b2)) (fun w => by kernel_rfl) (fun w => by kernel_rfl) (eqInt (d := d + 0) und_3) (eqItems_cons (a := (.int .i64 a3)) (b := (.int .i64 b3)) (fun w => by kernel_rfl) (fun w => by kernel_rfl) (eqInt (d := d + 0) und_3) (eqItems_nil))))) w
theorem ev_eql_32 {n : Nat} {e : Env} {S : World → Prop} {dst : Option Tmp} {ty u : TypeId} {pos : String} {after : Array Edge} {guard : Option (Nat × Bool)} {x y : Operand} {a0 b0 : Int} {a1 b1 : Int} {a2 b2 : Int} {a3 b3 : Int} (hx : look e x = some (.agg #[.int .i64 a0, .int .i64 a1, .int .i64 a2, .int .i64 a3])) (hy : look e y = some (.agg #[.int .i64 b0, .int .i64 b1, .int .i64 b2, .int .i64 b3])) :
    Ev Try.prog n e S ⟨dst, .binOp .eql 32 x y u, ty, pos, after, guard⟩ (.bool (decide ((a0, a1, a2, a3) = (b0, b1, b2, b3)))) := ev_eql_agg hx hy fun w => by
  have h := eqv_32 9998 a0 b0 a1 b1 a2 b2 a3 b3 w
  simp only [Sem.run_bind, run_eqGuard_agg (P := Try.prog) w .eql 32 x y _ _ (by kernel_rfl), Result.andThen_ok, run_eql_struct, show (10000 : Nat) = 9998 + 2 from rfl, h]
theorem ev_neq_32 {n : Nat} {e : Env} {S : World → Prop} {dst : Option Tmp} {ty u : TypeId} {pos : String} {after : Array Edge} {guard : Option (Nat × Bool)} {x y : Operand} {a0 b0 : Int} {a1 b1 : Int} {a2 b2 : Int} {a3 b3 : Int} (hx : look e x = some (.agg #[.int .i64 a0, .int .i64 a1, .int .i64 a2, .int .i64 a3])) (hy : look e y = some (.agg #[.int .i64 b0, .int .i64 b1, .int .i64 b2, .int .i64 b3])) :
    Ev Try.prog n e S ⟨dst, .binOp .neq 32 x y u, ty, pos, after, guard⟩ (.bool (decide ((a0, a1, a2, a3) ≠ (b0, b1, b2, b3)))) := ev_neq_agg hx hy fun w => by
  have h := eqv_32 9998 a0 b0 a1 b1 a2 b2 a3 b3 w
  simp only [Sem.run_bind, run_eqGuard_agg (P := Try.prog) w .neq 32 x y _ _ (by kernel_rfl), Result.andThen_ok, run_neq_struct, show (10000 : Nat) = 9998 + 2 from rfl, h, decide_not]
theorem eqv_34 (d : Nat) (a0 b0 : Int) (a1 b1 : Int) (a2 b2 : Int) (a3 b3 : Int) (a4 b4 : Int) (a5 b5 : Int) : ∀ w, (Op.equalIn (d + 3) 34 (.agg #[.int .i64 a0, .int .i64 a1, .int .i64 a2, .int .i64 a3, .int .i64 a4, .int .i64 a5]) (.agg #[.int .i64 b0, .int .i64 b1, .int .i64 b2, .int .i64 b3, .int .i64 b4, .int .i64 b5])).run Try.prog w = .ok (decide ((a0, (a1, a2, a3, a4), a5) = (b0, (b1, b2, b3, b4), b5))) w := fun w => by
  have hd : (decide ((a0, (a1, a2, a3, a4), a5) = (b0, (b1, b2, b3, b4), b5))) = ((a0 == b0) && (decide ((a1, a2, a3, a4) = (b1, b2, b3, b4)) && ((a5 == b5) && true))) := Bool.eq_iff_iff.2 (by simp [Prod.ext_iff, and_assoc])
  rw [hd]
  rw [show d + 3 = (d + 2) + 1 from rfl, run_equalIn_struct w (d + 2) 34 _ _ (by kernel_rfl) (by kernel_rfl)]
  exact (eqf_cons (t := 3) (off := 0) (a := (.int .i64 a0)) (b := (.int .i64 b0)) (fun w => by kernel_rfl) (fun w => by kernel_rfl) (eqInt (d := d + 1) und_3) (eqf_cons (t := 32) (off := 1) (a := (.agg #[.int .i64 a1, .int .i64 a2, .int .i64 a3, .int .i64 a4])) (b := (.agg #[.int .i64 b1, .int .i64 b2, .int .i64 b3, .int .i64 b4])) (fun w => by kernel_rfl) (fun w => by kernel_rfl) (eqv_32 (d + 0) _ _ _ _ _ _ _ _) (eqf_cons (t := 3) (off := 5) (a := (.int .i64 a5)) (b := (.int .i64 b5)) (fun w => by kernel_rfl) (fun w => by kernel_rfl) (eqInt (d := d + 1) und_3) (eqf_nil)))) (by kernel_rfl) w
theorem ev_eql_34 {n : Nat} {e : Env} {S : World → Prop} {dst : Option Tmp} {ty u : TypeId} {pos : String} {after : Array Edge} {guard : Option (Nat × Bool)} {x y : Operand} {a0 b0 : Int} {a1 b1 : Int} {a2 b2 : Int} {a3 b3 : Int} {a4 b4 : Int} {a5 b5 : Int} (hx : look e x = some (.agg #[.int .i64 a0, .int .i64 a1, .int .i64 a2, .int .i64 a3, .int .i64 a4, .int .i64 a5])) (hy : look e y = some (.agg #[.int .i64 b0, .int .i64 b1, .int .i64 b2, .int .i64 b3, .int .i64 b4, .int .i64 b5])) :
    Ev Try.prog n e S ⟨dst, .binOp .eql 34 x y u, ty, pos, after, guard⟩ (.bool (decide ((a0, (a1, a2, a3, a4), a5) = (b0, (b1, b2, b3, b4), b5)))) := ev_eql_agg hx hy fun w => by
  have h := eqv_34 9997 a0 b0 a1 b1 a2 b2 a3 b3 a4 b4 a5 b5 w
  simp only [Sem.run_bind, run_eqGuard_agg (P := Try.prog) w .eql 34 x y _ _ (by kernel_rfl), Result.andThen_ok, run_eql_struct, show (10000 : Nat) = 9997 + 3 from rfl, h]
theorem ev_neq_34 {n : Nat} {e : Env} {S : World → Prop} {dst : Option Tmp} {ty u : TypeId} {pos : String} {after : Array Edge} {guard : Option (Nat × Bool)} {x y : Operand} {a0 b0 : Int} {a1 b1 : Int} {a2 b2 : Int} {a3 b3 : Int} {a4 b4 : Int} {a5 b5 : Int} (hx : look e x = some (.agg #[.int .i64 a0, .int .i64 a1, .int .i64 a2, .int .i64 a3, .int .i64 a4, .int .i64 a5])) (hy : look e y = some (.agg #[.int .i64 b0, .int .i64 b1, .int .i64 b2, .int .i64 b3, .int .i64 b4, .int .i64 b5])) :
    Ev Try.prog n e S ⟨dst, .binOp .neq 34 x y u, ty, pos, after, guard⟩ (.bool (decide ((a0, (a1, a2, a3, a4), a5) ≠ (b0, (b1, b2, b3, b4), b5)))) := ev_neq_agg hx hy fun w => by
  have h := eqv_34 9997 a0 b0 a1 b1 a2 b2 a3 b3 a4 b4 a5 b5 w
  simp only [Sem.run_bind, run_eqGuard_agg (P := Try.prog) w .neq 34 x y _ _ (by kernel_rfl), Result.andThen_ok, run_neq_struct, show (10000 : Nat) = 9997 + 3 from rfl, h, decide_not]
theorem eqv_69 (d : Nat) (a0 b0 : Int) (a1 b1 : Int) (a2 b2 : Int) (a3 b3 : Int) : ∀ w, (Op.equalIn (d + 2) 69 (.agg #[.int .i64 a0, .int .i64 a1, .int .i64 a2, .int .i64 a3]) (.agg #[.int .i64 b0, .int .i64 b1, .int .i64 b2, .int .i64 b3])).run Try.prog w = .ok (decide ((a0, a1, a2, a3) = (b0, b1, b2, b3))) w := fun w => by
  have hd : (decide ((a0, a1, a2, a3) = (b0, b1, b2, b3))) = ((a0 == b0) && ((a1 == b1) && ((a2 == b2) && ((a3 == b3) && true)))) := Bool.eq_iff_iff.2 (by simp [Prod.ext_iff])
  rw [hd]
  rw [show d + 2 = (d + 1) + 1 from rfl, run_equalIn_struct w (d + 1) 69 _ _ (by kernel_rfl) (by kernel_rfl)]
  exact (eqf_cons (t := 3) (off := 0) (a := (.int .i64 a0)) (b := (.int .i64 b0)) (fun w => by kernel_rfl) (fun w => by kernel_rfl) (eqInt (d := d + 0) und_3) (eqf_cons (t := 3) (off := 1) (a := (.int .i64 a1)) (b := (.int .i64 b1)) (fun w => by kernel_rfl) (fun w => by kernel_rfl) (eqInt (d := d + 0) und_3) (eqf_cons (t := 3) (off := 2) (a := (.int .i64 a2)) (b := (.int .i64 b2)) (fun w => by kernel_rfl) (fun w => by kernel_rfl) (eqInt (d := d + 0) und_3) (eqf_cons (t := 3) (off := 3) (a := (.int .i64 a3)) (b := (.int .i64 b3)) (fun w => by kernel_rfl) (fun w => by kernel_rfl) (eqInt (d := d + 0) und_3) (eqf_nil))))) (by kernel_rfl) w
theorem ev_eql_69 {n : Nat} {e : Env} {S : World → Prop} {dst : Option Tmp} {ty u : TypeId} {pos : String} {after : Array Edge} {guard : Option (Nat × Bool)} {x y : Operand} {a0 b0 : Int} {a1 b1 : Int} {a2 b2 : Int} {a3 b3 : Int} (hx : look e x = some (.agg #[.int .i64 a0, .int .i64 a1, .int .i64 a2, .int .i64 a3])) (hy : look e y = some (.agg #[.int .i64 b0, .int .i64 b1, .int .i64 b2, .int .i64 b3])) :
    Ev Try.prog n e S ⟨dst, .binOp .eql 69 x y u, ty, pos, after, guard⟩ (.bool (decide ((a0, a1, a2, a3) = (b0, b1, b2, b3)))) := ev_eql_agg hx hy fun w => by
  have h := eqv_69 9998 a0 b0 a1 b1 a2 b2 a3 b3 w
  simp only [Sem.run_bind, run_eqGuard_agg (P := Try.prog) w .eql 69 x y _ _ (by kernel_rfl), Result.andThen_ok, run_eql_struct, show (10000 : Nat) = 9998 + 2 from rfl, h]
theorem ev_neq_69 {n : Nat} {e : Env} {S : World → Prop} {dst : Option Tmp} {ty u : TypeId} {pos : String} {after : Array Edge} {guard : Option (Nat × Bool)} {x y : Operand} {a0 b0 : Int} {a1 b1 : Int} {a2 b2 : Int} {a3 b3 : Int} (hx : look e x = some (.agg #[.int .i64 a0, .int .i64 a1, .int .i64 a2, .int .i64 a3])) (hy : look e y = some (.agg #[.int .i64 b0, .int .i64 b1, .int .i64 b2, .int .i64 b3])) :
    Ev Try.prog n e S ⟨dst, .binOp .neq 69 x y u, ty, pos, after, guard⟩ (.bool (decide ((a0, a1, a2, a3) ≠ (b0, b1, b2, b3)))) := ev_neq_agg hx hy fun w => by
  have h := eqv_69 9998 a0 b0 a1 b1 a2 b2 a3 b3 w
  simp only [Sem.run_bind, run_eqGuard_agg (P := Try.prog) w .neq 69 x y _ _ (by kernel_rfl), Result.andThen_ok, run_neq_struct, show (10000 : Nat) = 9998 + 2 from rfl, h, decide_not]
theorem eqv_82 (d : Nat) (a0 b0 : Bool) (a1 b1 : Bool) (a2 b2 : Bool) (a3 b3 : Bool) : ∀ w, (Op.equalIn (d + 2) 82 (.agg #[.bool a0, .bool a1, .bool a2, .bool a3]) (.agg #[.bool b0, .bool b1, .bool b2, .bool b3])).run Try.prog w = .ok (decide ((a0, a1, a2, a3) = (b0, b1, b2, b3))) w := fun w => by
  have hd : (decide ((a0, a1, a2, a3) = (b0, b1, b2, b3))) = ((a0 == b0) && ((a1 == b1) && ((a2 == b2) && ((a3 == b3) && true)))) := Bool.eq_iff_iff.2 (by simp [Prod.ext_iff])
  rw [hd]
  rw [show d + 2 = (d + 1) + 1 from rfl, run_equalIn_array w (d + 1) _ _ (show Try.prog.underlying 82 = some (.array 4 4) from by kernel_rfl) info_4_ok, show Try.prog.cellsOf 4 = 1 from by kernel_rfl, show List.range 4 = [0, 1, 2, 3] from rfl]
  exact (eqItems_cons (a := (.bool a0)) (b := (.bool b0)) (fun w => by kernel_rfl) (fun w => by kernel_rfl) (eqBool (d := d + 0) bool_4) (eqItems_cons (a := (.bool a1)) (b := (.bool b1)) (fun w => by kernel_rfl) (fun w => by kernel_rfl) (eqBool (d := d + 0) bool_4) (eqItems_cons (a := (.bool a2)) (b := (.bool b2)) (fun w => by kernel_rfl) (fun w => by kernel_rfl) (eqBool (d := d + 0) bool_4) (eqItems_cons (a := (.bool a3)) (b := (.bool b3)) (fun w => by kernel_rfl) (fun w => by kernel_rfl) (eqBool (d := d + 0) bool_4) (eqItems_nil))))) w
theorem ev_eql_82 {n : Nat} {e : Env} {S : World → Prop} {dst : Option Tmp} {ty u : TypeId} {pos : String} {after : Array Edge} {guard : Option (Nat × Bool)} {x y : Operand} {a0 b0 : Bool} {a1 b1 : Bool} {a2 b2 : Bool} {a3 b3 : Bool} (hx : look e x = some (.agg #[.bool a0, .bool a1, .bool a2, .bool a3])) (hy : look e y = some (.agg #[.bool b0, .bool b1, .bool b2, .bool b3])) :
    Ev Try.prog n e S ⟨dst, .binOp .eql 82 x y u, ty, pos, after, guard⟩ (.bool (decide ((a0, a1, a2, a3) = (b0, b1, b2, b3)))) := ev_eql_agg hx hy fun w => by
  have h := eqv_82 9998 a0 b0 a1 b1 a2 b2 a3 b3 w
  simp only [Sem.run_bind, run_eqGuard_agg (P := Try.prog) w .eql 82 x y _ _ (by kernel_rfl), Result.andThen_ok, run_eql_struct, show (10000 : Nat) = 9998 + 2 from rfl, h]
theorem ev_neq_82 {n : Nat} {e : Env} {S : World → Prop} {dst : Option Tmp} {ty u : TypeId} {pos : String} {after : Array Edge} {guard : Option (Nat × Bool)} {x y : Operand} {a0 b0 : Bool} {a1 b1 : Bool} {a2 b2 : Bool} {a3 b3 : Bool} (hx : look e x = some (.agg #[.bool a0, .bool a1, .bool a2, .bool a3])) (hy : look e y = some (.agg #[.bool b0, .bool b1, .bool b2, .bool b3])) :
    Ev Try.prog n e S ⟨dst, .binOp .neq 82 x y u, ty, pos, after, guard⟩ (.bool (decide ((a0, a1, a2, a3) ≠ (b0, b1, b2, b3)))) := ev_neq_agg hx hy fun w => by
  have h := eqv_82 9998 a0 b0 a1 b1 a2 b2 a3 b3 w
  simp only [Sem.run_bind, run_eqGuard_agg (P := Try.prog) w .neq 82 x y _ _ (by kernel_rfl), Result.andThen_ok, run_neq_struct, show (10000 : Nat) = 9998 + 2 from rfl, h, decide_not]
theorem eqv_113 (d : Nat) (a0 b0 : Int) (a1 b1 : Int) : ∀ w, (Op.equalIn (d + 2) 113 (.agg #[.int .i64 a0, .int .i64 a1]) (.agg #[.int .i64 b0, .int .i64 b1])).run Try.prog w = .ok (decide ((a0, a1) = (b0, b1))) w := fun w => by
  have hd : (decide ((a0, a1) = (b0, b1))) = ((a0 == b0) && ((a1 == b1) && true)) := Bool.eq_iff_iff.2 (by simp [Prod.ext_iff])
  rw [hd]
  rw [show d + 2 = (d + 1) + 1 from rfl, run_equalIn_struct w (d + 1) 113 _ _ (by kernel_rfl) (by kernel_rfl)]
  exact (eqf_cons (t := 3) (off := 0) (a := (.int .i64 a0)) (b := (.int .i64 b0)) (fun w => by kernel_rfl) (fun w => by kernel_rfl) (eqInt (d := d + 0) und_3) (eqf_cons (t := 3) (off := 1) (a := (.int .i64 a1)) (b := (.int .i64 b1)) (fun w => by kernel_rfl) (fun w => by kernel_rfl) (eqInt (d := d + 0) und_3) (eqf_nil))) (by kernel_rfl) w
theorem ev_eql_113 {n : Nat} {e : Env} {S : World → Prop} {dst : Option Tmp} {ty u : TypeId} {pos : String} {after : Array Edge} {guard : Option (Nat × Bool)} {x y : Operand} {a0 b0 : Int} {a1 b1 : Int} (hx : look e x = some (.agg #[.int .i64 a0, .int .i64 a1])) (hy : look e y = some (.agg #[.int .i64 b0, .int .i64 b1])) :
    Ev Try.prog n e S ⟨dst, .binOp .eql 113 x y u, ty, pos, after, guard⟩ (.bool (decide ((a0, a1) = (b0, b1)))) := ev_eql_agg hx hy fun w => by
  have h := eqv_113 9998 a0 b0 a1 b1 w
  simp only [Sem.run_bind, run_eqGuard_agg (P := Try.prog) w .eql 113 x y _ _ (by kernel_rfl), Result.andThen_ok, run_eql_struct, show (10000 : Nat) = 9998 + 2 from rfl, h]
theorem ev_neq_113 {n : Nat} {e : Env} {S : World → Prop} {dst : Option Tmp} {ty u : TypeId} {pos : String} {after : Array Edge} {guard : Option (Nat × Bool)} {x y : Operand} {a0 b0 : Int} {a1 b1 : Int} (hx : look e x = some (.agg #[.int .i64 a0, .int .i64 a1])) (hy : look e y = some (.agg #[.int .i64 b0, .int .i64 b1])) :
    Ev Try.prog n e S ⟨dst, .binOp .neq 113 x y u, ty, pos, after, guard⟩ (.bool (decide ((a0, a1) ≠ (b0, b1)))) := ev_neq_agg hx hy fun w => by
  have h := eqv_113 9998 a0 b0 a1 b1 w
  simp only [Sem.run_bind, run_eqGuard_agg (P := Try.prog) w .neq 113 x y _ _ (by kernel_rfl), Result.andThen_ok, run_neq_struct, show (10000 : Nat) = 9998 + 2 from rfl, h, decide_not]
end Go.Proofs.Ythpaadmpgdglnaa
