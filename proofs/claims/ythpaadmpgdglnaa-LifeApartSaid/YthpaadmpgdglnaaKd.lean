/- Whole numbers as words without a sign, and back; a stored order of two. No condition. -/
import Derived.Test.YthpaadmpgdglnaaKc
namespace Go.Proofs.Ythpaadmpgdglnaa
set_option linter.unusedSimpArgs false
set_option linter.unusedVariables false
open Go Go.RowKit
section
variable {P : Program} {n : Nat} {e : Env} {S : World → Prop} {w : World} {dst : Option Tmp} {ty : TypeId} {pos : String} {after : Array Edge} {guard : Option (Nat × Bool)}
theorem ev_i2u {x : Operand} {p : Int} {s d : TypeId} (hx : look e x = some (.int .i64 p)) (hs : (P.underlying s).isSome = true) (hd : P.underlying d = some (.int .u64)) (h : 0 ≤ p ∧ p ≤ 9223372036854775807) :
    Ev P n e S ⟨dst, .convert s d x, ty, pos, after, guard⟩ (.int .u64 p) := fun a ha w _ => by
  have hw : IntKind.u64.wrap p = p := by
    simp only [IntKind.wrap, IntKind.bits, IntKind.signed]
    simp
    omega
  have hk : P.intKind d = .u64 := by simp [Program.intKind, hd]
  have hr := run_convert_int (P := P) w s d .i64 p hs (by rw [hk]; exact hd)
  rw [hk, hw] at hr
  simp [execOp, ha.eval hx, hr]
theorem ev_u2i {x : Operand} {p : Int} {s d : TypeId} (hx : look e x = some (.int .u64 p)) (hs : (P.underlying s).isSome = true) (hd : P.underlying d = some (.int .i64)) (h : 0 ≤ p ∧ p ≤ 9223372036854775807) :
    Ev P n e S ⟨dst, .convert s d x, ty, pos, after, guard⟩ (.int .i64 p) := fun a ha w _ => by
  have hw : IntKind.i64.wrap p = p := IntWalk.i64_in _ ⟨by omega, by omega⟩
  have hk : P.intKind d = .i64 := by simp [Program.intKind, hd]
  have hr := run_convert_int (P := P) w s d .u64 p hs (by rw [hk]; exact hd)
  rw [hk, hw] at hr
  simp [execOp, ha.eval hx, hr]
theorem ev_ushr1 {x y : Operand} {p : Int} {t u : TypeId} (hx : look e x = some (.int .u64 p)) (hy : look e y = some (.int .u64 1)) :
    Ev P n e S ⟨dst, .binOp .shr t x y u, ty, pos, after, guard⟩ (.int .u64 (p / 2)) := fun a ha w _ => by
  have h3 : p.fdiv 2 = p / 2 := Int.fdiv_eq_ediv_of_nonneg _ (by decide)
  simp only [execOp, ha.eval hx, ha.eval hy, eqGuard, binOp, Op.shift]
  simp [IntKind.bits, h3]
theorem ev_max5 {x1 x2 x3 x4 x5 : Operand} {p1 p2 p3 p4 p5 : Int} {ats : Array TypeId} (h1 : look e x1 = some (.int .i64 p1)) (h2 : look e x2 = some (.int .i64 p2)) (h3 : look e x3 = some (.int .i64 p3)) (h4 : look e x4 = some (.int .i64 p4)) (h5 : look e x5 = some (.int .i64 p5)) :
    Ev P n e S ⟨dst, .call ⟨.builtin .max, #[x1, x2, x3, x4, x5], ats⟩, ty, pos, after, guard⟩ (.int .i64 (max (max (max (max p1 p2) p3) p4) p5)) := fun a ha w _ => by
  have hm : ∀ x y : Int, (if y > x then y else x) = max x y := fun x y => by rw [Int.max_def]; split <;> split <;> omega
  simp only [execOp, resolve, invoke, List.map_toArray, List.map_cons, List.map_nil, ha.eval h1, ha.eval h2, ha.eval h3, ha.eval h4, ha.eval h5]
  simp [builtin, Builtin.max_, Builtin.max2, List.foldlM, hm]
/-- make([]T, n): a row of n zero elements. -/
theorem op_makeRow {x : Operand} {t E k bytes m : Nat} {q : Int} {z : List Value} (hrow : elRow P t E k bytes) (hz : ∀ w, (zeroValue E).run P w = .ok (.agg z.toArray) w) (hzk : z.length = k) (hx : look e x = some (.int .i64 q)) (hq : q = m) (hb : m * bytes ≤ 140737488355328) (hm : m ≤ 140737488355328) :
    Op1 P n e w ⟨dst, .makeSlice t x x, ty, pos, after, guard⟩ (fun v w' => ∃ g, v = .slice (some ⟨g, 0, none⟩) m m ∧ w.heap.size ≤ g ∧ Ex w w' ∧ Fr w' g E k (List.replicate m z)) := Op1.of_run fun a ha => by
  subst hq
  obtain ⟨i, z', hu, hi, hz', hs, hby, hzs, hk0⟩ := hrow
  have hwrap : IntKind.i64.wrap (m : Int) = m := IntWalk.i64_in _ ⟨by omega, by omega⟩
  have h48 : ¬ ((281474976710656 : Int) < (bytes : Int) * (m : Int)) := by
    have h2 : ((m * bytes : Nat) : Int) = (bytes : Int) * (m : Int) := by rw [Int.natCast_mul, Int.mul_comm]
    omega
  have hneg : ¬ (m : Int) < 0 := by omega
  have hzk0 : 0 < z.length := by omega
  have hcells : ((Array.range (m * k)).map fun j => z.toArray[j % z.toArray.size]!) = (List.replicate m z).flatten.toArray := by
    have := zeroCells_eq (m := m) hzk0
    apply Array.ext'
    rw [← this]
    simp [Builtin.zeroCells, hzk]
  refine ⟨_, w.alloc (.cells (List.replicate m z).flatten.toArray E), ?_, w.heap.size, rfl, Nat.le_refl _, Kp.of_alloc _ _, fun x hx => by rw [(List.mem_replicate.1 hx).2]; exact hzk, Bx.new w _ _⟩
  by_cases hm0 : m = 0
  · subst hm0
    have hw0 : IntKind.i64.wrap 0 = 0 := by decide
    simp [hw0, execOp, ha.eval hx, Instr.makeSlice, run_underlying hu, asInt, asIntOf, typeInfo, hi, hby, hwrap, run_sizeOf hi, hs, newRow]
    exact congrArg (fun c => w.alloc (Obj.cells c E)) (by simp)
  · have hmk : ¬ m * k = 0 := Nat.ne_of_gt (Nat.mul_pos (by omega) (by omega))
    simp [execOp, ha.eval hx, Instr.makeSlice, run_underlying hu, asInt, asIntOf, typeInfo, hi, hby, hwrap, h48, hneg, run_sizeOf hi, hs, hmk, hz, Value.cells, newRow, hcells]
    exact congrArg (fun c => w.alloc (Obj.cells c E)) (by rw [← hcells]; congr 1; funext j; simp only [getElem!_def, List.getElem?_toArray, List.size_toArray]; cases z[j % z.length]? <;> rfl)
end
theorem some_3 : (Try.prog.underlying 3).isSome = true := by kernel_rfl
theorem some_155 : (Try.prog.underlying 155).isSome = true := by kernel_rfl
end Go.Proofs.Ythpaadmpgdglnaa
