/- slices.SortFunc at cells: a row of the call's own ends sorted; by the library's contract, which is laid at this program. Each theorem names its conditions. -/
import Derived.Test.YthpaadmpgdglnaaFa
import Derived.Shelf.SlSortCmp.NoneTotal
namespace Go.Proofs.Ythpaadmpgdglnaa
set_option linter.unusedSimpArgs false
set_option linter.unusedVariables false
open Go Go.RowKit Go.Shelf
def sortC_ren : Go.Shelf.Ren := ⟨fun | 6 => 101 | 15 => 143 | 14 => 142 | 28 => 174 | 29 => 175 | 20 => 166 | 21 => 167 | 22 => 168 | 23 => 169 | 24 => 170 | 25 => 171 | 26 => 172 | 27 => 173 | 46 => 188 | 47 => 189 | 48 => 190 | 49 => 191 | 50 => 192 | 57 => 197 | n => n, fun | 22 => 46 | 24 => 55 | 25 => 138 | 3 => 3 | 39 => 155 | 0 => 0 | 53 => 205 | 55 => 207 | 4 => 4 | 46 => 199 | 45 => 198 | 50 => 143 | 5 => 5 | 9 => 9 | 66 => 219 | 70 => 223 | 76 => 230 | 77 => 231 | n => n, fun | n => n⟩
theorem sortC : Go.Proofs.SlLaysF0.n6 Try.prog sortC_ren := {
  mixed := by kernel_rfl
  f6 := ⟨Try.f101.name, by decide, Try.func101.trans (congrArg some (by kernel_rfl))⟩
  f14 := ⟨Try.f142.name, by decide, Try.func142.trans (congrArg some (by kernel_rfl))⟩
  f15 := Try.func143.trans (congrArg some (by kernel_rfl))
  f20 := ⟨Try.f166.name, by decide, Try.func166.trans (congrArg some (by kernel_rfl))⟩
  f21 := ⟨Try.f167.name, by decide, Try.func167.trans (congrArg some (by kernel_rfl))⟩
  f22 := ⟨Try.f168.name, by decide, Try.func168.trans (congrArg some (by kernel_rfl))⟩
  f23 := ⟨Try.f169.name, by decide, Try.func169.trans (congrArg some (by kernel_rfl))⟩
  f24 := ⟨Try.f170.name, by decide, Try.func170.trans (congrArg some (by kernel_rfl))⟩
  f25 := ⟨Try.f171.name, by decide, Try.func171.trans (congrArg some (by kernel_rfl))⟩
  f26 := ⟨Try.f172.name, by decide, Try.func172.trans (congrArg some (by kernel_rfl))⟩
  f27 := ⟨Try.f173.name, by decide, Try.func173.trans (congrArg some (by kernel_rfl))⟩
  f28 := Try.func174.trans (congrArg some (by kernel_rfl))
  f29 := Try.func175.trans (congrArg some (by kernel_rfl))
  f46 := ⟨Try.f188.name, by decide, Try.func188.trans (congrArg some (by kernel_rfl))⟩
  f47 := Try.func189.trans (congrArg some (by kernel_rfl))
  f48 := Try.func190.trans (congrArg some (by kernel_rfl))
  f49 := ⟨Try.f191.name, by decide, Try.func191.trans (congrArg some (by kernel_rfl))⟩
  f50 := ⟨Try.f192.name, by decide, Try.func192.trans (congrArg some (by kernel_rfl))⟩
  f57 := ⟨Try.f197.name, by decide, Try.func197.trans (congrArg some (by kernel_rfl))⟩
  t0 := Try.underlying0
  a0 := Try.isAgg0
  z0 := Try.sizeOf0
  v0 := Try.zeroValue0
  t3 := Try.underlying3
  a3 := Try.isAgg3
  z3 := Try.sizeOf3
  v3 := Try.zeroValue3
  t4 := Try.underlying4
  a4 := Try.isAgg4
  z4 := Try.sizeOf4
  v4 := Try.zeroValue4
  t5 := Try.underlying5
  a5 := Try.isAgg5
  z5 := Try.sizeOf5
  v5 := Try.zeroValue5
  t9 := Try.underlying9
  a9 := Try.isAgg9
  z9 := Try.sizeOf9
  v9 := Try.zeroValue9
  t22 := Try.underlying46
  a22 := Try.isAgg46
  z22 := Try.sizeOf46
  v22 := Try.zeroValue46
  t25 := Try.underlying138
  a25 := Try.isAgg138
  z25 := Try.sizeOf138
  v25 := Try.zeroValue138
  t39 := Try.underlying155
  a39 := Try.isAgg155
  z39 := Try.sizeOf155
  v39 := Try.zeroValue155
  t45 := Try.underlying198
  a45 := Try.isAgg198
  z45 := Try.sizeOf198
  v45 := Try.zeroValue198
  t46 := Try.underlying199
  a46 := Try.isAgg199
  z46 := Try.sizeOf199
  v46 := Try.zeroValue199
  t50 := Try.underlying143
  a50 := Try.isAgg143
  z50 := Try.sizeOf143
  v50 := Try.zeroValue143
  t53 := Try.underlying205
  a53 := Try.isAgg205
  z53 := Try.sizeOf205
  v53 := Try.zeroValue205
  t55 := Try.underlying207
  a55 := Try.isAgg207
  z55 := Try.sizeOf207
  v55 := Try.zeroValue207
  t66 := Try.underlying219
  a66 := Try.isAgg219
  z66 := Try.sizeOf219
  v66 := Try.zeroValue219
  t70 := Try.underlying223
  a70 := Try.isAgg223
  z70 := Try.sizeOf223
  v70 := Try.zeroValue223
  t76 := Try.underlying230
  a76 := Try.isAgg230
  z76 := Try.sizeOf230
  v76 := Try.zeroValue230
  t77 := Try.underlying231
  a77 := Try.isAgg231
  z77 := Try.sizeOf231
  v77 := Try.zeroValue231 }

theorem Ex.grown {w w' : World} (h : Ex w w') : ∃ q os, w' = Sort.grow (w.drewN q) os := by
  refine ⟨w'.drawn - w.drawn, w'.heap.extract w.heap.size w'.heap.size, ?_⟩
  have hh : w'.heap = w.heap ++ w'.heap.extract w.heap.size w'.heap.size := by
    apply Array.ext_getElem?
    intro k
    rw [Array.getElem?_append]
    by_cases hk : k < w.heap.size
    · rw [if_pos hk, h.block k hk id]
    · rw [if_neg hk, Array.getElem?_extract]
      by_cases hk2 : k < w'.heap.size
      · rw [if_pos (by omega)]; congr 1; omega
      · rw [if_neg (by omega), Array.getElem?_eq_none (by omega)]
  have hd := h.drawn
  cases w; cases w'
  simp only [Sort.grow, World.drewN, World.mk.injEq] at *
  exact ⟨hh, h.tape, by omega, h.os, h.output⟩
theorem flatK_get {k : Nat} {l : List Cell} {j : Nat} (hj : j < l.length * 2) : ((l.map encC).flatten)[j]? = some ((Go.Sort.flatK encC 2 l.toArray)[j]!) := by
  have hq : j / 2 < l.length := by omega
  have hx : l[j / 2]? = some l[j / 2] := List.getElem?_eq_getElem hq
  have hm : (l.map encC)[j / 2]? = some (encC l[j / 2]) := by rw [List.getElem?_map, hx]; rfl
  have h2 := flat_at (k := 2) (es := l.map encC) (by intro x hx; obtain ⟨c, _, rfl⟩ := List.mem_map.1 hx; rfl) hm (Nat.mod_lt j (by decide))
  rw [show j / 2 * 2 + j % 2 = j by omega] at h2
  have hg : (Go.Sort.flatK encC 2 l.toArray)[j]! = (encC (l.toArray[j / 2]!))[j % 2]! := Go.Sort.get_flatK encC 2 l.toArray j (by simpa using hj)
  have e1 : l.toArray[j / 2]! = l[j / 2] := by simp [getElem!_def, hx]
  have hl : j % 2 < (encC l[j / 2]).length := Nat.mod_lt j (by decide)
  rw [hg, h2, e1]
  simp only [getElem!_def, List.getElem?_eq_getElem hl]
theorem sorted_bx {w : World} {b n : Nat} {os : Array Obj} {l m : List Cell} {sp : List (List Value)} (h : Fr w b 55 2 (l.map encC ++ sp)) (hl : m.length = l.length) : Kp (fun q => q = b) w (sortWorldK encC 2 w b 0 n m.toArray os) ∧ Fr (sortWorldK encC 2 w b 0 n m.toArray os) b 55 2 (m.map encC ++ sp) := by
  have hbl := h.lt
  constructor
  · refine ⟨rfl, rfl, rfl, ?_, ?_, ?_⟩
    · simp [sortWorldK, Sort.grow, Sort.putRowK, Sort.putRow, Sort.mapBlock, Sort.ahead]
    · intro k hk hne
      simp only [sortWorldK, Sort.grow, Sort.putRowK, Sort.putRow, Sort.mapBlock, Sort.ahead]
      rw [Array.getElem?_append_left (by simpa using hk), Array.getElem?_modify, if_neg (fun e => hne e.symm)]
    · simp [sortWorldK, Sort.grow, Sort.putRowK, Sort.putRow, Sort.mapBlock, Sort.ahead]
  · have hk2 : ∀ x ∈ m.map encC ++ sp, x.length = 2 := by
      intro x hx
      rcases List.mem_append.1 hx with hx | hx
      · obtain ⟨c, _, rfl⟩ := List.mem_map.1 hx; rfl
      · exact h.1 x (List.mem_append_right _ hx)
    refine ⟨hk2, ?_⟩
    have hb : w.heap[b]? = some (.cells (l.map encC ++ sp).flatten.toArray 55 (0, 0)) := h.2
    show (sortWorldK encC 2 w b 0 n m.toArray os).heap[b]? = _
    simp only [sortWorldK, Sort.grow, Sort.putRowK, Sort.putRow, Sort.mapBlock, Sort.ahead]
    rw [Array.getElem?_append_left (by simpa using hbl), Array.getElem?_modify, if_pos rfl, hb]
    simp only [Option.map_some, Sort.onCells, Option.some.injEq, Obj.cells.injEq, and_true]
    apply Array.ext_getElem?
    intro j
    have e1 : (l.map encC).flatten.length = l.length * 2 := by rw [flatten_length (k := 2) (by intro x hx; obtain ⟨c, _, rfl⟩ := List.mem_map.1 hx; rfl), List.length_map]
    have e2 : (m.map encC).flatten.length = m.length * 2 := by rw [flatten_length (k := 2) (by intro x hx; obtain ⟨c, _, rfl⟩ := List.mem_map.1 hx; rfl), List.length_map]
    simp only [Sort.putCells, Array.getElem?_mapIdx, Go.Sort.size_flatK, List.size_toArray, List.getElem?_toArray, List.flatten_append]
    by_cases hj : j < m.length * 2
    · rw [List.getElem?_append_left (by omega), List.getElem?_append_left (by omega), flatK_get (k := 2) hj]
      have : j < (l.map encC).flatten.length := by omega
      rw [List.getElem?_eq_getElem this]
      simp [hj]
    · rw [List.getElem?_append_right (by omega), List.getElem?_append_right (by omega), e1, e2, hl]
      cases sp.flatten[j - l.length * 2]? with
      | none => rfl
      | some u => simp; omega
theorem ordC_swo : Sort.SWO (ltOf ordC) where
  irrefl x := by have := ltC_irr x; rw [ltC_ord] at this; simpa [ltOf] using this
  trans x y z h1 h2 := by
    simp only [ltOf] at *
    rw [← ltC_ord] at *
    exact ltC_trans h1 h2
  ntrans x y z h1 h2 := by
    simp only [ltOf] at *
    rw [← ltC_ord] at *
    rw [← Bool.not_eq_true, ltC_iff] at *
    omega
theorem c_sortF (w : World) (b : Nat) (l : List Cell) (sp : List (List Value)) (hb : Fr w b 55 2 (l.map encC ++ sp)) (hm : l.length ≤ 4000000) (g : Nat) (hg : Bx w g 140 #[.func (.func 103) #[] #[]]) (hne : g ≠ b) (cap : Nat) :
    Fn Try.prog 101 [.slice (some ⟨b, 0, none⟩) l.length cap, .func (.func 144) #[] #[.pointer (some ⟨g, 0, none⟩)]] w (fun v w' => Kp (fun q => q = b) w w' ∧ Fr w' b 55 2 ((l.mergeSort leC).map encC ++ sp)) := by
  have hH : Sort.HoldsK encC 2 w b 0 l.toArray := by
    intro j hj
    rw [Go.Sort.size_flatK, List.size_toArray] at hj
    have e1 : (l.map encC).flatten.length = l.length * 2 := by rw [flatten_length (k := 2) (by intro x hx; obtain ⟨c, _, rfl⟩ := List.mem_map.1 hx; rfl), List.length_map]
    refine ⟨?_, hb.2.free _⟩
    rw [Nat.zero_add, hb.2.cell, List.getElem?_toArray, List.flatten_append, List.getElem?_append_left (by omega), flatK_get (k := 2) hj]
    rfl
  have hc := AnyQ.slices_SortFunc_total sortC 2 Try.isAgg55 Try.sizeOf55 encC (fun _ => rfl) (fun x v hv => by simp [encC] at hv; rcases hv with rfl | rfl <;> rfl) ordC ordC_swo 144 #[.pointer (some ⟨g, 0, none⟩)] b 0 cap l.toArray w ent_144 (by
    intro m os dk hdk x y
    have hgW : Bx (sortWorldK encC 2 w b 0 m dk os) g 140 #[.func (.func 103) #[] #[]] := by
      have hgl := hg.lt
      show (sortWorldK encC 2 w b 0 m dk os).heap[g]? = _
      simp only [sortWorldK, Sort.grow, Sort.putRowK, Sort.putRow, Sort.mapBlock, Sort.ahead]
      rw [Array.getElem?_append_left (by simpa using hgl), Array.getElem?_modify, if_neg (fun e => hne e.symm)]
      exact hg
    have := c_by1 (sortWorldK encC 2 w b 0 m dk os) x y g hgW
    refine Calls.mono this ?_
    rintro ev w' ⟨v, rfl, rfl, hx⟩
    exact ⟨rfl, hx.grown⟩) hH hb.lt (by simp; omega) (by
      intro x y h1 h2
      simp only [ltOf] at h1 h2
      rw [← ltC_ord] at h1 h2
      rcases ltC_tri x y with h | h | h
      · rw [h] at h1; cases h1
      · exact h
      · rw [h] at h2; cases h2)
  refine Calls.mono hc ?_
  rintro ev w' ⟨rfl, n, os, rfl⟩
  have e : (l.toArray.toList.mergeSort fun x y => !(ltOf ordC) y x) = l.mergeSort leC := by
    congr 1
    funext x y
    simp only [ltOf, leC]
    rw [← ltC_ord]
  rw [e]
  exact ⟨_, rfl, sorted_bx hb (by rw [List.length_mergeSort])⟩
/-- .. of a row of the call's own. -/
theorem c_sort (w : World) (B : Nat) (v : Value) (l : List Cell) (hv : Ow w B 55 v 2 (l.map encC)) (hm : l.length ≤ 4000000) (g : Nat) (hg : Bx w g 140 #[.func (.func 103) #[] #[]]) (hne : ∀ b, v.ownBlock = some b → g ≠ b) :
    Fn Try.prog 101 [v, .func (.func 144) #[] #[.pointer (some ⟨g, 0, none⟩)]] w (fun v' w' => Kp (fun b => v.ownBlock = some b) w w' ∧ Ow w' B 55 v 2 ((l.mergeSort leC).map encC)) := by
  rcases hv.full with ⟨rfl, h0⟩ | ⟨b, fs, rfl, hB, hfr, htk, hle, hmx⟩
  · have hl : l = [] := by simpa using h0
    subst hl
    refine Calls.mono (AnyF.slices_SortFunc_none (P := Try.prog) (ρ := sortC_ren) { sortC with } none 0 _ w) ?_
    rintro ev w' ⟨rfl, rfl⟩
    exact ⟨_, rfl, Kp.refl _ _, by simpa using Ow.nil _ _ _ _⟩
  · rw [List.length_map] at *
    have hfs : fs = l.map encC ++ fs.drop l.length := by rw [← htk, List.take_append_drop]
    rw [hfs] at hfr
    have hcap : fs.length = l.length + (fs.drop l.length).length := by rw [List.length_drop]; omega
    refine (c_sortF w b l _ hfr hm g hg (hne b rfl) fs.length).mono ?_
    rintro v' w' ⟨hk, hf⟩
    refine ⟨hk.mono fun q _ hq => by simp [Value.ownBlock, hq], ?_⟩
    have hln : (l.mergeSort leC).length = l.length := List.length_mergeSort ..
    have ho := hf.ow hB (n := l.length) (by rw [List.length_append, List.length_map]; omega) (by rw [List.length_append, List.length_map]; omega)
    have e1 : ((l.mergeSort leC).map encC ++ fs.drop l.length).length = fs.length := by rw [List.length_append, List.length_map]; omega
    have e2 : ((l.mergeSort leC).map encC ++ fs.drop l.length).take l.length = (l.mergeSort leC).map encC := by
      rw [← hln, ← List.length_map (f := encC), List.take_left]
    rw [e1, e2] at ho
    exact ho
end Go.Proofs.Ythpaadmpgdglnaa
