/- Where the row lies that an append yields. No condition. -/
import Derived.Test.YthpaadmpgdglnaaK6
namespace Go.Proofs.Ythpaadmpgdglnaa
open Go Go.RowKit
theorem append_block {P : Program} (w : World) (base : Nat) (t ty e : TypeId) (i : TypeInfo) (z : Value) (size bytes : Nat) (ht : P.underlying t = some (.slice e)) (hi : P.info? e = some i) (hz : i.zero = some z)
    (hsize : i.size = size) (hby : i.bytes = bytes) (hzs : z.cells.size = size) (hsz : 0 < size)
    (v : Value) (n : Nat) (xs : List Value) (hown : w.ownsRow base e size v n xs)
    (a : Addr) (m c : Nat) (news : List Value) (hl : news.length = m * size) (hnews : ∀ j u, news[j]? = some u → w.cell? (a.add j) = some u) (h1 : ∀ u ∈ news, u.oneCell' = true)
    (h63 : n + m ≤ maxLen) (hbytes : (n + m) * bytes ≤ 140737488355328) {v' : Value} {w' : World} (hr : (Builtin.append_ #[t, t] ty #[v, .slice (some a) m c]).run P w = .ok v' w') :
    ∀ b, v'.ownBlock = some b → v.ownBlock = some b ∨ w.heap.size ≤ b := by
  intro b hb
  rcases hown.2 with ⟨rfl, rfl⟩ | ⟨g, cap, cur, rfl, hbg, hg, hnc, hcm, hcs, htake⟩
  · have hx : xs = [] := List.eq_nil_of_length_eq_zero (by simpa using hown.1)
    subst hx
    obtain ⟨v2, w2, hr2, ho2, _⟩ := run_append_own (P := P) w w.heap.size t ty e i z size bytes ht hi hz hsize hby hzs hsz (.slice none 0 0) 0 [] (World.ownsRow_nil w _ e size) a m c news hl hnews h1 h63 hbytes (Nat.le_refl _)
    rw [hr] at hr2
    simp only [Result.ok.injEq] at hr2
    obtain ⟨rfl, rfl⟩ := hr2
    exact .inr (ho2.lt b hb).1
  · subst hsize
    subst hby
    by_cases hroom : n + m ≤ cap
    · have hfit : n * i.size + news.length ≤ cur.size := by rw [hl, hcs, ← Nat.add_mul]; exact Nat.mul_le_mul_right _ hroom
      have hr2 := run_append_room (P := P) w t ty e i ht hi g n cap cur hg a m c news hl hnews h1 hroom hfit
      rw [hr] at hr2
      simp only [Result.ok.injEq] at hr2
      obtain ⟨rfl, rfl⟩ := hr2
      exact .inl hb
    · have holds : ∀ j u, xs[j]? = some u → w.cell? ((⟨g, 0, none⟩ : Addr).add j) = some u := hown.cells (g := g) rfl
      have hr2 := run_append_grow (P := P) w t ty e i z ht hi hz ⟨g, 0, none⟩ n cap xs hown.1 holds a m c news hl hnews (by omega) (by simp only [maxLen] at h63; omega) (growslice_fits (by omega) hbytes)
      rw [hr] at hr2
      simp only [Result.ok.injEq] at hr2
      obtain ⟨rfl, rfl⟩ := hr2
      simp only [Value.ownBlock, Option.some.injEq] at hb
      exact .inr (by omega)
section
variable {P : Program} {n : Nat} {e : Env} {w : World} {dst : Option Tmp} {ty : TypeId} {pos : String} {after : Array Edge} {guard : Option (Nat × Bool)}
/-- The new row's block is the old one's, or new. -/
def Near (w : World) (v v' : Value) : Prop := ∀ b, v'.ownBlock = some b → v.ownBlock = some b ∨ w.heap.size ≤ b
theorem op_append2 {t E k bytes B : Nat} {x y : Operand} {v u : Value} {es ns : List (List Value)} {A : Nat → Prop} (hrow : elRow P t E k bytes) (hown : Ow w B E v k es) (hsrc : Sl w A u k ns) (h1 : ∀ c ∈ ns.flatten, c.oneCell' = true) (hx : look e x = some v) (hy : look e y = some u)
    (hlen : es.length + ns.length ≤ maxLen) (hby : (es.length + ns.length) * bytes ≤ 140737488355328) (hB : B ≤ w.heap.size) :
    Op1 P n e w ⟨dst, .call ⟨.builtin .append, #[x, y], #[t, t]⟩, ty, pos, after, guard⟩ (fun v' w' => Kp (fun b => v.ownBlock = some b) w w' ∧ Ow w' B E v' k (es ++ ns) ∧ Near w v v') := Op1.of_run fun a ha => by
  obtain ⟨i, z, ht, hi, hz, hs, hb, hzs, hk⟩ := hrow
  obtain ⟨hnk, c, cap, rfl, hcap, hcm, hnone, hcells⟩ := hsrc
  have hkk : ∀ x ∈ es ++ ns, x.length = k := fun x hx => (List.mem_append.1 hx).elim (hown.1 x) (hnk x)
  have flen : ns.flatten.length = ns.length * k := flatten_length hnk
  cases c with
  | none =>
    obtain rfl : cap = 0 := hnone rfl
    obtain rfl : ns = [] := List.eq_nil_of_length_eq_zero (by omega)
    have hr := run_append_owned_none (P := P) w B t ty E i k ht hi v es.length es.flatten hown.2
    refine ⟨v, w, ?_, Kp.refl _ _, by simpa using hown, fun _ h => .inl h⟩
    simp only [execOp, resolve, invoke, List.map_toArray, List.map_cons, List.map_nil, ha.eval hx, ha.eval hy, List.length_nil]
    simp [builtin, hr]
  | some ad =>
    have hcell : ∀ j u, ns.flatten[j]? = some u → w.cell? (ad.add j) = some u := by
      intro j u hu
      rcases hcells with rfl | ⟨b, off, hab, _, _, hc⟩
      · simp at hu
      · simp only [Option.some.injEq] at hab
        subst hab
        rw [add_none]
        have hj : j < ns.length * k := by have := (List.getElem?_eq_some_iff.1 hu).1; omega
        have hd : j = j / k * k + j % k := by rw [Nat.mul_comm]; exact (Nat.div_add_mod j k).symm
        have hq : j / k < ns.length := Nat.div_lt_of_lt_mul (by rw [Nat.mul_comm]; exact hj)
        have hm : j % k < k := Nat.mod_lt _ hk
        rw [hd, hc (j / k) (j % k) ns[j / k] (List.getElem?_eq_getElem hq) hm, ← flat_at hnk (List.getElem?_eq_getElem hq) hm, ← hd]
        exact hu
    obtain ⟨v', w', hr, ho, hg, _⟩ := run_append_own (P := P) w B t ty E i z k bytes ht hi hz hs hb hzs hk v es.length es.flatten hown.2 ad ns.length cap ns.flatten flen hcell h1 hlen hby hB
    have hnear := append_block (P := P) w B t ty E i z k bytes ht hi hz hs hb hzs hk v es.length es.flatten hown.2 ad ns.length cap ns.flatten flen hcell h1 hlen hby hr
    refine ⟨v', w', ?_, (Kp.of_grown hg (run_drawn _ _ _ _ hr)).mono fun b _ hb => hb.symm, ⟨hkk, by simpa using ho⟩, hnear⟩
    simp only [execOp, resolve, invoke, List.map_toArray, List.map_cons, List.map_nil, ha.eval hx, ha.eval hy]
    simp [builtin, hr]
theorem op_app1n {α : Type} {f : α → List Value} {t E k bytes B g m : Nat} {x y : Operand} {v : Value} {l : List α} {c : α} {cs : Array Value} (hrow : elRow P t E k bytes) (hp : Plain f k) (hown : Ow w B E v k (l.map f)) (hb : Bx w g E cs) (hcs : cs.toList = f c)
    (hx : look e x = some v) (hy : look e y = some (.slice (some ⟨g, 0, none⟩) 1 m)) (hm : 1 ≤ m ∧ m ≤ maxLen) (hlen : l.length + 1 ≤ maxLen) (hby : (l.length + 1) * bytes ≤ 140737488355328) (hB : B ≤ w.heap.size) :
    Op1 P n e w ⟨dst, .call ⟨.builtin .append, #[x, y], #[t, t]⟩, ty, pos, after, guard⟩ (fun v' w' => Kp (fun b => v.ownBlock = some b) w w' ∧ Ow w' B E v' k ((l ++ [c]).map f) ∧ Near w v v') := by
  have hk : cs.size = k := by rw [← Array.length_toList, hcs]; exact (hp c).1
  have hs : Sl w (fun _ => True) (.slice (some ⟨g, 0, none⟩) 1 m) k [f c] := by
    have := hb.sl1 (A := fun _ => True) trivial m hm
    rwa [hk, hcs] at this
  have := op_append2 (P := P) (n := n) (e := e) (dst := dst) (ty := ty) (pos := pos) (after := after) (guard := guard) hrow hown hs (by intro u hu; simp only [List.flatten_cons, List.flatten_nil, List.append_nil] at hu; exact (hp c).2 u hu) hx hy (by simpa using hlen) (by simpa using hby) hB
  simpa using this
theorem op_appnn {α : Type} {f : α → List Value} {t E k bytes B : Nat} {x y : Operand} {v u : Value} {l r : List α} {A : Nat → Prop} (hrow : elRow P t E k bytes) (hp : Plain f k) (hown : Ow w B E v k (l.map f)) (hs : Sl w A u k (r.map f))
    (hx : look e x = some v) (hy : look e y = some u) (hlen : l.length + r.length ≤ maxLen) (hby : (l.length + r.length) * bytes ≤ 140737488355328) (hB : B ≤ w.heap.size) :
    Op1 P n e w ⟨dst, .call ⟨.builtin .append, #[x, y], #[t, t]⟩, ty, pos, after, guard⟩ (fun v' w' => Kp (fun b => v.ownBlock = some b) w w' ∧ Ow w' B E v' k ((l ++ r).map f) ∧ Near w v v') := by
  have := op_append2 (P := P) (n := n) (e := e) (dst := dst) (ty := ty) (pos := pos) (after := after) (guard := guard) hrow hown hs (one_encs hp r) hx hy (by simpa using hlen) (by simpa using hby) hB
  simpa using this
/-- Rows of two blocks. -/
def Apart (v u : Value) : Prop := ∀ b, v.ownBlock = some b → ¬ u.ownBlock = some b
theorem Apart.symm {v u : Value} (h : Apart v u) : Apart u v := fun b hu hv => h b hv hu
theorem Apart.nil (u : Value) : Apart (.slice none 0 0) u := fun b h => by simp [Value.ownBlock] at h
theorem Apart.near {w : World} {v u v' : Value} {B : Nat} {E : TypeId} {k : Nat} {es : List (List Value)} (h : Apart v u) (hn : Near w v v') (hu : Ow w B E u k es) : Apart v' u := fun b hv hb =>
  (hn b hv).elim (fun hv => h b hv hb) fun hw => Nat.lt_irrefl _ (Nat.lt_of_lt_of_le (hu.lt b hb).2 hw)
end
end Go.Proofs.Ythpaadmpgdglnaa
