/-
  The layer 'Sy', data: a row of elements in memory.
-/
import Derived.Test.YtoogicafefennaaSf
namespace Go.Sy
open Go.RowKit
set_option linter.unusedVariables false
set_option linter.unusedSimpArgs false

/-- A slice value. -/
structure Sl where
  a : Option Addr
  n : Nat
  c : Nat
def Sl.v (s : Sl) : Value := .slice s.a s.n s.c

/-- The elements xs, each of sz cells, lie behind the address, in blocks below Be. -/
structure RdS {α : Type} (w : World) (Be sz : Nat) (C : α → Array Value) (A : Option Addr) (n : Nat) (xs : List α) : Prop where
  len : xs.length = n
  bound : n ≤ 9223372036854775807
  elems : ∀ i x, xs[i]? = some x → ∃ ad, A = some ad ∧ ad.block < Be ∧ (C x).size = sz ∧ ∀ j v, (C x)[j]? = some v → w.cell? ((ad.add (i * sz)).add j) = some v

section
variable {α : Type} {w w' : World} {Be Be' sz : Nat} {C : α → Array Value} {A : Option Addr} {n : Nat} {xs : List α}
theorem block_add (a : Addr) (n : Nat) : (a.add n).block = a.block := by unfold Addr.add; split <;> rfl
theorem RdS.keep (h : RdS w Be sz C A n xs) (hk : ∀ p : Addr, p.block < Be → w'.cell? p = w.cell? p) : RdS w' Be sz C A n xs :=
  ⟨h.len, h.bound, fun i x hx => by
    obtain ⟨ad, e, hb, hs, hc⟩ := h.elems i x hx
    exact ⟨ad, e, hb, hs, fun j v hj => (hk _ (by rw [block_add, block_add]; exact hb)).trans (hc j v hj)⟩⟩
theorem RdS.more (h : RdS w Be sz C A n xs) (hB : Be ≤ Be') : RdS w Be' sz C A n xs :=
  ⟨h.len, h.bound, fun i x hx => by
    obtain ⟨ad, e, hb, hs, hc⟩ := h.elems i x hx
    exact ⟨ad, e, by omega, hs, hc⟩⟩
theorem RdS.below (h : RdS w Be sz C A n xs) (hb : Below Be w w') : RdS w' Be sz C A n xs := h.keep fun _ hp => hb.cell hp
/-- In whatever world of the class. -/
theorem RdS.hp {w0 : World} {H : Heap} (h : RdS w0 Be sz C A n xs) (hh : Hp Be w0 H w) : RdS w Be sz C A n xs := h.below hh.belowBe
theorem RdS.hp' {w0 : World} {H : Heap} (h : RdS w0 Be sz C A n xs) (hh : Hp Be w0 H w) : RdS w w.heap.size sz C A n xs := (h.hp hh).more (Nat.le_trans hh.be hh.size)
theorem RdS.to {w1 : World} (h : RdS w w.heap.size sz C A n xs) (hb : Below w.heap.size w w1) : RdS w1 w1.heap.size sz C A n xs := (h.below hb).more hb.size
theorem RdS.at_ (h : RdS w Be sz C A n xs) {i : Nat} (hi : i < n) : ∃ ad x, A = some ad ∧ ad.block < Be ∧ xs[i]? = some x ∧ (C x).size = sz ∧ ∀ j v, (C x)[j]? = some v → w.cell? ((ad.add (i * sz)).add j) = some v := by
  have hl : i < xs.length := by rw [h.len]; exact hi
  obtain ⟨ad, e, hb, hs, hc⟩ := h.elems i xs[i] (List.getElem?_eq_getElem hl)
  exact ⟨ad, xs[i], e, hb, List.getElem?_eq_getElem hl, hs, hc⟩
theorem RdS.none_ : RdS w Be sz C A 0 ([] : List α) := ⟨rfl, by omega, fun i x h => by simp at h⟩
/-- A row of the call's own. -/
theorem RdS.ofBlock {g : Nat} {cs : Array Value} {T : TypeId} {f : Nat × Nat} (hg : w.heap[g]? = some (.cells cs T f)) (hB : g < Be) (hl : xs.length = n) (hn : n ≤ 9223372036854775807) (hs : ∀ x ∈ xs, (C x).size = sz)
    (hc : ∀ i x, xs[i]? = some x → ∀ j v, (C x)[j]? = some v → cs[i * sz + j]? = some v) : RdS w Be sz C (some ⟨g, 0, none⟩) n xs :=
  ⟨hl, hn, fun i x hx => ⟨_, rfl, hB, hs x (List.mem_of_getElem? hx), fun j v hj => by
    rw [addr_add0, addr_add]
    simp only [World.cell?, hg]
    exact hc i x hx j v hj⟩⟩
end
/-- The first places of a slice. -/
theorem RdS.take {α : Type} {w : World} {Be sz : Nat} {C : α → Array Value} {A : Option Addr} {n : Nat} {xs : List α} (h : RdS w Be sz C A n xs) {k : Nat} (hk : k ≤ n) : RdS w Be sz C A k (xs.take k) :=
  ⟨by rw [List.length_take, h.len]; omega, by have := h.bound; omega, fun i x hx => h.elems i x (by rw [List.getElem?_take] at hx; split at hx <;> simp_all)⟩

/-- Where the first element lies for which p holds; -1 if there is none. -/
def idx {α : Type} (xs : List α) (p : α → Bool) : Int := match xs.findIdx? p with | some i => (i : Int) | none => -1
theorem idx_none {α : Type} {xs : List α} {p : α → Bool} {k : Nat} (h : (xs.take k).any p = false) (hk : xs.length ≤ k) : idx xs p = -1 := by
  rw [List.take_of_length_le hk] at h
  unfold idx
  have : xs.findIdx? p = none := by rw [List.findIdx?_eq_none_iff]; intro x hx; have := List.any_eq_false.1 h x hx; simpa using this
  rw [this]
theorem idx_hit {α : Type} {xs : List α} {p : α → Bool} {k : Nat} {x : α} (h : (xs.take k).any p = false) (hx : xs[k]? = some x) (hp : p x = true) : idx xs p = k := by
  obtain ⟨hk, hx'⟩ := List.getElem?_eq_some_iff.1 hx
  unfold idx
  have : xs.findIdx? p = some k := by
    rw [List.findIdx?_eq_some_iff_getElem]
    refine ⟨hk, by rw [hx']; exact hp, fun j hj => ?_⟩
    have := List.any_eq_false.1 h xs[j] (by rw [List.mem_take_iff_getElem]; exact ⟨j, by omega, rfl⟩)
    simpa using this
  rw [this]
theorem any_miss {α : Type} {xs : List α} {p : α → Bool} {k : Nat} {x : α} (h : (xs.take k).any p = false) (hx : xs[k]? = some x) (hp : p x = false) : (xs.take (k + 1)).any p = false := by
  rw [List.take_add_one, hx]
  simp [h, hp]
theorem any_hit {α : Type} {xs : List α} {p : α → Bool} {k : Nat} {x : α} (hx : xs[k]? = some x) (hp : p x = true) : xs.any p = true := List.any_eq_true.2 ⟨x, List.mem_of_getElem? hx, hp⟩
theorem any_full {α : Type} {xs : List α} {p : α → Bool} {k : Nat} (h : (xs.take k).any p = false) (hk : xs.length ≤ k) : xs.any p = false := by rwa [List.take_of_length_le hk] at h
theorem Hp.ownB {Be : Nat} {w0 w w' : World} {H : Heap} {g : Nat} {o : Obj} (hh : Hp Be w0 H w) (hm : (g, o) ∈ H) (hb : Below w.heap.size w w') : w'.heap[g]? = some o := (hb.block g (hh.lt hm)).trans (hh.own _ hm)
theorem old_block {w w' : World} {g : Nat} {o : Obj} (h : w.heap[g]? = some o) (hb : Below w.heap.size w w') : w'.heap[g]? = some o := (hb.block g (Array.getElem?_eq_some_iff.1 h).1).trans h
theorem idx_cases {α : Type} (xs : List α) (p : α → Bool) : (xs.find? p = none ∧ idx xs p = -1) ∨ ∃ (k : Nat) (x : α), xs.find? p = some x ∧ idx xs p = k ∧ xs[k]? = some x ∧ k < xs.length := by
  unfold idx
  cases h : xs.findIdx? p with
  | none => 
    refine .inl ⟨?_, rfl⟩
    rw [List.findIdx?_eq_none_iff] at h
    rw [List.find?_eq_none]
    intro x hx
    simp [h x hx]
  | some k =>
    obtain ⟨hk, hp, hno⟩ := List.findIdx?_eq_some_iff_getElem.1 h
    refine .inr ⟨k, xs[k], ?_, rfl, List.getElem?_eq_getElem hk, hk⟩
    rw [List.find?_eq_some_iff_getElem]
    exact ⟨hp, k, hk, rfl, fun j hj => by simpa using hno j hj⟩
theorem flatMap_get {α β : Type} {f : α → List β} {sz : Nat} : ∀ (xs : List α), (∀ x ∈ xs, (f x).length = sz) → ∀ i x, xs[i]? = some x → ∀ j v, (f x)[j]? = some v → (xs.flatMap f)[i * sz + j]? = some v
  | [], _, i, x, h, _, _, _ => by simp at h
  | y :: ys, hs, 0, x, h, j, v, hj => by
    simp at h; subst h
    have : j < (f y).length := (List.getElem?_eq_some_iff.1 hj).1
    rw [List.flatMap_cons, List.getElem?_append_left (by omega)]
    simpa using hj
  | y :: ys, hs, i + 1, x, h, j, v, hj => by
    have hy := hs y (by simp)
    rw [List.flatMap_cons, List.getElem?_append_right (by rw [hy, Nat.add_mul]; omega), hy, show (i + 1) * sz + j - sz = i * sz + j by rw [Nat.add_mul]; omega]
    exact flatMap_get ys (fun x hx => hs x (by simp [hx])) i x (by simpa using h) j v hj
theorem RdS.ofFlat {α : Type} {w : World} {Be sz : Nat} {C : α → Array Value} {n : Nat} {xs : List α} {g : Nat} {cs : Array Value} {T : TypeId} {f : Nat × Nat} (hg : w.heap[g]? = some (.cells cs T f)) (hB : g < Be) (hl : xs.length = n) (hn : n ≤ 9223372036854775807) (hs : ∀ x ∈ xs, (C x).size = sz)
    (hc : cs.toList = xs.flatMap fun x => (C x).toList) : RdS w Be sz C (some ⟨g, 0, none⟩) n xs :=
  RdS.ofBlock hg hB hl hn hs fun i x hx j v hj => by
    have := flatMap_get (f := fun x => (C x).toList) (sz := sz) xs (fun x hx => by simpa using hs x hx) i x hx j v (by simpa using hj)
    rw [← hc] at this
    simpa using this
theorem Hp.ownI {Be : Nat} {w0 w : World} {H : Heap} {g : Nat} {o : Obj} (hh : Hp Be w0 H w) [h : InH H g o] : w.heap[g]? = some o := hh.own _ h.mem
theorem Hp.ltI {Be : Nat} {w0 w : World} {H : Heap} {g : Nat} {o : Obj} (hh : Hp Be w0 H w) [h : InH H g o] : g < w.heap.size := hh.lt h.mem
theorem take_split {α : Type} {ps : List α} {k : Nat} {x : α} (hx : ps[k]? = some x) : ps = ps.take k ++ x :: ps.drop (k + 1) := by
  obtain ⟨h1, h2⟩ := List.getElem?_eq_some_iff.1 hx
  rw [← h2, List.getElem_cons_drop, List.take_append_drop]
theorem take_succ {α : Type} {ps : List α} {k : Nat} {x : α} (hx : ps[k]? = some x) : ps.take (k + 1) = ps.take k ++ [x] := by
  rw [List.take_add_one, hx]; rfl
section
variable {P : Program} {Be : Nat} {w0 : World} {H : Heap} {G : Bool} {e : Env} {ty : TypeId} {α : Type} {sz : Nat} {C : α → Array Value}
/-- An element, whole. -/
theorem ex_loadelem {t : TypeId} {x : Operand} {ad : Addr} {i n : Nat} {xs : List α} {y : α} (h : Ev G e x (.pointer (some (ad.add (i * sz))))) {A : Option Addr} (hr : RdS w0 Be sz C A n xs) (hA : A = some ad) (hy : xs[i]? = some y) [TAgg P t] [hs : TSize P t sz] : Ex P Be w0 H G e (.load t x) ty (.agg (C y)) := by
  subst hA
  obtain ⟨ad', e', hb, hsz, hc⟩ := hr.elems i y hy
  cases e'
  refine ex_loadn h hsz fun w hh j v hj => ?_
  rw [hh.belowBe.cell (by rw [block_add, block_add]; exact hb)]
  exact hc j v hj
/-- A field of an element. -/
theorem ex_loadfield {t : TypeId} {x : Operand} {ad : Addr} {i k n : Nat} {xs : List α} {y : α} {v : Value} (h : Ev G e x (.pointer (some ((ad.add (i * sz)).add k)))) {A : Option Addr} (hr : RdS w0 Be sz C A n xs) (hA : A = some ad) (hy : xs[i]? = some y) (hv : (C y)[k]? = some v) [TCell P t] : Ex P Be w0 H G e (.load t x) ty v := by
  subst hA
  obtain ⟨ad', e', hb, hsz, hc⟩ := hr.elems i y hy
  cases e'
  refine ex_load1 h fun w hh => ?_
  rw [hh.belowBe.cell (by rw [block_add, block_add]; exact hb)]
  exact hc k v hv
end
/-! Short names for the tactic blocks. -/
section
variable {e : Env} {G G' G'' g : Bool} {t : Nat} {v : Value}
theorem eT (h : look e t = some (true, v)) : Ev G e (.tmp t) v := Ev.tmpT h
theorem eC : Ev G e (.const v) v := Ev.const
theorem eG (h : look e t = some (G, v)) : Ev G e (.tmp t) v := Ev.tmpG h
theorem eL (h : look e t = some (g, v)) : Ev (g && G) e (.tmp t) v := Ev.tmpL h
theorem eLL (h : look e t = some (g, v)) : Ev ((g && G) && G') e (.tmp t) v := Ev.tmpLL h
theorem eLLL (h : look e t = some (g, v)) : Ev (((g && G) && G') && G'') e (.tmp t) v := Ev.tmpLLL h
theorem eF {f : Nat} : Ev G e (.func f) (.func (.func f) #[] #[]) := Ev.func
theorem eGl {f : Nat} : Ev G e (.global f) (.pointer (some ⟨f, 0, none⟩)) := Ev.glob
theorem eN : Evs G e [] [] := Evs.nil
theorem eS {x : Operand} {xs : List Operand} {vs : List Value} (h : Ev G e x v) (hs : Evs G e xs vs) : Evs G e (x :: xs) (v :: vs) := Evs.cons h hs
end
end Go.Sy
