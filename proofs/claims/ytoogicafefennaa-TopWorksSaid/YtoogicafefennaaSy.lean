/-
  The layer 'Sy': an abstract state (slots, base world, own blocks) over the kit's wp, with one rule for each form of code. Nothing of any program is named here.
-/
import Derived.WalkKit
import Derived.WalkLawsBesides
import Derived.Deep.Quiet
import Derived.Deep.LoopGhost
namespace Go.Sy
open Go.RowKit
set_option linter.unusedVariables false
set_option linter.unusedSimpArgs false

abbrev Env := List (Nat × Bool × Value)
abbrev Heap := List (Nat × Obj)

/-- A value that is there only where its guard said yes. -/
def gv (g : Bool) (v : Value) : Value := match g with | true => v | false => undef

def look : Env → Nat → Option (Bool × Value)
  | [], _ => none
  | p :: r, i => match Nat.beq p.1 i with | true => some p.2 | false => look r i

structure Fr (N : Nat) (e : Env) (a : Act) : Prop where
  defers : a.defers = []
  size : a.tmps.size = N
  get : ∀ k g v, look e k = some (g, v) → a.tmps.getD k undef = gv g v

/-- The world: old blocks as in the base world but for the own ones, which hold what the list says. -/
structure Hp (Be : Nat) (w0 : World) (H : Heap) (w : World) : Prop where
  os : w.os = w0.os
  tape : w.tape = w0.tape
  output : w.output = w0.output
  size : w0.heap.size ≤ w.heap.size
  be : Be ≤ w0.heap.size
  old : ∀ k, k < w0.heap.size → (∀ p ∈ H, k ≠ p.1) → w.heap[k]? = w0.heap[k]?
  own : ∀ p ∈ H, w.heap[p.1]? = some p.2
  dist : (H.map Prod.fst).Nodup
  low : ∀ p ∈ H, Be ≤ p.1

theorem Fr.put {N : Nat} {e : Env} {a : Act} {d : Nat} {g : Bool} {v : Value} (h : Fr N e a) (hd : d < N) : Fr N ((d, g, v) :: e) (a.put (some d) (gv g v)) := by
  refine ⟨h.defers, by simp [Act.put, h.size], fun k g' v' hl => ?_⟩
  simp only [look] at hl
  by_cases hk : d = k
  · subst hk
    simp at hl
    obtain ⟨rfl, rfl⟩ := hl
    simp [Act.put, h.size, hd]
  · have : Nat.beq d k = false := by
      cases hb : Nat.beq d k with
      | true => exact absurd (Nat.eq_of_beq_eq_true hb) hk
      | false => rfl
    rw [this] at hl
    have h1 := h.get k g' v' hl
    rw [← h1]
    simp only [Act.put, Array.getD_eq_getD_getElem?, Array.getElem?_setIfInBounds]
    rw [if_neg hk]

theorem Fr.puttrue {N : Nat} {e : Env} {a : Act} {d : Nat} {v : Value} (h : Fr N e a) (hd : d < N) : Fr N ((d, true, v) :: e) (a.put (some d) v) := h.put (g := true) hd

theorem Fr.putnone {N : Nat} {e : Env} {a : Act} {v : Value} (h : Fr N e a) : Fr N e (a.put none v) := h

section hp
variable {Be : Nat} {w0 w w' : World} {H : Heap}

theorem Hp.lt (h : Hp Be w0 H w) {p : Nat × Obj} (hp : p ∈ H) : p.1 < w.heap.size := by
  have := h.own p hp
  exact (Array.getElem?_eq_some_iff.1 this).1

theorem Hp.fresh (h : Hp Be w0 H w) : ∀ p ∈ H, w.heap.size ≠ p.1 := fun p hp e => by have := h.lt hp; omega

theorem Hp.start (w : World) : Hp w.heap.size w [] w :=
  { os := rfl, tape := rfl, output := rfl, size := Nat.le_refl _, be := Nat.le_refl _, old := fun _ _ _ => rfl, own := fun _ h => (by cases h), dist := List.nodup_nil, low := fun _ h => (by cases h) }

theorem Hp.alloc (h : Hp Be w0 H w) (o : Obj) : Hp Be w0 ((w.heap.size, o) :: H) (w.alloc o) := by
  refine ⟨h.os, h.tape, h.output, by have := h.size; simp; omega, h.be, fun k hk hn => ?_, fun p hp => ?_, ?_, fun p hp => ?_⟩
  · rw [Below.heap_alloc _ _ _ (by have := h.size; omega)]
    exact h.old k hk (fun p hp => hn p (.tail _ hp))
  · cases hp with
    | head => exact heap_alloc_new w o
    | tail _ hp => rw [Below.heap_alloc _ _ _ (h.lt hp)]; exact h.own p hp
  · simp only [List.map_cons, List.nodup_cons]
    refine ⟨fun hm => ?_, h.dist⟩
    obtain ⟨p, hp, he⟩ := List.mem_map.1 hm
    exact h.fresh p hp he.symm
  · cases hp with
    | head => have h1 := h.size; have h2 := h.be; simp; omega
    | tail _ hp => exact h.low p hp

/-- A call that leaves all that was there as it was. -/
theorem Hp.below (h : Hp Be w0 H w) (hb : Below w.heap.size w w') : Hp Be w0 H w' := by
  refine ⟨hb.os.trans h.os, hb.tape.trans h.tape, hb.output.trans h.output, Nat.le_trans h.size hb.size, h.be, fun k hk hn => ?_, fun p hp => ?_, h.dist, h.low⟩
  · rw [hb.block k (by have := h.size; omega)]; exact h.old k hk hn
  · rw [hb.block p.1 (h.lt hp)]; exact h.own p hp

theorem Hp.drew (h : Hp Be w0 H w) : Hp Be w0 H { w with drawn := w.drawn + 1 } := ⟨h.os, h.tape, h.output, h.size, h.be, h.old, h.own, h.dist, h.low⟩

/-- What was there when the function began, seen now. -/
theorem Hp.belowBe (h : Hp Be w0 H w) : Below Be w0 w :=
  ⟨h.os, h.tape, h.output, h.size, fun k hk => h.old k (by have := h.be; omega) (fun p hp e => by have := h.low p hp; omega)⟩

theorem Hp.rebase (h : Hp Be w0 H w) : Hp Be w H w :=
  ⟨rfl, rfl, rfl, Nat.le_refl _, Nat.le_trans h.be h.size, fun _ _ _ => rfl, h.own, h.dist, h.low⟩

/-- A call whose world is in the class of the same list: the base may be moved to the world behind it. -/
theorem Hp.rebased (h : Hp Be w0 H w) (hb : Below w.heap.size w w') : Hp Be w' H w' := (h.below hb).rebase

/-- Own blocks that are new since the base may be forgotten. -/
theorem Hp.drop {p : Nat × Obj} (h : Hp Be w0 (p :: H) w) (hg : w0.heap.size ≤ p.1) : Hp Be w0 H w := by
  refine ⟨h.os, h.tape, h.output, h.size, h.be, fun k hk hn => h.old k hk (fun q hq => ?_), fun q hq => h.own q (.tail _ hq), ?_, fun q hq => h.low q (.tail _ hq)⟩
  · cases hq with
    | head => omega
    | tail _ hq => exact hn q hq
  · have := h.dist; simp only [List.map_cons, List.nodup_cons] at this; exact this.2

theorem Hp.perm {H' : Heap} (h : Hp Be w0 H w) (hp : H.Perm H') : Hp Be w0 H' w :=
  ⟨h.os, h.tape, h.output, h.size, h.be, fun k hk hn => h.old k hk (fun p hq => hn p (hp.mem_iff.1 hq)), fun p hq => h.own p (hp.mem_iff.2 hq), (hp.map _).nodup_iff.1 h.dist, fun p hq => h.low p (hp.mem_iff.2 hq)⟩

theorem Hp.cell (h : Hp Be w0 H w) {g : Nat} {cs : Array Value} {T : TypeId} {f : Nat × Nat} (hm : (g, Obj.cells cs T f) ∈ H) (i : Nat) : w.cell? ⟨g, i, none⟩ = cs[i]? := by
  have := h.own _ hm
  simp [World.cell?, this]
end hp

/-- Own blocks of a callee become own blocks of the caller. -/
theorem Hp.append {Be : Nat} {w0 w w' : World} {H Hc : Heap} (h : Hp Be w0 H w) (hc : Hp w.heap.size w Hc w') : Hp Be w0 (Hc ++ H) w' := by
  have hb := hc.belowBe
  have h2 := h.below hb
  refine ⟨h2.os, h2.tape, h2.output, h2.size, h2.be, fun k hk hn => h2.old k hk (fun p hp => hn p (List.mem_append.2 (.inr hp))), fun p hp => ?_, ?_, fun p hp => ?_⟩
  · rcases List.mem_append.1 hp with hp | hp
    · exact hc.own p hp
    · exact h2.own p hp
  · rw [List.map_append, List.nodup_append]
    refine ⟨hc.dist, h2.dist, fun a ha b hb' e => ?_⟩
    obtain ⟨p, hp, rfl⟩ := List.mem_map.1 ha
    obtain ⟨q, hq, rfl⟩ := List.mem_map.1 hb'
    have h3 := hc.low p hp
    have h4 := h.lt hq
    omega
  · rcases List.mem_append.1 hp with hp | hp
    · have h3 := hc.low p hp; have h4 := h.size; have h5 := h.be; omega
    · exact h2.low p hp

/-- An entry, found by the search for instances. -/
class InH (H : Heap) (g : Nat) (o : outParam Obj) : Prop where
  mem : (g, o) ∈ H
instance InH.head {H : Heap} {g : Nat} {o : Obj} : InH ((g, o) :: H) g o := ⟨.head _⟩
instance (priority := low) InH.tail {H : Heap} {g : Nat} {o : Obj} {p : Nat × Obj} [h : InH H g o] : InH (p :: H) g o := ⟨.tail _ h.mem⟩

/-- What a block holds, in every world of the class: an own one, or one that was there before. -/
def Bk (Be : Nat) (w0 : World) (H : Heap) (g : Nat) (o : Obj) : Prop := ∀ w, Hp Be w0 H w → w.heap[g]? = some o
theorem Bk.own {Be : Nat} {w0 : World} {H : Heap} {g : Nat} {o : Obj} (h : (g, o) ∈ H) : Bk Be w0 H g o := fun _ hh => hh.own _ h
theorem Bk.old {Be : Nat} {w0 : World} {H : Heap} {g : Nat} {o : Obj} (h : w0.heap[g]? = some o) (hb : w0.heap.size ≤ Be) : Bk Be w0 H g o := fun _ hh =>
  (hh.belowBe.block g (by have := (Array.getElem?_eq_some_iff.1 h).1; omega)).trans h
theorem Bk.old' {Be : Nat} {w0 : World} {H : Heap} {g : Nat} {o : Obj} (h : w0.heap[g]? = some o) (hb : g < Be) : Bk Be w0 H g o := fun _ hh => (hh.belowBe.block g hb).trans h
theorem Bk.cell {Be : Nat} {w0 w : World} {H : Heap} {g : Nat} {cs : Array Value} {T : TypeId} {f : Nat × Nat} (h : Bk Be w0 H g (.cells cs T f)) (hh : Hp Be w0 H w) (i : Nat) : w.cell? ⟨g, i, none⟩ = cs[i]? := by
  simp [World.cell?, h w hh]

/-- One entry replaced. -/
def Upd (H : Heap) (g : Nat) (o o' : Obj) (H' : Heap) : Prop := ∃ a b, H = a ++ (g, o) :: b ∧ H' = a ++ (g, o') :: b
theorem Upd.here {H : Heap} {g : Nat} {o o' : Obj} : Upd ((g, o) :: H) g o o' ((g, o') :: H) := ⟨[], H, rfl, rfl⟩
theorem Upd.there {H H' : Heap} {g : Nat} {o o' : Obj} {p : Nat × Obj} (h : Upd H g o o' H') : Upd (p :: H) g o o' (p :: H') := by
  obtain ⟨a, b, h1, h2⟩ := h
  exact ⟨p :: a, b, by simp [h1], by simp [h2]⟩
theorem Upd.mem {H H' : Heap} {g : Nat} {o o' : Obj} (h : Upd H g o o' H') : (g, o) ∈ H := by obtain ⟨a, b, rfl, _⟩ := h; simp

theorem Hp.upd {Be : Nat} {w0 w w' : World} {H H' : Heap} {g : Nat} {o o' : Obj} (h : Hp Be w0 H w) (hu : Upd H g o o' H') (hos : w'.os = w.os) (ht : w'.tape = w.tape) (hout : w'.output = w.output)
    (hs : w.heap.size ≤ w'.heap.size) (hk : ∀ k, k < w.heap.size → k ≠ g → w'.heap[k]? = w.heap[k]?) (hg : w'.heap[g]? = some o') : Hp Be w0 H' w' := by
  obtain ⟨a, b, rfl, rfl⟩ := hu
  have hd := h.dist
  have hne : ∀ p, p ∈ a ∨ p ∈ b → p.1 ≠ g := by
    intro p hp he
    simp only [List.map_append, List.map_cons] at hd
    rw [List.nodup_append] at hd
    obtain ⟨_, h2, h3⟩ := hd
    rw [List.nodup_cons] at h2
    rcases hp with hp | hp
    · exact h3 p.1 (List.mem_map_of_mem hp) g (by simp) he
    · exact h2.1 (he ▸ List.mem_map_of_mem hp)
  refine ⟨hos.trans h.os, ht.trans h.tape, hout.trans h.output, Nat.le_trans h.size hs, h.be, fun k hkk hn => ?_, fun p hp => ?_, ?_, fun p hp => ?_⟩
  · have hkg : k ≠ g := hn (g, o') (by simp)
    rw [hk k (by have := h.size; omega) hkg]
    refine h.old k hkk (fun p hp => ?_)
    rcases List.mem_append.1 hp with hp | hp
    · exact hn p (List.mem_append.2 (.inl hp))
    · cases hp with
      | head => exact hkg
      | tail _ hp => exact hn p (List.mem_append.2 (.inr (.tail _ hp)))
  · rcases List.mem_append.1 hp with hp | hp
    · rw [hk p.1 (h.lt (List.mem_append.2 (.inl hp))) (hne p (.inl hp))]
      exact h.own p (List.mem_append.2 (.inl hp))
    · cases hp with
      | head => exact hg
      | tail _ hp =>
        rw [hk p.1 (h.lt (List.mem_append.2 (.inr (.tail _ hp)))) (hne p (.inr hp))]
        exact h.own p (List.mem_append.2 (.inr (.tail _ hp)))
  · simpa using hd
  · rcases List.mem_append.1 hp with hp | hp
    · exact h.low p (List.mem_append.2 (.inl hp))
    · cases hp with
      | head => exact h.low (g, o) (by simp)
      | tail _ hp => exact h.low p (List.mem_append.2 (.inr (.tail _ hp)))

theorem Hp.setCell {Be : Nat} {w0 w : World} {H H' : Heap} {g off : Nat} {cs : Array Value} {T : TypeId} {f : Nat × Nat} {v : Value} (h : Hp Be w0 H w)
    (hu : Upd H g (.cells cs T f) (.cells (cs.setIfInBounds off v) T f) H') : Hp Be w0 H' (w.setCell ⟨g, off, none⟩ v) := by
  have hg : w.heap[g]? = some (.cells cs T f) := h.own _ hu.mem
  refine h.upd hu rfl rfl rfl (by simp) (fun k _ hk => Below.heap_setCell _ _ _ _ hk) ?_
  simp [World.setCell, Array.getElem?_modify, hg]

/-! ### The judgements -/
abbrev Post := Exit → Env → World → Heap → Prop

def lift (N Be : Nat) (Q : Post) : Exit → Act → World → Prop := fun x a w => ∃ e w0 H, Fr N e a ∧ Hp Be w0 H w ∧ Q x e w0 H

def Spc (P : Program) (N Be : Nat) (c : Code) (Q : Post) (e : Env) (w0 : World) (H : Heap) : Prop := ∀ a w, Fr N e a → Hp Be w0 H w → c.wp P (lift N Be Q) a w

def Spl (P : Program) (N Be : Nat) (ops : Array Oper) (Q : Post) (l : List Oper) (e : Env) (w0 : World) (H : Heap) : Prop := ∀ a w, Fr N e a → Hp Be w0 H w → wpList P ops (lift N Be Q) l a w

/-- The same for a region that draws its order. -/
def Spq (P : Program) (N Be : Nat) (ops : Array Oper) (Q : Post) (l : List Oper) (e : Env) (w0 : World) (H : Heap) : Prop :=
  ∀ a, Fr N e a → wpQuiet P ops (Hp Be w0 H) (fun a' => ∀ w', Hp Be w0 H w' → lift N Be Q .normal a' w') l a

def thenQ (K : Env → World → Heap → Prop) (Q : Post) : Post := fun x e w H => match x with | .normal => K e w H | x => Q x e w H
def blockQ (id : Nat) (Q : Post) : Post := fun x e w H => match x with | .exit id' => if id' = id then Q .normal e w H else Q (.exit id') e w H | x => Q x e w H

section rules
variable {P : Program} {N Be : Nat} {Q : Post} {e : Env} {w0 : World} {H : Heap}

theorem Spc.mono {c : Code} {Q' : Post} (h : Spc P N Be c Q e w0 H) (hq : ∀ x e w H, Q x e w H → Q' x e w H) : Spc P N Be c Q' e w0 H :=
  fun a w hf hh => wp_mono (h a w hf hh) fun x a w ⟨e, w0, H, h1, h2, h3⟩ => ⟨e, w0, H, h1, h2, hq _ _ _ _ h3⟩

theorem sp_seq {x y : Code} (h : Spc P N Be x (thenQ (Spc P N Be y Q) Q) e w0 H) : Spc P N Be (.seq x y) Q e w0 H := by
  intro a w hf hh
  refine wp_seq (wp_mono (h a w hf hh) ?_)
  rintro x a w ⟨e, w0, H, h1, h2, h3⟩
  cases x <;> first | exact h3 a w h1 h2 | exact ⟨e, w0, H, h1, h2, h3⟩

theorem sp_skip (h : Q .normal e w0 H) : Spc P N Be .skip Q e w0 H := fun a w hf hh => wp_skip ⟨e, w0, H, hf, hh, h⟩
theorem sp_label {l : Nat} (h : Q .normal e w0 H) : Spc P N Be (.label l) Q e w0 H := fun a w hf hh => wp_label ⟨e, w0, H, hf, hh, h⟩
theorem sp_exit {id : Nat} (h : Q (.exit id) e w0 H) : Spc P N Be (.exit id) Q e w0 H := fun a w hf hh => wp_exit ⟨e, w0, H, hf, hh, h⟩
theorem sp_ret (h : Q .ret e w0 H) : Spc P N Be .ret Q e w0 H := fun a w hf hh => wp_ret ⟨e, w0, H, hf, hh, h⟩

theorem sp_block {id : Nat} {c : Code} (h : Spc P N Be c (blockQ id Q) e w0 H) : Spc P N Be (.block id c) Q e w0 H := by
  intro a w hf hh
  refine wp_block (wp_mono (h a w hf hh) ?_)
  rintro x a w ⟨e, w0, H, h1, h2, h3⟩
  cases x <;> first | exact ⟨e, w0, H, h1, h2, h3⟩ | skip
  rename_i id'
  simp only [blockQ] at h3
  simp only [Exit.inBlock]
  split at h3
  · rename_i he; rw [if_pos he]; exact ⟨e, w0, H, h1, h2, h3⟩
  · rename_i he; rw [if_neg he]; exact ⟨e, w0, H, h1, h2, h3⟩

theorem then_n {K : Env → World → Heap → Prop} (h : K e w0 H) : thenQ K Q .normal e w0 H := h
theorem then_r {K : Env → World → Heap → Prop} (h : Q .ret e w0 H) : thenQ K Q .ret e w0 H := h
theorem then_e {K : Env → World → Heap → Prop} {id : Nat} (h : Q (.exit id) e w0 H) : thenQ K Q (.exit id) e w0 H := h
theorem block_n {id : Nat} (h : Q .normal e w0 H) : blockQ id Q .normal e w0 H := h
theorem block_r {id : Nat} (h : Q .ret e w0 H) : blockQ id Q .ret e w0 H := h
theorem block_here {id : Nat} (h : Q .normal e w0 H) : blockQ id Q (.exit id) e w0 H := by simp only [blockQ, if_true]; exact h
theorem block_past {id id' : Nat} (hne : Nat.beq id' id = false) (h : Q (.exit id') e w0 H) : blockQ id Q (.exit id') e w0 H := by
  have : id' ≠ id := Nat.ne_of_beq_eq_false hne
  simp only [blockQ, if_neg this]; exact h

/-! ### Operands -/
def Ev (G : Bool) (e : Env) (x : Operand) (v : Value) : Prop := ∀ N a, Fr N e a → G = true → a.eval x = v
theorem Ev.tmp {G g : Bool} {t : Nat} {v : Value} (h : look e t = some (g, v)) (hi : G = true → g = true) : Ev G e (.tmp t) v := by
  intro N a hf hG
  have := hf.get t g v h
  rw [hi hG] at this
  exact this
theorem Ev.const {G : Bool} {v : Value} : Ev G e (.const v) v := fun _ _ _ _ => rfl
theorem Ev.glob {G : Bool} {g : Nat} : Ev G e (.global g) (.pointer (some ⟨g, 0, none⟩)) := fun _ _ _ _ => rfl
theorem Ev.func {G : Bool} {f : Nat} : Ev G e (.func f) (.func (.func f) #[] #[]) := fun _ _ _ _ => rfl
theorem Ev.tmpT {G : Bool} {t : Nat} {v : Value} (h : look e t = some (true, v)) : Ev G e (.tmp t) v := Ev.tmp h fun _ => rfl
theorem Ev.tmpG {G : Bool} {t : Nat} {v : Value} (h : look e t = some (G, v)) : Ev G e (.tmp t) v := Ev.tmp h id
theorem Ev.tmpL {G g : Bool} {t : Nat} {v : Value} (h : look e t = some (g, v)) : Ev (g && G) e (.tmp t) v := Ev.tmp h (by intro h; simp only [Bool.and_eq_true] at h; exact h.1)
theorem Ev.tmpLL {G G' g : Bool} {t : Nat} {v : Value} (h : look e t = some (g, v)) : Ev ((g && G) && G') e (.tmp t) v := Ev.tmp h (by intro h; simp only [Bool.and_eq_true] at h; exact h.1.1)
theorem Ev.tmpLLL {G G' G'' g : Bool} {t : Nat} {v : Value} (h : look e t = some (g, v)) : Ev (((g && G) && G') && G'') e (.tmp t) v := Ev.tmp h (by intro h; simp only [Bool.and_eq_true] at h; exact h.1.1.1)

def Evs (G : Bool) (e : Env) (xs : List Operand) (vs : List Value) : Prop := ∀ N a, Fr N e a → G = true → xs.map a.eval = vs
theorem Evs.nil {G : Bool} : Evs G e [] [] := fun _ _ _ _ => rfl
theorem Evs.cons {G : Bool} {x : Operand} {xs : List Operand} {v : Value} {vs : List Value} (h : Ev G e x v) (hs : Evs G e xs vs) : Evs G e (x :: xs) (v :: vs) := by
  intro N a hf hG
  simp only [List.map_cons, h N a hf hG, hs N a hf hG]

/-! ### Guards -/
def Gd (ops : Array Oper) (e : Env) (g : Option (Nat × Bool)) (G : Bool) : Prop := ∀ N a (o : Oper), Fr N e a → o.guard = g → Region.wanted o (yielded ops a.tmps) = G
theorem Gd.none {ops : Array Oper} : Gd ops e .none true := by intro N a o hf hg; simp [Region.wanted, hg]
theorem yielded_of {ops : Array Oper} {j k : Nat} {g x : Bool} {N : Nat} {a : Act} (hf : Fr N e a) (hj : (ops[j]?).bind (·.dst) = some k) (hl : look e k = some (g, .bool x)) :
    yielded ops a.tmps j = if g then some x else Option.none := by
  have h := hf.get k g _ hl
  rw [Array.getD_eq_getD_getElem?] at h
  unfold yielded
  rw [hj]
  simp only [Option.bind_some]
  cases g
  · simp only [gv] at h
    cases ht : a.tmps[k]? with
    | none => simp
    | some v => rw [ht] at h; simp only [Option.getD_some] at h; subst h; simp [undef]
  · simp only [gv] at h
    cases ht : a.tmps[k]? with
    | none => rw [ht] at h; simp [undef] at h
    | some v => rw [ht] at h; simp only [Option.getD_some] at h; subst h; simp
theorem Gd.tt {ops : Array Oper} {j k : Nat} {x : Bool} (hj : (ops[j]?).bind (·.dst) = some k) (hl : look e k = some (true, .bool x)) : Gd ops e (some (j, true)) x := by
  intro N a o hf hg
  simp only [Region.wanted, hg, yielded_of hf hj hl]
  cases x <;> rfl
theorem Gd.tf {ops : Array Oper} {j k : Nat} {x : Bool} (hj : (ops[j]?).bind (·.dst) = some k) (hl : look e k = some (true, .bool x)) : Gd ops e (some (j, false)) (!x) := by
  intro N a o hf hg
  simp only [Region.wanted, hg, yielded_of hf hj hl]
  cases x <;> rfl
theorem Gd.gt {ops : Array Oper} {j k : Nat} {g x : Bool} (hj : (ops[j]?).bind (·.dst) = some k) (hl : look e k = some (g, .bool x)) : Gd ops e (some (j, true)) (g && x) := by
  intro N a o hf hg
  simp only [Region.wanted, hg, yielded_of hf hj hl]
  cases g <;> cases x <;> rfl
theorem Gd.gf {ops : Array Oper} {j k : Nat} {g x : Bool} (hj : (ops[j]?).bind (·.dst) = some k) (hl : look e k = some (g, .bool x)) : Gd ops e (some (j, false)) (g && !x) := by
  intro N a o hf hg
  simp only [Region.wanted, hg, yielded_of hf hj hl]
  cases g <;> cases x <;> rfl

/-! ### One operation that only computes or reads -/
def Ex (P : Program) (Be : Nat) (w0 : World) (H : Heap) (G : Bool) (e : Env) (op : Op) (ty : TypeId) (v : Value) : Prop :=
  ∀ N a w (o : Oper), o.op = op → o.type = ty → Fr N e a → Hp Be w0 H w → G = true → (execOp a.eval o).run P w = .ok (.value v) w

theorem sp_region {id : Nat} {l : List Oper} (h : Spl P N Be l.toArray Q l e w0 H) : Spc P N Be (.region id l.toArray false) Q e w0 H :=
  fun a w hf hh => wp_region_lit (h a w hf hh)

theorem spl_nil {ops : Array Oper} (h : Q .normal e w0 H) : Spl P N Be ops Q [] e w0 H := fun a w hf hh => wpList_nil ⟨e, w0, H, hf, hh, h⟩

section ops
variable {ops : Array Oper} {rest : List Oper} {op : Op} {ty : TypeId} {pos : String} {after : Array Edge} {d : Nat} {v : Value}

theorem spl_pure (hN : Nat.blt d N = true) (hx : Ex P Be w0 H true e op ty v) (k : Spl P N Be ops Q rest ((d, true, v) :: e) w0 H) :
    Spl P N Be ops Q (⟨some d, op, ty, pos, after, none⟩ :: rest) e w0 H := by
  intro a w hf hh
  have hd : d < N := by simpa [Nat.blt_eq] using hN
  refine wpList_plain rfl fun K hK => ?_
  unfold Oper.wp
  rw [hx N a w _ rfl rfl hf hh rfl, Oper.upon_value]
  exact hK _ _ (k _ _ (hf.puttrue hd) hh)

theorem spl_pure_g {g : Option (Nat × Bool)} {G : Bool} (hN : Nat.blt d N = true) (hg : Gd ops e g G) (hx : Ex P Be w0 H G e op ty v) (k : Spl P N Be ops Q rest ((d, G, v) :: e) w0 H) :
    Spl P N Be ops Q (⟨some d, op, ty, pos, after, g⟩ :: rest) e w0 H := by
  intro a w hf hh
  have hd : d < N := by simpa [Nat.blt_eq] using hN
  refine wpList_step fun K hK => ?_
  rw [hg N a _ hf rfl]
  cases hG : G with
  | true =>
    rw [if_pos rfl]
    unfold Oper.wp
    rw [hx N a w _ rfl rfl hf hh hG, Oper.upon_value]
    refine hK _ _ (k _ _ ?_ hh)
    rw [hG]; exact hf.puttrue hd
  | false =>
    rw [if_neg (by simp)]
    refine hK _ _ (k _ _ ?_ hh)
    rw [hG]; exact hf.put (g := false) hd

theorem spq_nil (h : Q .normal e w0 H) : Spq P N Be ops Q [] e w0 H := fun a hf => wpQuiet_nil fun _ hw' => ⟨e, w0, H, hf, hw', h⟩

theorem spq_pure (hN : Nat.blt d N = true) (hx : Ex P Be w0 H true e op ty v) (k : Spq P N Be ops Q rest ((d, true, v) :: e) w0 H) :
    Spq P N Be ops Q (⟨some d, op, ty, pos, after, none⟩ :: rest) e w0 H := by
  intro a hf
  have hd : d < N := by simpa [Nat.blt_eq] using hN
  refine wpQuiet_step fun K hK => ?_
  rw [if_pos (by simp [Region.wanted])]
  refine ⟨v, fun w hw => ?_, hK _ (k _ (hf.puttrue hd))⟩
  unfold Oper.quietAt
  rw [hx N a w _ rfl rfl hf hw rfl]
  exact ⟨rfl, rfl⟩

theorem spq_pure_g {g : Option (Nat × Bool)} {G : Bool} (hN : Nat.blt d N = true) (hg : Gd ops e g G) (hx : Ex P Be w0 H G e op ty v) (k : Spq P N Be ops Q rest ((d, G, v) :: e) w0 H) :
    Spq P N Be ops Q (⟨some d, op, ty, pos, after, g⟩ :: rest) e w0 H := by
  intro a hf
  have hd : d < N := by simpa [Nat.blt_eq] using hN
  refine wpQuiet_step fun K hK => ?_
  rw [hg N a _ hf rfl]
  cases hG : G with
  | true =>
    rw [if_pos rfl]
    refine ⟨v, fun w hw => ?_, hK _ (k _ ?_)⟩
    · unfold Oper.quietAt
      rw [hx N a w _ rfl rfl hf hw hG]
      exact ⟨rfl, rfl⟩
    · rw [hG]; exact hf.puttrue hd
  | false =>
    rw [if_neg (by simp)]
    refine hK _ (k _ ?_)
    rw [hG]; exact hf.put (g := false) hd

theorem sp_draw {id : Nat} {l : List Oper} (hm : P.follows .mixedOrders = true) (hB : Region.lexB .any l.toArray = true) (h : Spq P N Be l.toArray Q l e w0 H) : Spc P N Be (.region id l.toArray true) Q e w0 H := by
  intro a w hf hh
  refine wp_region_quiet hm hB (C := Hp Be w0 H) hh.drew ?_
  have h' := h a hf
  simpa using h'
end ops

/-! ### Tests, loops -/
theorem sp_cond {c : Operand} {x y : Code} {b : Bool} (hc : Ev true e c (.bool b)) (ht : b = true → Spc P N Be x Q e w0 H) (hf : b = false → Spc P N Be y Q e w0 H) : Spc P N Be (.cond c x y) Q e w0 H :=
  fun a w h1 h2 => wp_cond_split (hc N a h1 rfl) (fun hb => ht hb a w h1 h2) (fun hb => hf hb a w h1 h2)
theorem sp_cond_t {c : Operand} {x y : Code} {b : Bool} (hc : Ev true e c (.bool b)) (hb : b = true) (ht : Spc P N Be x Q e w0 H) : Spc P N Be (.cond c x y) Q e w0 H :=
  sp_cond hc (fun _ => ht) (fun h => by rw [hb] at h; cases h)
theorem sp_cond_f {c : Operand} {x y : Code} {b : Bool} (hc : Ev true e c (.bool b)) (hb : b = false) (hf : Spc P N Be y Q e w0 H) : Spc P N Be (.cond c x y) Q e w0 H :=
  sp_cond hc (fun h => by rw [hb] at h; cases h) (fun _ => hf)
/-- A test on a proposition. -/
theorem sp_cond_p {c : Operand} {x y : Code} {p : Prop} [Decidable p] (hc : Ev true e c (.bool (decide p))) (ht : p → Spc P N Be x Q e w0 H) (hf : ¬ p → Spc P N Be y Q e w0 H) : Spc P N Be (.cond c x y) Q e w0 H :=
  sp_cond hc (fun h => ht (of_decide_eq_true h)) (fun h => hf (of_decide_eq_false h))

/-- Of the slots only some are still known. -/
def ESub (e e' : Env) : Prop := ∀ k g v, look e k = some (g, v) → look e' k = some (g, v)
theorem ESub.nil : ESub [] e := fun _ _ _ h => by cases h
theorem ESub.cons {e' : Env} {k : Nat} {g : Bool} {v : Value} (h : look e' k = some (g, v)) (hs : ESub e e') : ESub ((k, g, v) :: e) e' := by
  intro k' g' v' hl
  simp only [look] at hl
  cases hb : Nat.beq k k' with
  | true => rw [hb] at hl; cases Nat.eq_of_beq_eq_true hb; cases hl; exact h
  | false => rw [hb] at hl; exact hs _ _ _ hl
theorem Fr.sub {e' : Env} {a : Act} (h : Fr N e' a) (hs : ESub e e') : Fr N e a := ⟨h.defers, h.size, fun k g v hl => h.get k g v (hs k g v hl)⟩

/-- Of the own blocks only some are still known: what is forgotten is new since the base. -/
def HKeep (w0 : World) (H H' : Heap) : Prop := ∃ D : Heap, H'.Perm (D ++ H) ∧ ∀ p ∈ D, w0.heap.size ≤ p.1
theorem HKeep.nil : HKeep w0 [] [] := ⟨[], .refl _, fun _ h => by cases h⟩
theorem HKeep.refl : HKeep w0 H H := ⟨[], .refl _, fun _ h => by cases h⟩
theorem HKeep.keep {H' : Heap} {p : Nat × Obj} (h : HKeep w0 H H') : HKeep w0 (p :: H) (p :: H') := by
  obtain ⟨D, h1, h2⟩ := h
  exact ⟨D, (h1.cons p).trans List.perm_middle.symm, h2⟩
theorem HKeep.drop {H' : Heap} {p : Nat × Obj} (hp : w0.heap.size ≤ p.1) (h : HKeep w0 H H') : HKeep w0 H (p :: H') := by
  obtain ⟨D, h1, h2⟩ := h
  exact ⟨p :: D, (h1.cons p), fun q hq => by cases hq with | head => exact hp | tail _ hq => exact h2 q hq⟩
theorem Hp.sub {H' : Heap} {w : World} (h : Hp Be w0 H' w) (hs : HKeep w0 H H') : Hp Be w0 H w := by
  obtain ⟨D, h1, h2⟩ := hs
  have h := h.perm h1
  clear h1
  induction D with
  | nil => exact h
  | cons p D ih => exact ih (fun q hq => h2 q (.tail _ hq)) (h.drop (h2 p (.head _)))

/-- Known less. -/
theorem Spc.weaken {c : Code} {e' : Env} {H' : Heap} (h : Spc P N Be c Q e w0 H) (he : ESub e e') (hH : HKeep w0 H H') : Spc P N Be c Q e' w0 H' :=
  fun a w hf hh => h a w (hf.sub he) (hh.sub hH)

/-- A loop: a family of states, a measure, and that each round comes to a state of the family with a smaller measure, or leaves. -/
theorem sp_loop {c : Code} {X : Type} (E : X → Env) (W : X → World) (HH : X → Heap) (I : X → Prop) (m : X → Nat) (x0 : X) (h0 : I x0) (he : ESub (E x0) e) (hw : W x0 = w0) (hH : HKeep w0 (HH x0) H)
    (round : ∀ x, I x → Spc P N Be c (thenQ (fun e' w' H' => ∃ x', I x' ∧ m x' < m x ∧ ESub (E x') e' ∧ W x' = w' ∧ HKeep w' (HH x') H') Q) (E x) (W x) (HH x)) : Spc P N Be (.loop c) Q e w0 H := by
  intro a w hf hh
  subst hw
  refine wp_loop_ghost (fun n a w => ∃ x, m x = n ∧ I x ∧ Fr N (E x) a ∧ Hp Be (W x) (HH x) w) (m x0) ⟨x0, rfl, h0, hf.sub he, hh.sub hH⟩ ?_
  rintro n a w ⟨x, rfl, hI, hf, hh⟩
  refine wp_mono (round x hI a w hf hh) ?_
  rintro ex a' w' ⟨e', w0', H', h1, h2, h3⟩
  cases ex <;> first | exact ⟨e', w0', H', h1, h2, h3⟩ | skip
  obtain ⟨x', hI', hm, hs, hW, hH'⟩ := h3
  subst hW
  exact ⟨m x', hm, x', rfl, hI', h1.sub hs, h2.sub hH'⟩

/-! ### A function: its entry, its results -/
def envOf : Nat → List Value → Env
  | _, [] => []
  | k, v :: vs => (k, true, v) :: envOf (k + 1) vs
theorem look_envOf : ∀ (vs : List Value) (k i : Nat) (g : Bool) (v : Value), look (envOf k vs) i = some (g, v) → g = true ∧ k ≤ i ∧ vs[i - k]? = some v
  | [], _, _, _, _, h => by cases h
  | u :: vs, k, i, g, v, h => by
    simp only [envOf, look] at h
    cases hb : Nat.beq k i with
    | true =>
      rw [hb] at h
      cases Nat.eq_of_beq_eq_true hb
      cases h
      exact ⟨rfl, Nat.le_refl _, by simp⟩
    | false =>
      rw [hb] at h
      obtain ⟨h1, h2, h3⟩ := look_envOf vs (k + 1) i g v h
      refine ⟨h1, by omega, ?_⟩
      rw [show i - k = (i - (k + 1)) + 1 by omega, List.getElem?_cons_succ]
      exact h3

/-- What a function's results read as in the end. -/
def Res (rs : Array ResultVar) (P : Program) (Be : Nat) (e : Env) (w0 : World) (H : Heap) (v : Value) : Prop :=
  ∀ N a w (fn : Func), fn.results = rs → Fr N e a → Hp Be w0 H w → (results fn a.tmps).run P w = .ok v w

def retQ (P : Program) (fn : Func) (Be : Nat) (R : Ending → World → Prop) : Post := fun x e w0 H =>
  match x with
  | .ret | .normal => ∃ v, Res fn.results P Be e w0 H v ∧ ∀ w', Hp Be w0 H w' → R (.returned v) w'
  | _ => False

theorem sp_enter {f : FuncId} {fn : Func} {c : Code} {vs : List Value} {w : World} {R : Ending → World → Prop} (hf : P.funcs[f]? = some fn) (hb : fn.body = some c) (hN : fn.ntmps = N) (hl : Nat.ble vs.length N = true)
    (h : Spc P N w.heap.size c (retQ P fn w.heap.size R) (envOf 0 vs) w []) : Calls P f vs.toArray w R := by
  refine calls_of_wp hf hb (wp_mono (h _ w ?_ (Hp.start w)) ?_)
  · have hl' : vs.length ≤ N := Nat.le_of_ble_eq_true hl
    refine ⟨rfl, by simp [hN]; omega, fun k g v hk => ?_⟩
    obtain ⟨rfl, _, h3⟩ := look_envOf vs 0 k g v hk
    simp only [Nat.sub_zero] at h3
    have hk : k < vs.length := (List.getElem?_eq_some_iff.1 h3).1
    simp [Array.getElem?_append, hk, gv]
    have := (List.getElem?_eq_some_iff.1 h3).2
    simpa using this
  · rintro x a w' ⟨e, w0, H, h1, h2, h3⟩
    cases x with
    | normal => obtain ⟨v, hv, hR⟩ := h3; exact ⟨h1.defers, v, hv _ _ _ fn rfl h1 h2, hR w' h2⟩
    | ret => obtain ⟨v, hv, hR⟩ := h3; exact ⟨h1.defers, v, hv _ _ _ fn rfl h1 h2, hR w' h2⟩
    | exit _ => exact h3.elim
    | goto _ => exact h3.elim
    | panic _ => exact h3.elim
    | outgrown => exact h3.elim

theorem Res.one {t : Tmp} {v : Value} (h : look e t = some (true, v)) : Res #[.tmp t] P Be e w0 H v := by
  intro N a w fn hr hf hh
  rw [results_tmp hr]
  have := hf.get t true v h
  simp only [gv] at this
  rw [this]
theorem Res.two {t u : Tmp} {v v' : Value} (h : look e t = some (true, v)) (h' : look e u = some (true, v')) : Res #[.tmp t, .tmp u] P Be e w0 H (.tuple #[v, v']) := by
  intro N a w fn hr hf hh
  rw [results_tmp2 hr]
  have h1 := hf.get t true v h
  have h2 := hf.get u true v' h'
  simp only [gv] at h1 h2
  rw [h1, h2]
theorem Res.none_ : Res #[] P Be e w0 H (.tuple #[]) := by
  intro N a w fn hr hf hh
  rw [results_none hr]

/-- What one result reads as. -/
def rv (tmps : Array Value) : ResultVar → Sem Value
  | .tmp t => pure (tmps.getD t undef)
  | .cell a t => do loadVar t (← asAddr (tmps.getD a undef))
theorem results_rv (fn : Func) (tmps : Array Value) : results fn tmps = (do let vs ← fn.results.mapM (rv tmps); pure (if h : vs.size = 1 then vs[0] else .tuple vs)) := by
  unfold results
  congr 1
def Res1 (r : ResultVar) (P : Program) (Be : Nat) (e : Env) (w0 : World) (H : Heap) (v : Value) : Prop :=
  ∀ N a w, Fr N e a → Hp Be w0 H w → (rv a.tmps r).run P w = .ok v w
theorem Res1.tmp {t : Tmp} {v : Value} (h : look e t = some (true, v)) : Res1 (.tmp t) P Be e w0 H v := by
  intro N a w hf hh
  have := hf.get t true v h
  simp only [gv] at this
  simp only [rv, Sem.run_pure, this]
theorem Res.ofOne {r : ResultVar} {v : Value} (h : Res1 r P Be e w0 H v) : Res #[r] P Be e w0 H v := by
  intro N a w fn hr hf hh
  have h1 := h N a w hf hh
  rw [results_rv, hr]
  simp [h1]
theorem Res.ofTwo {r r' : ResultVar} {v v' : Value} (h : Res1 r P Be e w0 H v) (h' : Res1 r' P Be e w0 H v') : Res #[r, r'] P Be e w0 H (.tuple #[v, v']) := by
  intro N a w fn hr hf hh
  have h1 := h N a w hf hh
  have h2 := h' N a w hf hh
  rw [results_rv, hr]
  simp [h1, h2]
theorem Res.ofThree {r r' r'' : ResultVar} {v v' v'' : Value} (h : Res1 r P Be e w0 H v) (h' : Res1 r' P Be e w0 H v') (h'' : Res1 r'' P Be e w0 H v'') : Res #[r, r', r''] P Be e w0 H (.tuple #[v, v', v'']) := by
  intro N a w fn hr hf hh
  have h1 := h N a w hf hh
  have h2 := h' N a w hf hh
  have h3 := h'' N a w hf hh
  rw [results_rv, hr]
  simp [h1, h2, h3]
end rules
end Go.Sy
