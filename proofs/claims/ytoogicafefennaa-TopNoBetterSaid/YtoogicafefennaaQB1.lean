/-
  The layer 'Sy': an abstract state (slots, base world, own blocks) over the kit's wp, with one rule for each form of code. Nothing of any program is named here.
-/
import Derived.WalkKit
import Derived.WalkLawsBesides
import Derived.Deep.Quiet
import Derived.Deep.LoopGhost
import Derived.Test.YtoogicafefennaaChecked
import Derived.KernelRfl
import Derived.ProofKit
import Derived.OpenShut
import Derived.ShutString
import Derived.ChangeOld
import Derived.Carry
import Derived.Deep.Slices
import Derived.Deep.AppendSrc
import Derived.Laws.IdiomCopy
import Derived.Laws.Append
import Derived.Orders
import Derived.Still
import Derived.Laws.BytesArg
import Derived.Laws.IdiomStrings
import Derived.Laws.MakeOwn
import Derived.Laws.Strings2
import Derived.Laws.BitsAllLaws
import Derived.MapKept
namespace Go.Sy
set_option linter.unusedVariables false
open Go.RowKit
set_option linter.unusedVariables false
set_option linter.unusedSimpArgs false

abbrev Env := List (Nat × Bool × Value)
abbrev Heap := List (Nat × Obj)

/-- A value that is there only where its guard said yes. -/
def gv (g : Bool) (v : Value) : Value := match g with | true => v | false => undef

def look : Env → Nat → Option (Bool × Value)
  | [], _ => none
  | p :: r, i => match Nat.beq p.1 i with | true => some p.2 | false => look r i

structure Fr (N : Nat) (e : Env) (a : Act) : Prop where
  defers : a.defers = []
  size : a.tmps.size = N
  get : ∀ k g v, look e k = some (g, v) → a.tmps.getD k undef = gv g v

/-- The world: old blocks as in the base world but for the own ones, which hold what the list says. -/
structure Hp (Be : Nat) (w0 : World) (H : Heap) (w : World) : Prop where
  os : w.os = w0.os
  tape : w.tape = w0.tape
  output : w.output = w0.output
  size : w0.heap.size ≤ w.heap.size
  be : Be ≤ w0.heap.size
  old : ∀ k, k < w0.heap.size → (∀ p ∈ H, k ≠ p.1) → w.heap[k]? = w0.heap[k]?
  own : ∀ p ∈ H, w.heap[p.1]? = some p.2
  dist : (H.map Prod.fst).Nodup
  low : ∀ p ∈ H, Be ≤ p.1

theorem Fr.put {N : Nat} {e : Env} {a : Act} {d : Nat} {g : Bool} {v : Value} (h : Fr N e a) (hd : d < N) : Fr N ((d, g, v) :: e) (a.put (some d) (gv g v)) := by
  refine ⟨h.defers, by simp [Act.put, h.size], fun k g' v' hl => ?_⟩
  simp only [look] at hl
  by_cases hk : d = k
  · subst hk
    simp at hl
    obtain ⟨rfl, rfl⟩ := hl
    simp [Act.put, h.size, hd]
  · have : Nat.beq d k = false := by
      cases hb : Nat.beq d k with
      | true => exact absurd (Nat.eq_of_beq_eq_true hb) hk
      | false => rfl
    rw [this] at hl
    have h1 := h.get k g' v' hl
    rw [← h1]
    simp only [Act.put, Array.getD_eq_getD_getElem?, Array.getElem?_setIfInBounds]
    rw [if_neg hk]

theorem Fr.puttrue {N : Nat} {e : Env} {a : Act} {d : Nat} {v : Value} (h : Fr N e a) (hd : d < N) : Fr N ((d, true, v) :: e) (a.put (some d) v) := h.put (g := true) hd

theorem Fr.putnone {N : Nat} {e : Env} {a : Act} {v : Value} (h : Fr N e a) : Fr N e (a.put none v) := h

section hp
variable {Be : Nat} {w0 w w' : World} {H : Heap}

theorem Hp.lt (h : Hp Be w0 H w) {p : Nat × Obj} (hp : p ∈ H) : p.1 < w.heap.size := by
  have := h.own p hp
  exact (Array.getElem?_eq_some_iff.1 this).1

theorem Hp.fresh (h : Hp Be w0 H w) : ∀ p ∈ H, w.heap.size ≠ p.1 := fun p hp e => by have := h.lt hp; omega

theorem Hp.start (w : World) : Hp w.heap.size w [] w :=
  { os := rfl, tape := rfl, output := rfl, size := Nat.le_refl _, be := Nat.le_refl _, old := fun _ _ _ => rfl, own := fun _ h => (by cases h), dist := List.nodup_nil, low := fun _ h => (by cases h) }

theorem Hp.alloc (h : Hp Be w0 H w) (o : Obj) : Hp Be w0 ((w.heap.size, o) :: H) (w.alloc o) := by
  refine ⟨h.os, h.tape, h.output, by have := h.size; simp; omega, h.be, fun k hk hn => ?_, fun p hp => ?_, ?_, fun p hp => ?_⟩
  · rw [Below.heap_alloc _ _ _ (by have := h.size; omega)]
    exact h.old k hk (fun p hp => hn p (.tail _ hp))
  · cases hp with
    | head => exact heap_alloc_new w o
    | tail _ hp => rw [Below.heap_alloc _ _ _ (h.lt hp)]; exact h.own p hp
  · simp only [List.map_cons, List.nodup_cons]
    refine ⟨fun hm => ?_, h.dist⟩
    obtain ⟨p, hp, he⟩ := List.mem_map.1 hm
    exact h.fresh p hp he.symm
  · cases hp with
    | head => have h1 := h.size; have h2 := h.be; simp; omega
    | tail _ hp => exact h.low p hp

/-- A call that leaves all that was there as it was. -/
theorem Hp.below (h : Hp Be w0 H w) (hb : Below w.heap.size w w') : Hp Be w0 H w' := by
  refine ⟨hb.os.trans h.os, hb.tape.trans h.tape, hb.output.trans h.output, Nat.le_trans h.size hb.size, h.be, fun k hk hn => ?_, fun p hp => ?_, h.dist, h.low⟩
  · rw [hb.block k (by have := h.size; omega)]; exact h.old k hk hn
  · rw [hb.block p.1 (h.lt hp)]; exact h.own p hp

theorem Hp.drew (h : Hp Be w0 H w) : Hp Be w0 H { w with drawn := w.drawn + 1 } := ⟨h.os, h.tape, h.output, h.size, h.be, h.old, h.own, h.dist, h.low⟩

/-- What was there when the function began, seen now. -/
theorem Hp.belowBe (h : Hp Be w0 H w) : Below Be w0 w :=
  ⟨h.os, h.tape, h.output, h.size, fun k hk => h.old k (by have := h.be; omega) (fun p hp e => by have := h.low p hp; omega)⟩

theorem Hp.rebase (h : Hp Be w0 H w) : Hp Be w H w :=
  ⟨rfl, rfl, rfl, Nat.le_refl _, Nat.le_trans h.be h.size, fun _ _ _ => rfl, h.own, h.dist, h.low⟩

/-- A call whose world is in the class of the same list: the base may be moved to the world behind it. -/
theorem Hp.rebased (h : Hp Be w0 H w) (hb : Below w.heap.size w w') : Hp Be w' H w' := (h.below hb).rebase

/-- Own blocks that are new since the base may be forgotten. -/
theorem Hp.drop {p : Nat × Obj} (h : Hp Be w0 (p :: H) w) (hg : w0.heap.size ≤ p.1) : Hp Be w0 H w := by
  refine ⟨h.os, h.tape, h.output, h.size, h.be, fun k hk hn => h.old k hk (fun q hq => ?_), fun q hq => h.own q (.tail _ hq), ?_, fun q hq => h.low q (.tail _ hq)⟩
  · cases hq with
    | head => omega
    | tail _ hq => exact hn q hq
  · have := h.dist; simp only [List.map_cons, List.nodup_cons] at this; exact this.2

theorem Hp.perm {H' : Heap} (h : Hp Be w0 H w) (hp : H.Perm H') : Hp Be w0 H' w :=
  ⟨h.os, h.tape, h.output, h.size, h.be, fun k hk hn => h.old k hk (fun p hq => hn p (hp.mem_iff.1 hq)), fun p hq => h.own p (hp.mem_iff.2 hq), (hp.map _).nodup_iff.1 h.dist, fun p hq => h.low p (hp.mem_iff.2 hq)⟩

theorem Hp.cell (h : Hp Be w0 H w) {g : Nat} {cs : Array Value} {T : TypeId} {f : Nat × Nat} (hm : (g, Obj.cells cs T f) ∈ H) (i : Nat) : w.cell? ⟨g, i, none⟩ = cs[i]? := by
  have := h.own _ hm
  simp [World.cell?, this]
end hp

/-- Own blocks of a callee become own blocks of the caller. -/
theorem Hp.append {Be : Nat} {w0 w w' : World} {H Hc : Heap} (h : Hp Be w0 H w) (hc : Hp w.heap.size w Hc w') : Hp Be w0 (Hc ++ H) w' := by
  have hb := hc.belowBe
  have h2 := h.below hb
  refine ⟨h2.os, h2.tape, h2.output, h2.size, h2.be, fun k hk hn => h2.old k hk (fun p hp => hn p (List.mem_append.2 (.inr hp))), fun p hp => ?_, ?_, fun p hp => ?_⟩
  · rcases List.mem_append.1 hp with hp | hp
    · exact hc.own p hp
    · exact h2.own p hp
  · rw [List.map_append, List.nodup_append]
    refine ⟨hc.dist, h2.dist, fun a ha b hb' e => ?_⟩
    obtain ⟨p, hp, rfl⟩ := List.mem_map.1 ha
    obtain ⟨q, hq, rfl⟩ := List.mem_map.1 hb'
    have h3 := hc.low p hp
    have h4 := h.lt hq
    omega
  · rcases List.mem_append.1 hp with hp | hp
    · have h3 := hc.low p hp; have h4 := h.size; have h5 := h.be; omega
    · exact h2.low p hp

/-- An entry, found by the search for instances. -/
class InH (H : Heap) (g : Nat) (o : outParam Obj) : Prop where
  mem : (g, o) ∈ H
instance InH.head {H : Heap} {g : Nat} {o : Obj} : InH ((g, o) :: H) g o := ⟨.head _⟩
instance (priority := low) InH.tail {H : Heap} {g : Nat} {o : Obj} {p : Nat × Obj} [h : InH H g o] : InH (p :: H) g o := ⟨.tail _ h.mem⟩

/-- What a block holds, in every world of the class: an own one, or one that was there before. -/
def Bk (Be : Nat) (w0 : World) (H : Heap) (g : Nat) (o : Obj) : Prop := ∀ w, Hp Be w0 H w → w.heap[g]? = some o
theorem Bk.own {Be : Nat} {w0 : World} {H : Heap} {g : Nat} {o : Obj} (h : (g, o) ∈ H) : Bk Be w0 H g o := fun _ hh => hh.own _ h
theorem Bk.old {Be : Nat} {w0 : World} {H : Heap} {g : Nat} {o : Obj} (h : w0.heap[g]? = some o) (hb : w0.heap.size ≤ Be) : Bk Be w0 H g o := fun _ hh =>
  (hh.belowBe.block g (by have := (Array.getElem?_eq_some_iff.1 h).1; omega)).trans h
theorem Bk.old' {Be : Nat} {w0 : World} {H : Heap} {g : Nat} {o : Obj} (h : w0.heap[g]? = some o) (hb : g < Be) : Bk Be w0 H g o := fun _ hh => (hh.belowBe.block g hb).trans h
theorem Bk.cell {Be : Nat} {w0 w : World} {H : Heap} {g : Nat} {cs : Array Value} {T : TypeId} {f : Nat × Nat} (h : Bk Be w0 H g (.cells cs T f)) (hh : Hp Be w0 H w) (i : Nat) : w.cell? ⟨g, i, none⟩ = cs[i]? := by
  simp [World.cell?, h w hh]

/-- One entry replaced. -/
def Upd (H : Heap) (g : Nat) (o o' : Obj) (H' : Heap) : Prop := ∃ a b, H = a ++ (g, o) :: b ∧ H' = a ++ (g, o') :: b
theorem Upd.here {H : Heap} {g : Nat} {o o' : Obj} : Upd ((g, o) :: H) g o o' ((g, o') :: H) := ⟨[], H, rfl, rfl⟩
theorem Upd.there {H H' : Heap} {g : Nat} {o o' : Obj} {p : Nat × Obj} (h : Upd H g o o' H') : Upd (p :: H) g o o' (p :: H') := by
  obtain ⟨a, b, h1, h2⟩ := h
  exact ⟨p :: a, b, by simp [h1], by simp [h2]⟩
theorem Upd.mem {H H' : Heap} {g : Nat} {o o' : Obj} (h : Upd H g o o' H') : (g, o) ∈ H := by obtain ⟨a, b, rfl, _⟩ := h; simp

theorem Hp.upd {Be : Nat} {w0 w w' : World} {H H' : Heap} {g : Nat} {o o' : Obj} (h : Hp Be w0 H w) (hu : Upd H g o o' H') (hos : w'.os = w.os) (ht : w'.tape = w.tape) (hout : w'.output = w.output)
    (hs : w.heap.size ≤ w'.heap.size) (hk : ∀ k, k < w.heap.size → k ≠ g → w'.heap[k]? = w.heap[k]?) (hg : w'.heap[g]? = some o') : Hp Be w0 H' w' := by
  obtain ⟨a, b, rfl, rfl⟩ := hu
  have hd := h.dist
  have hne : ∀ p, p ∈ a ∨ p ∈ b → p.1 ≠ g := by
    intro p hp he
    simp only [List.map_append, List.map_cons] at hd
    rw [List.nodup_append] at hd
    obtain ⟨_, h2, h3⟩ := hd
    rw [List.nodup_cons] at h2
    rcases hp with hp | hp
    · exact h3 p.1 (List.mem_map_of_mem hp) g (by simp) he
    · exact h2.1 (he ▸ List.mem_map_of_mem hp)
  refine ⟨hos.trans h.os, ht.trans h.tape, hout.trans h.output, Nat.le_trans h.size hs, h.be, fun k hkk hn => ?_, fun p hp => ?_, ?_, fun p hp => ?_⟩
  · have hkg : k ≠ g := hn (g, o') (by simp)
    rw [hk k (by have := h.size; omega) hkg]
    refine h.old k hkk (fun p hp => ?_)
    rcases List.mem_append.1 hp with hp | hp
    · exact hn p (List.mem_append.2 (.inl hp))
    · cases hp with
      | head => exact hkg
      | tail _ hp => exact hn p (List.mem_append.2 (.inr (.tail _ hp)))
  · rcases List.mem_append.1 hp with hp | hp
    · rw [hk p.1 (h.lt (List.mem_append.2 (.inl hp))) (hne p (.inl hp))]
      exact h.own p (List.mem_append.2 (.inl hp))
    · cases hp with
      | head => exact hg
      | tail _ hp =>
        rw [hk p.1 (h.lt (List.mem_append.2 (.inr (.tail _ hp)))) (hne p (.inr hp))]
        exact h.own p (List.mem_append.2 (.inr (.tail _ hp)))
  · simpa using hd
  · rcases List.mem_append.1 hp with hp | hp
    · exact h.low p (List.mem_append.2 (.inl hp))
    · cases hp with
      | head => exact h.low (g, o) (by simp)
      | tail _ hp => exact h.low p (List.mem_append.2 (.inr (.tail _ hp)))

theorem Hp.setCell {Be : Nat} {w0 w : World} {H H' : Heap} {g off : Nat} {cs : Array Value} {T : TypeId} {f : Nat × Nat} {v : Value} (h : Hp Be w0 H w)
    (hu : Upd H g (.cells cs T f) (.cells (cs.setIfInBounds off v) T f) H') : Hp Be w0 H' (w.setCell ⟨g, off, none⟩ v) := by
  have hg : w.heap[g]? = some (.cells cs T f) := h.own _ hu.mem
  refine h.upd hu rfl rfl rfl (by simp) (fun k _ hk => Below.heap_setCell _ _ _ _ hk) ?_
  simp [World.setCell, Array.getElem?_modify, hg]

/-! ### The judgements -/
abbrev Post := Exit → Env → World → Heap → Prop

def lift (N Be : Nat) (Q : Post) : Exit → Act → World → Prop := fun x a w => ∃ e w0 H, Fr N e a ∧ Hp Be w0 H w ∧ Q x e w0 H

def Spc (P : Program) (N Be : Nat) (c : Code) (Q : Post) (e : Env) (w0 : World) (H : Heap) : Prop := ∀ a w, Fr N e a → Hp Be w0 H w → c.wp P (lift N Be Q) a w

def Spl (P : Program) (N Be : Nat) (ops : Array Oper) (Q : Post) (l : List Oper) (e : Env) (w0 : World) (H : Heap) : Prop := ∀ a w, Fr N e a → Hp Be w0 H w → wpList P ops (lift N Be Q) l a w

/-- The same for a region that draws its order. -/
def Spq (P : Program) (N Be : Nat) (ops : Array Oper) (Q : Post) (l : List Oper) (e : Env) (w0 : World) (H : Heap) : Prop :=
  ∀ a, Fr N e a → wpQuiet P ops (Hp Be w0 H) (fun a' => ∀ w', Hp Be w0 H w' → lift N Be Q .normal a' w') l a

def thenQ (K : Env → World → Heap → Prop) (Q : Post) : Post := fun x e w H => match x with | .normal => K e w H | x => Q x e w H
def blockQ (id : Nat) (Q : Post) : Post := fun x e w H => match x with | .exit id' => if id' = id then Q .normal e w H else Q (.exit id') e w H | x => Q x e w H

section rules
variable {P : Program} {N Be : Nat} {Q : Post} {e : Env} {w0 : World} {H : Heap}

theorem Spc.mono {c : Code} {Q' : Post} (h : Spc P N Be c Q e w0 H) (hq : ∀ x e w H, Q x e w H → Q' x e w H) : Spc P N Be c Q' e w0 H :=
  fun a w hf hh => wp_mono (h a w hf hh) fun x a w ⟨e, w0, H, h1, h2, h3⟩ => ⟨e, w0, H, h1, h2, hq _ _ _ _ h3⟩

theorem sp_seq {x y : Code} (h : Spc P N Be x (thenQ (Spc P N Be y Q) Q) e w0 H) : Spc P N Be (.seq x y) Q e w0 H := by
  intro a w hf hh
  refine wp_seq (wp_mono (h a w hf hh) ?_)
  rintro x a w ⟨e, w0, H, h1, h2, h3⟩
  cases x <;> first | exact h3 a w h1 h2 | exact ⟨e, w0, H, h1, h2, h3⟩

theorem sp_skip (h : Q .normal e w0 H) : Spc P N Be .skip Q e w0 H := fun a w hf hh => wp_skip ⟨e, w0, H, hf, hh, h⟩
theorem sp_label {l : Nat} (h : Q .normal e w0 H) : Spc P N Be (.label l) Q e w0 H := fun a w hf hh => wp_label ⟨e, w0, H, hf, hh, h⟩
theorem sp_exit {id : Nat} (h : Q (.exit id) e w0 H) : Spc P N Be (.exit id) Q e w0 H := fun a w hf hh => wp_exit ⟨e, w0, H, hf, hh, h⟩
theorem sp_ret (h : Q .ret e w0 H) : Spc P N Be .ret Q e w0 H := fun a w hf hh => wp_ret ⟨e, w0, H, hf, hh, h⟩

theorem sp_block {id : Nat} {c : Code} (h : Spc P N Be c (blockQ id Q) e w0 H) : Spc P N Be (.block id c) Q e w0 H := by
  intro a w hf hh
  refine wp_block (wp_mono (h a w hf hh) ?_)
  rintro x a w ⟨e, w0, H, h1, h2, h3⟩
  cases x <;> first | exact ⟨e, w0, H, h1, h2, h3⟩ | skip
  rename_i id'
  simp only [blockQ] at h3
  simp only [Exit.inBlock]
  split at h3
  · rename_i he; rw [if_pos he]; exact ⟨e, w0, H, h1, h2, h3⟩
  · rename_i he; rw [if_neg he]; exact ⟨e, w0, H, h1, h2, h3⟩

theorem then_n {K : Env → World → Heap → Prop} (h : K e w0 H) : thenQ K Q .normal e w0 H := h
theorem then_r {K : Env → World → Heap → Prop} (h : Q .ret e w0 H) : thenQ K Q .ret e w0 H := h
theorem then_e {K : Env → World → Heap → Prop} {id : Nat} (h : Q (.exit id) e w0 H) : thenQ K Q (.exit id) e w0 H := h
theorem block_n {id : Nat} (h : Q .normal e w0 H) : blockQ id Q .normal e w0 H := h
theorem block_r {id : Nat} (h : Q .ret e w0 H) : blockQ id Q .ret e w0 H := h
theorem block_here {id : Nat} (h : Q .normal e w0 H) : blockQ id Q (.exit id) e w0 H := by simp only [blockQ, if_true]; exact h
theorem block_past {id id' : Nat} (hne : Nat.beq id' id = false) (h : Q (.exit id') e w0 H) : blockQ id Q (.exit id') e w0 H := by
  have : id' ≠ id := Nat.ne_of_beq_eq_false hne
  simp only [blockQ, if_neg this]; exact h

/-! ### Operands -/
def Ev (G : Bool) (e : Env) (x : Operand) (v : Value) : Prop := ∀ N a, Fr N e a → G = true → a.eval x = v
theorem Ev.tmp {G g : Bool} {t : Nat} {v : Value} (h : look e t = some (g, v)) (hi : G = true → g = true) : Ev G e (.tmp t) v := by
  intro N a hf hG
  have := hf.get t g v h
  rw [hi hG] at this
  exact this
theorem Ev.const {G : Bool} {v : Value} : Ev G e (.const v) v := fun _ _ _ _ => rfl
theorem Ev.glob {G : Bool} {g : Nat} : Ev G e (.global g) (.pointer (some ⟨g, 0, none⟩)) := fun _ _ _ _ => rfl
theorem Ev.func {G : Bool} {f : Nat} : Ev G e (.func f) (.func (.func f) #[] #[]) := fun _ _ _ _ => rfl
theorem Ev.tmpT {G : Bool} {t : Nat} {v : Value} (h : look e t = some (true, v)) : Ev G e (.tmp t) v := Ev.tmp h fun _ => rfl
theorem Ev.tmpG {G : Bool} {t : Nat} {v : Value} (h : look e t = some (G, v)) : Ev G e (.tmp t) v := Ev.tmp h id
theorem Ev.tmpL {G g : Bool} {t : Nat} {v : Value} (h : look e t = some (g, v)) : Ev (g && G) e (.tmp t) v := Ev.tmp h (by intro h; simp only [Bool.and_eq_true] at h; exact h.1)
theorem Ev.tmpLL {G G' g : Bool} {t : Nat} {v : Value} (h : look e t = some (g, v)) : Ev ((g && G) && G') e (.tmp t) v := Ev.tmp h (by intro h; simp only [Bool.and_eq_true] at h; exact h.1.1)
theorem Ev.tmpLLL {G G' G'' g : Bool} {t : Nat} {v : Value} (h : look e t = some (g, v)) : Ev (((g && G) && G') && G'') e (.tmp t) v := Ev.tmp h (by intro h; simp only [Bool.and_eq_true] at h; exact h.1.1.1)

def Evs (G : Bool) (e : Env) (xs : List Operand) (vs : List Value) : Prop := ∀ N a, Fr N e a → G = true → xs.map a.eval = vs
theorem Evs.nil {G : Bool} : Evs G e [] [] := fun _ _ _ _ => rfl
theorem Evs.cons {G : Bool} {x : Operand} {xs : List Operand} {v : Value} {vs : List Value} (h : Ev G e x v) (hs : Evs G e xs vs) : Evs G e (x :: xs) (v :: vs) := by
  intro N a hf hG
  simp only [List.map_cons, h N a hf hG, hs N a hf hG]

/-! ### Guards -/
def Gd (ops : Array Oper) (e : Env) (g : Option (Nat × Bool)) (G : Bool) : Prop := ∀ N a (o : Oper), Fr N e a → o.guard = g → Region.wanted o (yielded ops a.tmps) = G
theorem Gd.none {ops : Array Oper} : Gd ops e .none true := by intro N a o hf hg; simp [Region.wanted, hg]
theorem yielded_of {ops : Array Oper} {j k : Nat} {g x : Bool} {N : Nat} {a : Act} (hf : Fr N e a) (hj : (ops[j]?).bind (·.dst) = some k) (hl : look e k = some (g, .bool x)) :
    yielded ops a.tmps j = if g then some x else Option.none := by
  have h := hf.get k g _ hl
  rw [Array.getD_eq_getD_getElem?] at h
  unfold yielded
  rw [hj]
  simp only [Option.bind_some]
  cases g
  · simp only [gv] at h
    cases ht : a.tmps[k]? with
    | none => simp
    | some v => rw [ht] at h; simp only [Option.getD_some] at h; subst h; simp [undef]
  · simp only [gv] at h
    cases ht : a.tmps[k]? with
    | none => rw [ht] at h; simp [undef] at h
    | some v => rw [ht] at h; simp only [Option.getD_some] at h; subst h; simp
theorem Gd.tt {ops : Array Oper} {j k : Nat} {x : Bool} (hj : (ops[j]?).bind (·.dst) = some k) (hl : look e k = some (true, .bool x)) : Gd ops e (some (j, true)) x := by
  intro N a o hf hg
  simp only [Region.wanted, hg, yielded_of hf hj hl]
  cases x <;> rfl
theorem Gd.tf {ops : Array Oper} {j k : Nat} {x : Bool} (hj : (ops[j]?).bind (·.dst) = some k) (hl : look e k = some (true, .bool x)) : Gd ops e (some (j, false)) (!x) := by
  intro N a o hf hg
  simp only [Region.wanted, hg, yielded_of hf hj hl]
  cases x <;> rfl
theorem Gd.gt {ops : Array Oper} {j k : Nat} {g x : Bool} (hj : (ops[j]?).bind (·.dst) = some k) (hl : look e k = some (g, .bool x)) : Gd ops e (some (j, true)) (g && x) := by
  intro N a o hf hg
  simp only [Region.wanted, hg, yielded_of hf hj hl]
  cases g <;> cases x <;> rfl
theorem Gd.gf {ops : Array Oper} {j k : Nat} {g x : Bool} (hj : (ops[j]?).bind (·.dst) = some k) (hl : look e k = some (g, .bool x)) : Gd ops e (some (j, false)) (g && !x) := by
  intro N a o hf hg
  simp only [Region.wanted, hg, yielded_of hf hj hl]
  cases g <;> cases x <;> rfl

/-! ### One operation that only computes or reads -/
def Ex (P : Program) (Be : Nat) (w0 : World) (H : Heap) (G : Bool) (e : Env) (op : Op) (ty : TypeId) (v : Value) : Prop :=
  ∀ N a w (o : Oper), o.op = op → o.type = ty → Fr N e a → Hp Be w0 H w → G = true → (execOp a.eval o).run P w = .ok (.value v) w

theorem sp_region {id : Nat} {l : List Oper} (h : Spl P N Be l.toArray Q l e w0 H) : Spc P N Be (.region id l.toArray false) Q e w0 H :=
  fun a w hf hh => wp_region_lit (h a w hf hh)

theorem spl_nil {ops : Array Oper} (h : Q .normal e w0 H) : Spl P N Be ops Q [] e w0 H := fun a w hf hh => wpList_nil ⟨e, w0, H, hf, hh, h⟩

section ops
variable {ops : Array Oper} {rest : List Oper} {op : Op} {ty : TypeId} {pos : String} {after : Array Edge} {d : Nat} {v : Value}

theorem spl_pure (hN : Nat.blt d N = true) (hx : Ex P Be w0 H true e op ty v) (k : Spl P N Be ops Q rest ((d, true, v) :: e) w0 H) :
    Spl P N Be ops Q (⟨some d, op, ty, pos, after, none⟩ :: rest) e w0 H := by
  intro a w hf hh
  have hd : d < N := by simpa [Nat.blt_eq] using hN
  refine wpList_plain rfl fun K hK => ?_
  unfold Oper.wp
  rw [hx N a w _ rfl rfl hf hh rfl, Oper.upon_value]
  exact hK _ _ (k _ _ (hf.puttrue hd) hh)

theorem spl_pure_g {g : Option (Nat × Bool)} {G : Bool} (hN : Nat.blt d N = true) (hg : Gd ops e g G) (hx : Ex P Be w0 H G e op ty v) (k : Spl P N Be ops Q rest ((d, G, v) :: e) w0 H) :
    Spl P N Be ops Q (⟨some d, op, ty, pos, after, g⟩ :: rest) e w0 H := by
  intro a w hf hh
  have hd : d < N := by simpa [Nat.blt_eq] using hN
  refine wpList_step fun K hK => ?_
  rw [hg N a _ hf rfl]
  cases hG : G with
  | true =>
    rw [if_pos rfl]
    unfold Oper.wp
    rw [hx N a w _ rfl rfl hf hh hG, Oper.upon_value]
    refine hK _ _ (k _ _ ?_ hh)
    rw [hG]; exact hf.puttrue hd
  | false =>
    rw [if_neg (by simp)]
    refine hK _ _ (k _ _ ?_ hh)
    rw [hG]; exact hf.put (g := false) hd

theorem spq_nil (h : Q .normal e w0 H) : Spq P N Be ops Q [] e w0 H := fun a hf => wpQuiet_nil fun _ hw' => ⟨e, w0, H, hf, hw', h⟩

theorem spq_pure (hN : Nat.blt d N = true) (hx : Ex P Be w0 H true e op ty v) (k : Spq P N Be ops Q rest ((d, true, v) :: e) w0 H) :
    Spq P N Be ops Q (⟨some d, op, ty, pos, after, none⟩ :: rest) e w0 H := by
  intro a hf
  have hd : d < N := by simpa [Nat.blt_eq] using hN
  refine wpQuiet_step fun K hK => ?_
  rw [if_pos (by simp [Region.wanted])]
  refine ⟨v, fun w hw => ?_, hK _ (k _ (hf.puttrue hd))⟩
  unfold Oper.quietAt
  rw [hx N a w _ rfl rfl hf hw rfl]
  exact ⟨rfl, rfl⟩

theorem spq_pure_g {g : Option (Nat × Bool)} {G : Bool} (hN : Nat.blt d N = true) (hg : Gd ops e g G) (hx : Ex P Be w0 H G e op ty v) (k : Spq P N Be ops Q rest ((d, G, v) :: e) w0 H) :
    Spq P N Be ops Q (⟨some d, op, ty, pos, after, g⟩ :: rest) e w0 H := by
  intro a hf
  have hd : d < N := by simpa [Nat.blt_eq] using hN
  refine wpQuiet_step fun K hK => ?_
  rw [hg N a _ hf rfl]
  cases hG : G with
  | true =>
    rw [if_pos rfl]
    refine ⟨v, fun w hw => ?_, hK _ (k _ ?_)⟩
    · unfold Oper.quietAt
      rw [hx N a w _ rfl rfl hf hw hG]
      exact ⟨rfl, rfl⟩
    · rw [hG]; exact hf.puttrue hd
  | false =>
    rw [if_neg (by simp)]
    refine hK _ (k _ ?_)
    rw [hG]; exact hf.put (g := false) hd

theorem sp_draw {id : Nat} {l : List Oper} (hm : P.follows .mixedOrders = true) (hB : Region.lexB .any l.toArray = true) (h : Spq P N Be l.toArray Q l e w0 H) : Spc P N Be (.region id l.toArray true) Q e w0 H := by
  intro a w hf hh
  refine wp_region_quiet hm hB (C := Hp Be w0 H) hh.drew ?_
  have h' := h a hf
  simpa using h'
end ops

/-! ### Tests, loops -/
theorem sp_cond {c : Operand} {x y : Code} {b : Bool} (hc : Ev true e c (.bool b)) (ht : b = true → Spc P N Be x Q e w0 H) (hf : b = false → Spc P N Be y Q e w0 H) : Spc P N Be (.cond c x y) Q e w0 H :=
  fun a w h1 h2 => wp_cond_split (hc N a h1 rfl) (fun hb => ht hb a w h1 h2) (fun hb => hf hb a w h1 h2)
theorem sp_cond_t {c : Operand} {x y : Code} {b : Bool} (hc : Ev true e c (.bool b)) (hb : b = true) (ht : Spc P N Be x Q e w0 H) : Spc P N Be (.cond c x y) Q e w0 H :=
  sp_cond hc (fun _ => ht) (fun h => by rw [hb] at h; cases h)
theorem sp_cond_f {c : Operand} {x y : Code} {b : Bool} (hc : Ev true e c (.bool b)) (hb : b = false) (hf : Spc P N Be y Q e w0 H) : Spc P N Be (.cond c x y) Q e w0 H :=
  sp_cond hc (fun h => by rw [hb] at h; cases h) (fun _ => hf)
/-- A test on a proposition. -/
theorem sp_cond_p {c : Operand} {x y : Code} {p : Prop} [Decidable p] (hc : Ev true e c (.bool (decide p))) (ht : p → Spc P N Be x Q e w0 H) (hf : ¬ p → Spc P N Be y Q e w0 H) : Spc P N Be (.cond c x y) Q e w0 H :=
  sp_cond hc (fun h => ht (of_decide_eq_true h)) (fun h => hf (of_decide_eq_false h))

/-- Of the slots only some are still known. -/
def ESub (e e' : Env) : Prop := ∀ k g v, look e k = some (g, v) → look e' k = some (g, v)
theorem ESub.nil : ESub [] e := fun _ _ _ h => by cases h
theorem ESub.cons {e' : Env} {k : Nat} {g : Bool} {v : Value} (h : look e' k = some (g, v)) (hs : ESub e e') : ESub ((k, g, v) :: e) e' := by
  intro k' g' v' hl
  simp only [look] at hl
  cases hb : Nat.beq k k' with
  | true => rw [hb] at hl; cases Nat.eq_of_beq_eq_true hb; cases hl; exact h
  | false => rw [hb] at hl; exact hs _ _ _ hl
theorem Fr.sub {e' : Env} {a : Act} (h : Fr N e' a) (hs : ESub e e') : Fr N e a := ⟨h.defers, h.size, fun k g v hl => h.get k g v (hs k g v hl)⟩

/-- Of the own blocks only some are still known: what is forgotten is new since the base. -/
def HKeep (w0 : World) (H H' : Heap) : Prop := ∃ D : Heap, H'.Perm (D ++ H) ∧ ∀ p ∈ D, w0.heap.size ≤ p.1
theorem HKeep.nil : HKeep w0 [] [] := ⟨[], .refl _, fun _ h => by cases h⟩
theorem HKeep.refl : HKeep w0 H H := ⟨[], .refl _, fun _ h => by cases h⟩
theorem HKeep.keep {H' : Heap} {p : Nat × Obj} (h : HKeep w0 H H') : HKeep w0 (p :: H) (p :: H') := by
  obtain ⟨D, h1, h2⟩ := h
  exact ⟨D, (h1.cons p).trans List.perm_middle.symm, h2⟩
theorem HKeep.drop {H' : Heap} {p : Nat × Obj} (hp : w0.heap.size ≤ p.1) (h : HKeep w0 H H') : HKeep w0 H (p :: H') := by
  obtain ⟨D, h1, h2⟩ := h
  exact ⟨p :: D, (h1.cons p), fun q hq => by cases hq with | head => exact hp | tail _ hq => exact h2 q hq⟩
theorem Hp.sub {H' : Heap} {w : World} (h : Hp Be w0 H' w) (hs : HKeep w0 H H') : Hp Be w0 H w := by
  obtain ⟨D, h1, h2⟩ := hs
  have h := h.perm h1
  clear h1
  induction D with
  | nil => exact h
  | cons p D ih => exact ih (fun q hq => h2 q (.tail _ hq)) (h.drop (h2 p (.head _)))

/-- Known less. -/
theorem Spc.weaken {c : Code} {e' : Env} {H' : Heap} (h : Spc P N Be c Q e w0 H) (he : ESub e e') (hH : HKeep w0 H H') : Spc P N Be c Q e' w0 H' :=
  fun a w hf hh => h a w (hf.sub he) (hh.sub hH)

/-- A loop: a family of states, a measure, and that each round comes to a state of the family with a smaller measure, or leaves. -/
theorem sp_loop {c : Code} {X : Type} (E : X → Env) (W : X → World) (HH : X → Heap) (I : X → Prop) (m : X → Nat) (x0 : X) (h0 : I x0) (he : ESub (E x0) e) (hw : W x0 = w0) (hH : HKeep w0 (HH x0) H)
    (round : ∀ x, I x → Spc P N Be c (thenQ (fun e' w' H' => ∃ x', I x' ∧ m x' < m x ∧ ESub (E x') e' ∧ W x' = w' ∧ HKeep w' (HH x') H') Q) (E x) (W x) (HH x)) : Spc P N Be (.loop c) Q e w0 H := by
  intro a w hf hh
  subst hw
  refine wp_loop_ghost (fun n a w => ∃ x, m x = n ∧ I x ∧ Fr N (E x) a ∧ Hp Be (W x) (HH x) w) (m x0) ⟨x0, rfl, h0, hf.sub he, hh.sub hH⟩ ?_
  rintro n a w ⟨x, rfl, hI, hf, hh⟩
  refine wp_mono (round x hI a w hf hh) ?_
  rintro ex a' w' ⟨e', w0', H', h1, h2, h3⟩
  cases ex <;> first | exact ⟨e', w0', H', h1, h2, h3⟩ | skip
  obtain ⟨x', hI', hm, hs, hW, hH'⟩ := h3
  subst hW
  exact ⟨m x', hm, x', rfl, hI', h1.sub hs, h2.sub hH'⟩

/-! ### A function: its entry, its results -/
def envOf : Nat → List Value → Env
  | _, [] => []
  | k, v :: vs => (k, true, v) :: envOf (k + 1) vs
theorem look_envOf : ∀ (vs : List Value) (k i : Nat) (g : Bool) (v : Value), look (envOf k vs) i = some (g, v) → g = true ∧ k ≤ i ∧ vs[i - k]? = some v
  | [], _, _, _, _, h => by cases h
  | u :: vs, k, i, g, v, h => by
    simp only [envOf, look] at h
    cases hb : Nat.beq k i with
    | true =>
      rw [hb] at h
      cases Nat.eq_of_beq_eq_true hb
      cases h
      exact ⟨rfl, Nat.le_refl _, by simp⟩
    | false =>
      rw [hb] at h
      obtain ⟨h1, h2, h3⟩ := look_envOf vs (k + 1) i g v h
      refine ⟨h1, by omega, ?_⟩
      rw [show i - k = (i - (k + 1)) + 1 by omega, List.getElem?_cons_succ]
      exact h3

/-- What a function's results read as in the end. -/
def Res (rs : Array ResultVar) (P : Program) (Be : Nat) (e : Env) (w0 : World) (H : Heap) (v : Value) : Prop :=
  ∀ N a w (fn : Func), fn.results = rs → Fr N e a → Hp Be w0 H w → (results fn a.tmps).run P w = .ok v w

def retQ (P : Program) (fn : Func) (Be : Nat) (R : Ending → World → Prop) : Post := fun x e w0 H =>
  match x with
  | .ret | .normal => ∃ v, Res fn.results P Be e w0 H v ∧ ∀ w', Hp Be w0 H w' → R (.returned v) w'
  | _ => False

theorem sp_enter {f : FuncId} {fn : Func} {c : Code} {vs : List Value} {w : World} {R : Ending → World → Prop} (hf : P.funcs[f]? = some fn) (hb : fn.body = some c) (hN : fn.ntmps = N) (hl : Nat.ble vs.length N = true)
    (h : Spc P N w.heap.size c (retQ P fn w.heap.size R) (envOf 0 vs) w []) : Calls P f vs.toArray w R := by
  refine calls_of_wp hf hb (wp_mono (h _ w ?_ (Hp.start w)) ?_)
  · have hl' : vs.length ≤ N := Nat.le_of_ble_eq_true hl
    refine ⟨rfl, by simp [hN]; omega, fun k g v hk => ?_⟩
    obtain ⟨rfl, _, h3⟩ := look_envOf vs 0 k g v hk
    simp only [Nat.sub_zero] at h3
    have hk : k < vs.length := (List.getElem?_eq_some_iff.1 h3).1
    simp [Array.getElem?_append, hk, gv]
    have := (List.getElem?_eq_some_iff.1 h3).2
    simpa using this
  · rintro x a w' ⟨e, w0, H, h1, h2, h3⟩
    cases x with
    | normal => obtain ⟨v, hv, hR⟩ := h3; exact ⟨h1.defers, v, hv _ _ _ fn rfl h1 h2, hR w' h2⟩
    | ret => obtain ⟨v, hv, hR⟩ := h3; exact ⟨h1.defers, v, hv _ _ _ fn rfl h1 h2, hR w' h2⟩
    | exit _ => exact h3.elim
    | goto _ => exact h3.elim
    | panic _ => exact h3.elim
    | outgrown => exact h3.elim

theorem Res.one {t : Tmp} {v : Value} (h : look e t = some (true, v)) : Res #[.tmp t] P Be e w0 H v := by
  intro N a w fn hr hf hh
  rw [results_tmp hr]
  have := hf.get t true v h
  simp only [gv] at this
  rw [this]
theorem Res.two {t u : Tmp} {v v' : Value} (h : look e t = some (true, v)) (h' : look e u = some (true, v')) : Res #[.tmp t, .tmp u] P Be e w0 H (.tuple #[v, v']) := by
  intro N a w fn hr hf hh
  rw [results_tmp2 hr]
  have h1 := hf.get t true v h
  have h2 := hf.get u true v' h'
  simp only [gv] at h1 h2
  rw [h1, h2]
theorem Res.none_ : Res #[] P Be e w0 H (.tuple #[]) := by
  intro N a w fn hr hf hh
  rw [results_none hr]

/-- What one result reads as. -/
def rv (tmps : Array Value) : ResultVar → Sem Value
  | .tmp t => pure (tmps.getD t undef)
  | .cell a t => do loadVar t (← asAddr (tmps.getD a undef))
theorem results_rv (fn : Func) (tmps : Array Value) : results fn tmps = (do let vs ← fn.results.mapM (rv tmps); pure (if h : vs.size = 1 then vs[0] else .tuple vs)) := by
  unfold results
  congr 1
def Res1 (r : ResultVar) (P : Program) (Be : Nat) (e : Env) (w0 : World) (H : Heap) (v : Value) : Prop :=
  ∀ N a w, Fr N e a → Hp Be w0 H w → (rv a.tmps r).run P w = .ok v w
theorem Res1.tmp {t : Tmp} {v : Value} (h : look e t = some (true, v)) : Res1 (.tmp t) P Be e w0 H v := by
  intro N a w hf hh
  have := hf.get t true v h
  simp only [gv] at this
  simp only [rv, Sem.run_pure, this]
theorem Res.ofOne {r : ResultVar} {v : Value} (h : Res1 r P Be e w0 H v) : Res #[r] P Be e w0 H v := by
  intro N a w fn hr hf hh
  have h1 := h N a w hf hh
  rw [results_rv, hr]
  simp [h1]
theorem Res.ofTwo {r r' : ResultVar} {v v' : Value} (h : Res1 r P Be e w0 H v) (h' : Res1 r' P Be e w0 H v') : Res #[r, r'] P Be e w0 H (.tuple #[v, v']) := by
  intro N a w fn hr hf hh
  have h1 := h N a w hf hh
  have h2 := h' N a w hf hh
  rw [results_rv, hr]
  simp [h1, h2]
theorem Res.ofThree {r r' r'' : ResultVar} {v v' v'' : Value} (h : Res1 r P Be e w0 H v) (h' : Res1 r' P Be e w0 H v') (h'' : Res1 r'' P Be e w0 H v'') : Res #[r, r', r''] P Be e w0 H (.tuple #[v, v', v'']) := by
  intro N a w fn hr hf hh
  have h1 := h N a w hf hh
  have h2 := h' N a w hf hh
  have h3 := h'' N a w hf hh
  rw [results_rv, hr]
  simp [h1, h2, h3]
end rules
end Go.Sy
/-
  The layer 'Sy', its operations: facts on types as classes, one law for each operation.
-/
namespace Go.Sy
set_option linter.unusedVariables false
open Go.RowKit
set_option linter.unusedVariables false
set_option linter.unusedSimpArgs false

/-! ### Facts on types -/
class TSize (P : Program) (t : TypeId) (n : outParam Nat) : Prop where
  size : (P.info? t).map (·.size) = some n
class TBytes (P : Program) (t : TypeId) (n : outParam Nat) : Prop where
  bytes : (P.info? t).map (·.bytes) = some n
class TZero (P : Program) (t : TypeId) (z : outParam Value) : Prop where
  zero : (P.info? t).bind (·.zero) = some z
/-- No struct, no array. -/
class TCell (P : Program) (t : TypeId) : Prop where
  cell : (match P.underlying t with | some (.struct _) => false | some (.array _ _) => false | some _ => true | none => false) = true
class TAgg (P : Program) (t : TypeId) : Prop where
  agg : (match P.underlying t with | some (.struct _) => true | some (.array _ _) => true | _ => false) = true
class TStruct (P : Program) (t : TypeId) (fs : outParam (Array Field)) : Prop where
  struct : P.underlying t = some (.struct fs)
class TField (P : Program) (t : TypeId) (i : Nat) (off : outParam Nat) (ft : outParam TypeId) : Prop where
  field : (match P.underlying t with | some (.struct fs) => (match fs[i]? with | some f => decide (f.offset = off ∧ f.type = ft) && (match P.info? f.type with | some x => decide (x.size ≠ 0) | none => false) | none => false) | _ => false) = true
class TSlice (P : Program) (t : TypeId) (el : outParam TypeId) : Prop where
  slice : P.underlying t = some (.slice el)
class TMap (P : Program) (t : TypeId) (k el : outParam TypeId) : Prop where
  map : P.underlying t = some (.map k el)
class TArray (P : Program) (t : TypeId) (n : outParam Nat) (el : outParam TypeId) : Prop where
  array : P.underlying t = some (.array n el)
class TStr (P : Program) (t : TypeId) : Prop where
  str : P.underlying t = some .string
class TBool (P : Program) (t : TypeId) : Prop where
  bool : P.underlying t = some .bool
class TInt (P : Program) (t : TypeId) (k : outParam IntKind) : Prop where
  int : P.underlying t = some (.int k)
class TPtr (P : Program) (t : TypeId) (el : outParam TypeId) : Prop where
  ptr : P.underlying t = some (.pointer el)
/-- A function with a body. -/
class TFn (P : Program) (f : FuncId) : Prop where
  fn : (match P.funcs[f]? with | some fn => !(fn.name == "runtime.NumGoroutine") && fn.body.isSome | none => false) = true

section facts
variable {P : Program} {t : TypeId} (w : World)
theorem TSize.run {n : Nat} [h : TSize P t n] : (sizeOf t).run P w = .ok n w := by
  have := h.size
  cases hi : P.info? t with
  | none => rw [hi] at this; cases this
  | some i => rw [hi] at this; simp at this; simp [sizeOf, typeInfo, hi, this]
theorem TBytes.run {n : Nat} [h : TBytes P t n] : ∃ i, (typeInfo t).run P w = .ok i w ∧ i.bytes = n := by
  have := h.bytes
  cases hi : P.info? t with
  | none => rw [hi] at this; cases this
  | some i => rw [hi] at this; simp at this; exact ⟨i, by simp [typeInfo, hi], this⟩
theorem TZero.run {z : Value} [h : TZero P t z] : (zeroValue t).run P w = .ok z w := by
  have := h.zero
  cases hi : P.info? t with
  | none => rw [hi] at this; cases this
  | some i => rw [hi] at this; simp at this; simp [zeroValue, typeInfo, hi, this]
theorem TCell.run [h : TCell P t] : (isAgg t).run P w = .ok false w := by
  have := h.cell
  cases hi : P.underlying t with
  | none => rw [hi] at this; cases this
  | some i => rw [hi] at this; cases i <;> simp_all [isAgg, run_underlying hi]
theorem TAgg.run [h : TAgg P t] : (isAgg t).run P w = .ok true w := by
  have := h.agg
  cases hi : P.underlying t with
  | none => rw [hi] at this; cases this
  | some i => rw [hi] at this; cases i <;> simp_all [isAgg, run_underlying hi]
theorem TField.run {i off : Nat} {ft : TypeId} [h : TField P t i off ft] (a : Addr) : (Instr.fieldAt t (.pointer (some a)) i).run P w = .ok (.pointer (some (a.add off))) w := by
  have := h.field
  cases hu : P.underlying t with
  | none => rw [hu] at this; cases this
  | some d =>
    rw [hu] at this
    cases d <;> first | cases this | skip
    rename_i fs
    simp only at this
    cases hf : fs[i]? with
    | none => rw [hf] at this; cases this
    | some f =>
      rw [hf] at this
      simp only [Bool.and_eq_true, decide_eq_true_eq] at this
      obtain ⟨⟨h1, h2⟩, h3⟩ := this
      cases hi : P.info? f.type with
      | none => rw [hi] at h3; cases h3
      | some x =>
        rw [hi] at h3
        simp only [decide_eq_true_eq] at h3
        simp [Instr.fieldAt, run_underlying hu, hf, Instr.sureAddr, fieldPlace, sizeOf, typeInfo, hi, h3, h1]
theorem TFn.run {f : FuncId} [h : TFn P f] (args : Array Value) : (callFunc f args).run P w = .ok (.enter f args) w := by
  have := h.fn
  cases hf : P.funcs[f]? with
  | none => rw [hf] at this; cases this
  | some fn =>
    rw [hf] at this
    simp only [Bool.and_eq_true, Bool.not_eq_true'] at this
    obtain ⟨h1, h2⟩ := this
    have h3 : fn.body.isNone = false := by cases hb : fn.body <;> simp_all
    unfold callFunc
    simp only [Sem.run_bind, run_program, Result.andThen_ok, hf, h1, h3, Bool.false_eq_true, if_false, Sem.run_pure]
end facts

theorem ev_const (a : Act) (v : Value) : a.eval (.const v) = v := rfl
section
variable {P : Program} {Be : Nat} {w0 : World} {H : Heap} {G : Bool} {e : Env} {ty : TypeId}

theorem Ex.mk {op : Op} {v : Value} (h : ∀ N a w (o : Oper), o.op = op → o.type = ty → Fr N e a → Hp Be w0 H w → G = true → (execOp a.eval o).run P w = .ok (.value v) w) : Ex P Be w0 H G e op ty v := h

theorem ex_move {x : Operand} {v : Value} (h : Ev G e x v) : Ex P Be w0 H G e (.move x) ty v := by
  intro N a w o ho ht hf hh hG
  simp [execOp, ho, h N a hf hG]
theorem ex_assign {x : Operand} {v : Value} (h : Ev G e x v) : Ex P Be w0 H G e (.assign x) ty v := by
  intro N a w o ho ht hf hh hG
  simp [execOp, ho, h N a hf hG]

/-- 'c && b' -/
theorem ex_and {c b : Operand} {x y : Bool} (hc : Ev G e c (.bool x)) (hb : Ev (G && x) e b (.bool y)) : Ex P Be w0 H G e (.pick c b (.const (.bool false))) ty (.bool (x && y)) := by
  intro N a w o ho ht hf hh hG
  have h1 := hc N a hf hG
  cases x with
  | false => simp only [execOp, ho, h1, asBool, ev_const, Sem.run_bind, Sem.run_pure, Result.andThen_ok]; simp
  | true => simp [execOp, ho, h1, asBool, hb N a hf (by simp [hG])]
theorem ex_or {c b : Operand} {x y : Bool} (hc : Ev G e c (.bool x)) (hb : Ev (G && !x) e b (.bool y)) : Ex P Be w0 H G e (.pick c (.const (.bool true)) b) ty (.bool (x || y)) := by
  intro N a w o ho ht hf hh hG
  have h1 := hc N a hf hG
  cases x with
  | true => simp only [execOp, ho, h1, asBool, ev_const, Sem.run_bind, Sem.run_pure, Result.andThen_ok]; simp
  | false => simp [execOp, ho, h1, asBool, hb N a hf (by simp [hG])]
/-- The same where nothing guards the whole. -/
theorem ex_andT {c b : Operand} {x y : Bool} (hc : Ev true e c (.bool x)) (hb : Ev x e b (.bool y)) : Ex P Be w0 H true e (.pick c b (.const (.bool false))) ty (.bool (x && y)) :=
  ex_and hc (fun N a hf hG => hb N a hf (by simpa using hG))
theorem ex_orT {c b : Operand} {x y : Bool} (hc : Ev true e c (.bool x)) (hb : Ev (!x) e b (.bool y)) : Ex P Be w0 H true e (.pick c (.const (.bool true)) b) ty (.bool (x || y)) :=
  ex_or hc (fun N a hf hG => hb N a hf (by simpa using hG))

theorem ex_not {x : Operand} {t : TypeId} {b : Bool} (h : Ev G e x (.bool b)) : Ex P Be w0 H G e (.unOp .not t x) ty (.bool (!b)) := by
  intro N a w o ho ht hf hh hG
  simp [execOp, ho, h N a hf hG, Op.unary]

/-! ### Integers -/
theorem ex_int {bop : BinOp} {t t' : TypeId} {x y : Operand} {k : IntKind} {m n : Int} {v : Value} (h1 : Ev G e x (.int k m)) (h2 : Ev G e y (.int k n)) (hr : ∀ w, (binOp bop t (.int k m) (.int k n)).run P w = .ok v w) : Ex P Be w0 H G e (.binOp bop t x y t') ty v := by
  intro N a w o ho ht hf hh hG
  simp only [execOp, ho, h1 N a hf hG, h2 N a hf hG, Sem.run_bind]
  have : (eqGuard bop t x y (.int k m) (.int k n)).run P w = .ok () w := by
    unfold eqGuard
    cases bop <;> simp
  rw [this]
  simp [hr w]
theorem ex_add {t t' : TypeId} {x y : Operand} {k : IntKind} {m n : Int} (h1 : Ev G e x (.int k m)) (h2 : Ev G e y (.int k n)) : Ex P Be w0 H G e (.binOp .add t x y t') ty (.int k (k.wrap (m + n))) :=
  ex_int h1 h2 fun w => by simp [binOp, Op.intArith]
theorem ex_sub {t t' : TypeId} {x y : Operand} {k : IntKind} {m n : Int} (h1 : Ev G e x (.int k m)) (h2 : Ev G e y (.int k n)) : Ex P Be w0 H G e (.binOp .sub t x y t') ty (.int k (k.wrap (m - n))) :=
  ex_int h1 h2 fun w => by simp [binOp, Op.intArith]
theorem ex_mul {t t' : TypeId} {x y : Operand} {k : IntKind} {m n : Int} (h1 : Ev G e x (.int k m)) (h2 : Ev G e y (.int k n)) : Ex P Be w0 H G e (.binOp .mul t x y t') ty (.int k (k.wrap (m * n))) :=
  ex_int h1 h2 fun w => by simp [binOp, Op.intArith]
theorem ex_quo {t t' : TypeId} {x y : Operand} {k : IntKind} {m n : Int} (h1 : Ev G e x (.int k m)) (h2 : Ev G e y (.int k n)) (hn : n ≠ 0) : Ex P Be w0 H G e (.binOp .quo t x y t') ty (.int k (k.wrap (m.tdiv n))) :=
  ex_int h1 h2 fun w => by simp [binOp, Op.intDiv, hn]
theorem ex_rem {t t' : TypeId} {x y : Operand} {k : IntKind} {m n : Int} (h1 : Ev G e x (.int k m)) (h2 : Ev G e y (.int k n)) (hn : n ≠ 0) : Ex P Be w0 H G e (.binOp .rem t x y t') ty (.int k (m.tmod n)) :=
  ex_int h1 h2 fun w => by simp [binOp, Op.intDiv, hn]

theorem wrap64_in {n : Int} (h : -9223372036854775808 ≤ n ∧ n < 9223372036854775808) : IntKind.i64.wrap n = n := by
  rw [IntKind.wrap_i64]; omega
theorem ex_addn {t t' : TypeId} {x y : Operand} {m n : Int} (h1 : Ev G e x (.int .i64 m)) (h2 : Ev G e y (.int .i64 n)) (hb : -9223372036854775808 ≤ m + n ∧ m + n < 9223372036854775808) : Ex P Be w0 H G e (.binOp .add t x y t') ty (.int .i64 (m + n)) := by
  have := ex_add (P := P) (Be := Be) (w0 := w0) (H := H) (t := t) (t' := t') (ty := ty) h1 h2
  rwa [wrap64_in hb] at this
theorem ex_subn {t t' : TypeId} {x y : Operand} {m n : Int} (h1 : Ev G e x (.int .i64 m)) (h2 : Ev G e y (.int .i64 n)) (hb : -9223372036854775808 ≤ m - n ∧ m - n < 9223372036854775808) : Ex P Be w0 H G e (.binOp .sub t x y t') ty (.int .i64 (m - n)) := by
  have := ex_sub (P := P) (Be := Be) (w0 := w0) (H := H) (t := t) (t' := t') (ty := ty) h1 h2
  rwa [wrap64_in hb] at this
theorem ex_muln {t t' : TypeId} {x y : Operand} {m n : Int} (h1 : Ev G e x (.int .i64 m)) (h2 : Ev G e y (.int .i64 n)) (hb : -9223372036854775808 ≤ m * n ∧ m * n < 9223372036854775808) : Ex P Be w0 H G e (.binOp .mul t x y t') ty (.int .i64 (m * n)) := by
  have := ex_mul (P := P) (Be := Be) (w0 := w0) (H := H) (t := t) (t' := t') (ty := ty) h1 h2
  rwa [wrap64_in hb] at this

theorem ex_lss {t t' : TypeId} {x y : Operand} {k : IntKind} {m n : Int} (h1 : Ev G e x (.int k m)) (h2 : Ev G e y (.int k n)) : Ex P Be w0 H G e (.binOp .lss t x y t') ty (.bool (decide (m < n))) :=
  ex_int h1 h2 fun w => by simp [binOp, Op.intCmp]
theorem ex_leq {t t' : TypeId} {x y : Operand} {k : IntKind} {m n : Int} (h1 : Ev G e x (.int k m)) (h2 : Ev G e y (.int k n)) : Ex P Be w0 H G e (.binOp .leq t x y t') ty (.bool (decide (m ≤ n))) :=
  ex_int h1 h2 fun w => by simp [binOp, Op.intCmp]
theorem ex_gtr {t t' : TypeId} {x y : Operand} {k : IntKind} {m n : Int} (h1 : Ev G e x (.int k m)) (h2 : Ev G e y (.int k n)) : Ex P Be w0 H G e (.binOp .gtr t x y t') ty (.bool (decide (n < m))) :=
  ex_int h1 h2 fun w => by simp [binOp, Op.intCmp]
theorem ex_geq {t t' : TypeId} {x y : Operand} {k : IntKind} {m n : Int} (h1 : Ev G e x (.int k m)) (h2 : Ev G e y (.int k n)) : Ex P Be w0 H G e (.binOp .geq t x y t') ty (.bool (decide (n ≤ m))) :=
  ex_int h1 h2 fun w => by simp [binOp, Op.intCmp]
theorem ex_eql {t t' : TypeId} {x y : Operand} {k : IntKind} {m n : Int} (h1 : Ev G e x (.int k m)) (h2 : Ev G e y (.int k n)) : Ex P Be w0 H G e (.binOp .eql t x y t') ty (.bool (decide (m = n))) :=
  ex_int h1 h2 fun w => by simp [binOp, Op.intCmp]; rw [Bool.eq_iff_iff]; simp
theorem ex_neq {t t' : TypeId} {x y : Operand} {k : IntKind} {m n : Int} (h1 : Ev G e x (.int k m)) (h2 : Ev G e y (.int k n)) : Ex P Be w0 H G e (.binOp .neq t x y t') ty (.bool (!decide (m = n))) :=
  ex_int h1 h2 fun w => by simp [binOp, Op.intCmp]; rw [Bool.eq_iff_iff]; simp

/-! ### Strings -/
theorem bytes_toList (s : ByteArray) : s.toList = s.data.toList := Go.ByteArray.toList_eq s
theorem bytes_ext {s t : ByteArray} (h : s.toList = t.toList) : s = t := by
  rw [bytes_toList, bytes_toList] at h
  cases s; cases t
  simp only [ByteArray.mk.injEq]
  exact Array.toList_inj.1 h
/-- Strings compared: as a proposition. -/
theorem bytes_beq (s t : ByteArray) : (s.toList == t.toList) = decide (s = t) := by
  rw [Bool.eq_iff_iff]
  simp only [beq_iff_eq, decide_eq_true_eq]
  exact ⟨bytes_ext, fun h => by rw [h]⟩
/-- The order of strings. -/
def sless (s t : ByteArray) : Bool := Op.bytesLess s.data.toList t.data.toList

theorem ex_str {bop : BinOp} {t t' : TypeId} {x y : Operand} {r s : ByteArray} {v : Value} (h1 : Ev G e x (.string r)) (h2 : Ev G e y (.string s)) (hr : ∀ w, (Op.stringOp bop r s).run P w = .ok v w) : Ex P Be w0 H G e (.binOp bop t x y t') ty v := by
  intro N a w o ho ht hf hh hG
  simp only [execOp, ho, h1 N a hf hG, h2 N a hf hG, Sem.run_bind]
  have : (eqGuard bop t x y (.string r) (.string s)).run P w = .ok () w := by
    unfold eqGuard
    cases bop <;> simp
  rw [this]
  have h3 : binOp bop t (.string r) (.string s) = Op.stringOp bop r s := by cases bop <;> rfl
  simp [h3, hr w]
theorem ex_seql {t t' : TypeId} {x y : Operand} {r s : ByteArray} (h1 : Ev G e x (.string r)) (h2 : Ev G e y (.string s)) : Ex P Be w0 H G e (.binOp .eql t x y t') ty (.bool (decide (r = s))) :=
  ex_str h1 h2 fun w => by simp [Op.stringOp, bytes_beq]
theorem ex_sneq {t t' : TypeId} {x y : Operand} {r s : ByteArray} (h1 : Ev G e x (.string r)) (h2 : Ev G e y (.string s)) : Ex P Be w0 H G e (.binOp .neq t x y t') ty (.bool (!decide (r = s))) :=
  ex_str h1 h2 fun w => by simp [Op.stringOp, bytes_beq]
theorem ex_sgeq {t t' : TypeId} {x y : Operand} {r s : ByteArray} (h1 : Ev G e x (.string r)) (h2 : Ev G e y (.string s)) : Ex P Be w0 H G e (.binOp .geq t x y t') ty (.bool (!sless r s)) :=
  ex_str h1 h2 fun w => by simp [Op.stringOp, sless, bytes_toList]
theorem ex_slss {t t' : TypeId} {x y : Operand} {r s : ByteArray} (h1 : Ev G e x (.string r)) (h2 : Ev G e y (.string s)) : Ex P Be w0 H G e (.binOp .lss t x y t') ty (.bool (sless r s)) :=
  ex_str h1 h2 fun w => by simp [Op.stringOp, sless, bytes_toList]
theorem ex_sadd {t t' : TypeId} {x y : Operand} {r s : ByteArray} (h1 : Ev G e x (.string r)) (h2 : Ev G e y (.string s)) (hb : r.size + s.size < 9223372036854775808) : Ex P Be w0 H G e (.binOp .add t x y t') ty (.string (r ++ s)) :=
  ex_str h1 h2 fun w => by
    have : ¬ ((r.size + s.size : Nat) : Int) > IntKind.i64.max := by
      have : IntKind.i64.max = 9223372036854775807 := by decide
      omega
    simp only [Op.stringOp, if_neg this, Sem.run_pure]
theorem ex_beql {t t' : TypeId} {x y : Operand} {r s : Bool} (h1 : Ev G e x (.bool r)) (h2 : Ev G e y (.bool s)) [ht : TBool P t] : Ex P Be w0 H G e (.binOp .eql t x y t') ty (.bool (r == s)) := by
  intro N a w o ho _ hf hh hG
  simp only [execOp, ho, h1 N a hf hG, h2 N a hf hG, Sem.run_bind]
  have : (eqGuard .eql t x y (.bool r) (.bool s)).run P w = .ok () w := by unfold eqGuard; simp
  rw [this]
  have h3 : (Op.equal t (.bool r) (.bool s)).run P w = .ok (r == s) w := run_equalIn_bool w 9999 t r s ht.bool
  have h4 : binOp .eql t (.bool r) (.bool s) = (do pure (.bool ((← Op.equal t (.bool r) (.bool s))))) := rfl
  simp only [h4, Sem.run_bind, Sem.run_map, h3, Result.andThen_ok, Sem.run_pure]
theorem ex_bneq {t t' : TypeId} {x y : Operand} {r s : Bool} (h1 : Ev G e x (.bool r)) (h2 : Ev G e y (.bool s)) [ht : TBool P t] : Ex P Be w0 H G e (.binOp .neq t x y t') ty (.bool (!(r == s))) := by
  intro N a w o ho _ hf hh hG
  simp only [execOp, ho, h1 N a hf hG, h2 N a hf hG, Sem.run_bind]
  have : (eqGuard .neq t x y (.bool r) (.bool s)).run P w = .ok () w := by unfold eqGuard; simp
  rw [this]
  have h3 : (Op.equal t (.bool r) (.bool s)).run P w = .ok (r == s) w := run_equalIn_bool w 9999 t r s ht.bool
  have h4 : binOp .neq t (.bool r) (.bool s) = (do pure (.bool (!(← Op.equal t (.bool r) (.bool s))))) := rfl
  simp only [h4, Sem.run_bind, Sem.run_map, h3, Result.andThen_ok, Sem.run_pure]

theorem goInt_eq (n : Int) : goInt n = .int .i64 n := rfl
theorem ex_slen {x : Operand} {t : TypeId} {s : ByteArray} (h : Ev G e x (.string s)) [ht : TStr P t] : Ex P Be w0 H G e (.call ⟨.builtin .len, #[x], #[t]⟩) ty (.int .i64 s.size) := by
  intro N a w o ho _ hf hh hG
  simp [execOp, ho, h N a hf hG, resolve, invoke, builtin, Builtin.len_, run_underlying ht.str, goInt]
theorem ex_len {x : Operand} {t el : TypeId} {A : Option Addr} {n c : Nat} (h : Ev G e x (.slice A n c)) [ht : TSlice P t el] : Ex P Be w0 H G e (.call ⟨.builtin .len, #[x], #[t]⟩) ty (.int .i64 n) := by
  intro N a w o ho _ hf hh hG
  simp [execOp, ho, h N a hf hG, resolve, invoke, builtin, Builtin.len_, run_underlying ht.slice, goInt]

theorem ex_min {x y : Operand} {ts : Array TypeId} {k : IntKind} {m n : Int} (h1 : Ev G e x (.int k m)) (h2 : Ev G e y (.int k n)) : Ex P Be w0 H G e (.call ⟨.builtin .min, #[x, y], ts⟩) ty (.int k (if n < m then n else m)) := by
  intro N a w o ho _ hf hh hG
  simp [execOp, ho, h1 N a hf hG, h2 N a hf hG, resolve, invoke, builtin, Builtin.min_, Builtin.min2]
theorem ex_max {x y : Operand} {ts : Array TypeId} {k : IntKind} {m n : Int} (h1 : Ev G e x (.int k m)) (h2 : Ev G e y (.int k n)) : Ex P Be w0 H G e (.call ⟨.builtin .max, #[x, y], ts⟩) ty (.int k (if n > m then n else m)) := by
  intro N a w o ho _ hf hh hG
  simp [execOp, ho, h1 N a hf hG, h2 N a hf hG, resolve, invoke, builtin, Builtin.max_, Builtin.max2]

/-- 's[:h]', 's[l:]', 's[l:h]' of a slice. -/
theorem sliced0 (A : Option Addr) (h m s : Nat) : sliced A 0 h m s = .slice A h m := by
  unfold sliced
  simp [Addr.add]
theorem ex_slice_h {t el : TypeId} {x y : Operand} {A : Option Addr} {n c sz : Nat} {k : IntKind} {h : Int} (h1 : Ev G e x (.slice A n c)) (h2 : Ev G e y (.int k h)) (hb : 0 ≤ h ∧ h ≤ c) [ht : TSlice P t el] [hs : TSize P el sz] :
    Ex P Be w0 H G e (.slice t x none (some y) none) ty (.slice A h.toNat c) := by
  intro N a w o ho _ hf hh hG
  have he : P.elem t = el := by simp [Program.elem, ht.slice]
  simp only [execOp, ho, h1 N a hf hG, Option.map_none, Option.map_some, h2 N a hf hG, Instr.sliceAt, Sem.run_bind, run_underlying ht.slice, Result.andThen_ok]
  rw [run_slice_h w t A n c (by rw [he]; exact ht.slice) k h hb.1 hb.2, he, hs.run w]
  simp [sliced0]
/-- '==' of two structs. -/
theorem ex_aggeql {t t' : TypeId} {x y : Operand} {xs ys : Array Value} {b : Bool} (h1 : Ev G e x (.agg xs)) (h2 : Ev G e y (.agg ys)) (hm : P.eqGuardType P.depth t = false) (hr : ∀ w, (Op.equalIn 10000 t (.agg xs) (.agg ys)).run P w = .ok b w) : Ex P Be w0 H G e (.binOp .eql t x y t') ty (.bool b) := by
  intro N a w o ho _ hf hh hG
  simp only [execOp, ho, h1 N a hf hG, h2 N a hf hG, Sem.run_bind, run_eqGuard_agg w _ _ _ _ _ _ hm, Result.andThen_ok, run_eql_struct, hr w, Sem.run_pure]
theorem ex_sindex {x y : Operand} {t : TypeId} {k : IntKind} {s : ByteArray} {i : Nat} (h : Ev G e x (.string s)) (h2 : Ev G e y (.int k i)) (hi : i < s.size) [ht : TStr P t] : Ex P Be w0 H G e (.index t x y) ty (.int .u8 (s[i].toNat : Nat)) := by
  intro N a w o ho _ hf hh hG
  have h3 : s[i]? = some s[i] := by simp [getElem?_def, hi]
  simp [execOp, ho, h N a hf hG, h2 N a hf hG, Instr.index, asIntOf, run_underlying ht.str, h3]

theorem ex_extract {x : Operand} {i : Nat} {vs : Array Value} {v : Value} (h : Ev G e x (.tuple vs)) (hi : vs[i]? = some v) : Ex P Be w0 H G e (.extract x i) ty v := by
  intro N a w o ho _ hf hh hG
  simp [execOp, ho, h N a hf hG, Instr.extract, hi]

theorem ex_makeFunc {fn : Fn} {first cap : List Operand} {fs cs : List Value} (h1 : Evs G e first fs) (h2 : Evs G e cap cs) : Ex P Be w0 H G e (.makeFunc fn first.toArray cap.toArray) ty (.func fn fs.toArray cs.toArray) := by
  intro N a w o ho _ hf hh hG
  simp [execOp, ho, Instr.makeFunc, h1 N a hf hG, h2 N a hf hG]

theorem ex_nilCheck {x : Operand} {ad : Addr} (h : Ev G e x (.pointer (some ad))) : Ex P Be w0 H G e (.nilCheck x) ty (.pointer (some ad)) := by
  intro N a w o ho _ hf hh hG
  simp [execOp, ho, h N a hf hG]

/-! ### Memory -/
theorem ex_fieldAddr {t : TypeId} {x : Operand} {i off : Nat} {ft : TypeId} {ad : Addr} (h : Ev G e x (.pointer (some ad))) [TField P t i off ft] : Ex P Be w0 H G e (.fieldAddr t x i) ty (.pointer (some (ad.add off))) := by
  intro N a w o ho _ hf hh hG
  simp [execOp, ho, h N a hf hG, TField.run w ad (i := i) (off := off) (ft := ft) (P := P) (t := t)]
/-- At a block's own address. -/
theorem ex_fieldAddr' {t : TypeId} {x : Operand} {i off : Nat} {ft : TypeId} {g k : Nat} (h : Ev G e x (.pointer (some ⟨g, k, none⟩))) [TField P t i off ft] : Ex P Be w0 H G e (.fieldAddr t x i) ty (.pointer (some ⟨g, k + off, none⟩)) := by
  have := ex_fieldAddr (P := P) (Be := Be) (w0 := w0) (H := H) (ty := ty) (t := t) (i := i) h
  have h2 : (⟨g, k, none⟩ : Addr).add off = ⟨g, k + off, none⟩ := by
    unfold Addr.add
    split
    · rename_i h0; subst h0; rfl
    · rfl
  rwa [h2] at this
theorem ex_indexAddr {t el : TypeId} {x y : Operand} {k : IntKind} {i : Nat} {A : Option Addr} {ad : Addr} {n c sz : Nat} (h : Ev G e x (.slice A n c)) (h2 : Ev G e y (.int k i)) (hA : A = some ad) (hi : i < n) [ht : TSlice P t el] [hs : TSize P el sz] :
    Ex P Be w0 H G e (.indexAddr t x y) ty (.pointer (some (ad.add (i * sz)))) := by
  subst hA
  intro N a w o ho _ hf hh hG
  simp [execOp, ho, h N a hf hG, h2 N a hf hG, Instr.indexAt, asIntOf, run_underlying ht.slice, hs.run w, hi]

theorem ex_indexAddrI {t el : TypeId} {x y : Operand} {k : IntKind} {i : Int} {A : Option Addr} {ad : Addr} {n c sz : Nat} (h : Ev G e x (.slice A n c)) (h2 : Ev G e y (.int k i)) (hA : A = some ad) (hi : 0 ≤ i ∧ i < n) [ht : TSlice P t el] [hs : TSize P el sz] :
    Ex P Be w0 H G e (.indexAddr t x y) ty (.pointer (some (ad.add (i.toNat * sz)))) := by
  obtain ⟨j, rfl⟩ := Int.eq_ofNat_of_zero_le hi.1
  exact ex_indexAddr h h2 hA (by have := hi.2; omega)

/-- A load of one cell. -/
theorem ex_load1 {t : TypeId} {x : Operand} {ad : Addr} {v : Value} (h : Ev G e x (.pointer (some ad))) (hc : ∀ w, Hp Be w0 H w → w.cell? ad = some v) [TCell P t] : Ex P Be w0 H G e (.load t x) ty v := by
  intro N a w o ho _ hf hh hG
  simp [execOp, ho, h N a hf hG, Instr.loadAt, Instr.sureAddr, loadVar, TCell.run w (P := P) (t := t), hc w hh]
/-- One cell of an own block. -/
theorem ex_loadown {t : TypeId} {x : Operand} {g i : Nat} {cs : Array Value} {T : TypeId} {f : Nat × Nat} {v : Value} (h : Ev G e x (.pointer (some ⟨g, i, none⟩))) (hm : Bk Be w0 H g (.cells cs T f)) (hv : cs[i]? = some v) [TCell P t] : Ex P Be w0 H G e (.load t x) ty v :=
  ex_load1 h fun w hh => (hm.cell hh i).trans hv

theorem loadCells_of {w : World} {ad : Addr} {n : Nat} {cs : Array Value} (hs : cs.size = n) (h : ∀ j v, cs[j]? = some v → w.cell? (ad.add j) = some v) : (loadCells ad n).run P w = .ok cs w := by
  have := run_loadCells_list (P := P) w ad cs.toList (fun j v hj => h j v (by simpa using hj))
  rw [← hs]
  simpa using this
/-- A load of several. -/
theorem ex_loadn {t : TypeId} {x : Operand} {ad : Addr} {n : Nat} {cs : Array Value} (h : Ev G e x (.pointer (some ad))) (hn : cs.size = n) (hc : ∀ w, Hp Be w0 H w → ∀ j v, cs[j]? = some v → w.cell? (ad.add j) = some v) [TAgg P t] [hs : TSize P t n] : Ex P Be w0 H G e (.load t x) ty (.agg cs) := by
  intro N a w o ho _ hf hh hG
  simp [execOp, ho, h N a hf hG, Instr.loadAt, Instr.sureAddr, loadVar, TAgg.run w (P := P) (t := t), hs.run w, loadCells_of (P := P) hn (hc w hh)]
theorem addr_add0 (g j : Nat) : (⟨g, 0, none⟩ : Addr).add j = ⟨g, j, none⟩ := by
  unfold Addr.add
  split
  · rename_i h0; subst h0; rfl
  · simp
theorem addr_add (g i j : Nat) : (⟨g, i, none⟩ : Addr).add j = ⟨g, i + j, none⟩ := by
  unfold Addr.add
  split
  · rename_i h0; subst h0; rfl
  · simp
theorem ex_loadowns {t : TypeId} {x : Operand} {g n : Nat} {cs : Array Value} {T : TypeId} {f : Nat × Nat} (h : Ev G e x (.pointer (some ⟨g, 0, none⟩))) (hm : Bk Be w0 H g (.cells cs T f)) (hn : cs.size = n) [TAgg P t] [TSize P t n] : Ex P Be w0 H G e (.load t x) ty (.agg cs) :=
  ex_loadn h hn fun w hh j v hj => by rw [addr_add0]; exact (hm.cell hh j).trans hj
theorem ex_loadpart {t : TypeId} {x : Operand} {g i n : Nat} {cs : Array Value} {T : TypeId} {f : Nat × Nat} (h : Ev G e x (.pointer (some ⟨g, i, none⟩))) (hm : Bk Be w0 H g (.cells cs T f)) (hn : i + n ≤ cs.size) [TAgg P t] [TSize P t n] : Ex P Be w0 H G e (.load t x) ty (.agg (cs.extract i (i + n))) :=
  ex_loadn h (by simp; omega) fun w hh j v hj => by
    rw [addr_add]
    refine (hm.cell hh (i + j)).trans ?_
    rw [Array.getElem?_extract] at hj
    split at hj
    · exact hj
    · cases hj
end

theorem eqFields_str {P : Program} {w : World} {d t : Nat} {xs ys : Array Value} {f : Field} {fs : List Field} {a b : ByteArray} [ht : TStr P t] [TCell P t] (hn : f.name ≠ "_") (hft : f.type = t) (ha : xs[f.offset]? = some (.string a)) (hb : ys[f.offset]? = some (.string b)) :
    (Op.eqFields (d + 1) xs ys (f :: fs)).run P w = if a = b then (Op.eqFields (d + 1) xs ys fs).run P w else .ok false w := by
  have hp : ∀ (cs : Array Value) (v : Value), cs[f.offset]? = some v → (part f.type cs f.offset).run P w = .ok v w := fun cs v h => by
    simp [part, hft, TCell.run w (P := P) (t := t), h]
  have h1 := run_equalIn_string (P := P) w d t a b ht.str
  rw [← hft] at h1
  simp only [Op.eqFields, if_pos hn, Sem.run_bind, hp xs _ ha, hp ys _ hb, Result.andThen_ok, h1, bytes_beq]
  by_cases h : a = b
  · simp [h]
  · simp [h]
theorem eqFields_int {P : Program} {w : World} {d t : Nat} {xs ys : Array Value} {f : Field} {fs : List Field} {k : IntKind} {a b : Int} [ht : TInt P t k] [TCell P t] (hn : f.name ≠ "_") (hft : f.type = t) (ha : xs[f.offset]? = some (.int k a)) (hb : ys[f.offset]? = some (.int k b)) :
    (Op.eqFields (d + 1) xs ys (f :: fs)).run P w = if a = b then (Op.eqFields (d + 1) xs ys fs).run P w else .ok false w := by
  have hp : ∀ (cs : Array Value) (v : Value), cs[f.offset]? = some v → (part f.type cs f.offset).run P w = .ok v w := fun cs v h => by
    simp [part, hft, TCell.run w (P := P) (t := t), h]
  have h1 := run_equalIn_int (P := P) w d t k k a b ht.int
  rw [← hft] at h1
  simp only [Op.eqFields, if_pos hn, Sem.run_bind, hp xs _ ha, hp ys _ hb, Result.andThen_ok, h1]
  by_cases h : a = b
  · simp [h]
  · simp [h]
theorem eqFields_nil {P : Program} {w : World} {d : Nat} {xs ys : Array Value} : (Op.eqFields d xs ys []).run P w = .ok true w := rfl

/-! ### Operations that write -/
section
variable {P : Program} {N Be : Nat} {Q : Post} {e : Env} {w0 : World} {H : Heap} {ops : Array Oper} {rest : List Oper} {ty : TypeId} {pos : String} {after : Array Edge} {d : Nat}

theorem spl_alloc {t : TypeId} {z : Value} [hz : TZero P t z] (hN : Nat.blt d N = true)
    (k : ∀ g, w0.heap.size ≤ g → Spl P N Be ops Q rest ((d, true, .pointer (some ⟨g, 0, none⟩)) :: e) w0 ((g, .cells z.cells t (0, 0)) :: H)) :
    Spl P N Be ops Q (⟨some d, .alloc t, ty, pos, after, none⟩ :: rest) e w0 H := by
  intro a w hf hh
  have hd : d < N := by simpa [Nat.blt_eq] using hN
  refine wpList_plain rfl fun K hK => ?_
  have hr : (execOp a.eval ⟨some d, .alloc t, ty, pos, after, none⟩).run P w = .ok (.value (.pointer (some ⟨w.heap.size, 0, none⟩))) (w.alloc (.cells z.cells t)) := by
    simp [execOp, Instr.alloc, hz.run w, newVar, newRow]
  unfold Oper.wp
  rw [hr, Oper.upon_value]
  exact hK _ _ (k _ hh.size _ _ (hf.puttrue hd) (hh.alloc _))

theorem spl_box {t : TypeId} {x : Operand} {v : Value} (hx : Ev true e x v) (hN : Nat.blt d N = true)
    (k : ∀ g, w0.heap.size ≤ g → Spl P N Be ops Q rest ((d, true, .pointer (some ⟨g, 0, none⟩)) :: e) w0 ((g, .cells v.cells t (0, 0)) :: H)) :
    Spl P N Be ops Q (⟨some d, .box t x, ty, pos, after, none⟩ :: rest) e w0 H := by
  intro a w hf hh
  have hd : d < N := by simpa [Nat.blt_eq] using hN
  refine wpList_plain rfl fun K hK => ?_
  have hr : (execOp a.eval ⟨some d, .box t x, ty, pos, after, none⟩).run P w = .ok (.value (.pointer (some ⟨w.heap.size, 0, none⟩))) (w.alloc (.cells v.cells t)) := by
    simp [execOp, Instr.box, hx N a hf rfl, newVar, newRow]
  unfold Oper.wp
  rw [hr, Oper.upon_value]
  exact hK _ _ (k _ hh.size _ _ (hf.puttrue hd) (hh.alloc _))

/-- A store of one cell into an own block. -/
theorem spl_store1 {t : TypeId} {x y : Operand} {g i : Nat} {cs : Array Value} {T : TypeId} {v : Value} {H' : Heap} (hx : Ev true e x (.pointer (some ⟨g, i, none⟩))) (hy : Ev true e y v) (hv : v.oneCell' = true) [hs : TSize P t 1]
    (hu : Upd H g (.cells cs T (0, 0)) (.cells (cs.setIfInBounds i v) T (0, 0)) H') (hi : Nat.blt i cs.size = true) (k : Spl P N Be ops Q rest e w0 H') :
    Spl P N Be ops Q (⟨none, .store t x y, ty, pos, after, none⟩ :: rest) e w0 H := by
  intro a w hf hh
  refine wpList_plain rfl fun K hK => ?_
  have hi' : i < cs.size := by simpa [Nat.blt_eq] using hi
  have hg : w.heap[g]? = some (.cells cs T (0, 0)) := hh.own _ hu.mem
  have hc : w.cell? ⟨g, i, none⟩ = some cs[i] := by rw [hh.cell hu.mem i]; simp [hi']
  have hfz : w.frozen? ⟨g, i, none⟩ = false := by simp [World.frozen?, hg]
  have hcells : v.cells = #[v] := by cases v <;> simp_all [Value.oneCell', Value.cells]
  have hr : (execOp a.eval ⟨none, .store t x y, ty, pos, after, none⟩).run P w = .ok .skip (w.setCell ⟨g, i, none⟩ v) := by
    simp [execOp, hx N a hf rfl, hy N a hf rfl, Instr.storeAt, Instr.sureAddr, storeVar, hs.run w, hcells, storeCells, addr_add, run_store P w _ v _ hv, hc, hfz]
  unfold Oper.wp
  rw [hr, Oper.upon_skip]
  exact hK _ _ (k _ _ hf.putnone (hh.setCell hu))

theorem heap_setRow {w : World} {g : Nat} {cs cs' : Array Value} {T : TypeId} (hg : w.heap[g]? = some (.cells cs T (0, 0))) : (w.setRow g cs').heap[g]? = some (.cells cs' T (0, 0)) := by
  simp [World.setRow, Array.getElem?_modify, hg]

/-- A store over a whole own block. -/
theorem spl_stores {t : TypeId} {x y : Operand} {g n : Nat} {cs cs' : Array Value} {T : TypeId} {H' : Heap} (hx : Ev true e x (.pointer (some ⟨g, 0, none⟩))) (hy : Ev true e y (.agg cs')) [hs : TSize P t n]
    (hu : Upd H g (.cells cs T (0, 0)) (.cells cs' T (0, 0)) H') (hn : cs.size = n) (hn' : cs'.size = n) (h1 : ∀ v ∈ cs', v.oneCell' = true) (k : Spl P N Be ops Q rest e w0 H') :
    Spl P N Be ops Q (⟨none, .store t x y, ty, pos, after, none⟩ :: rest) e w0 H := by
  intro a w hf hh
  refine wpList_plain rfl fun K hK => ?_
  have hg : w.heap[g]? = some (.cells cs T (0, 0)) := hh.own _ hu.mem
  have hst := run_storeCells_at (P := P) g 0 T cs'.toList 0 cs w hg (by simp; omega) (fun v hv => h1 v (by simpa using hv))
  have hrow : (cs.toList.take (0 + 0) ++ cs'.toList ++ cs.toList.drop (0 + 0 + cs'.toList.length)).toArray = cs' := by
    have : cs.toList.drop cs'.size = [] := List.drop_eq_nil_of_le (by simp; omega)
    simp [this]
  rw [hrow] at hst
  have hr : (execOp a.eval ⟨none, .store t x y, ty, pos, after, none⟩).run P w = .ok .skip (w.setRow g cs') := by
    simp [execOp, hx N a hf rfl, hy N a hf rfl, Instr.storeAt, Instr.sureAddr, storeVar, hs.run w, Value.cells, hn', hst]
  unfold Oper.wp
  rw [hr, Oper.upon_skip]
  exact hK _ _ (k _ _ hf.putnone (hh.upd hu rfl rfl rfl (by simp [World.setRow]) (fun k _ hk => setRow_other w g k cs' hk) (setRow_heap w g cs cs' T (0, 0) hg)))

/-- A store over a part of an own block. -/
theorem spl_storep {t : TypeId} {x y : Operand} {g off n : Nat} {cs cs' : Array Value} {T : TypeId} {H' : Heap} (hx : Ev true e x (.pointer (some ⟨g, off, none⟩))) (hy : Ev true e y (.agg cs')) [hs : TSize P t n]
    (hu : Upd H g (.cells cs T (0, 0)) (.cells (cs.toList.take off ++ cs'.toList ++ cs.toList.drop (off + n)).toArray T (0, 0)) H') (hn : off + n ≤ cs.size) (hn' : cs'.size = n) (h1 : ∀ v ∈ cs', v.oneCell' = true) (k : Spl P N Be ops Q rest e w0 H') :
    Spl P N Be ops Q (⟨none, .store t x y, ty, pos, after, none⟩ :: rest) e w0 H := by
  intro a w hf hh
  refine wpList_plain rfl fun K hK => ?_
  have hg : w.heap[g]? = some (.cells cs T (0, 0)) := hh.own _ hu.mem
  have hst := run_storeCells_at (P := P) g off T cs'.toList 0 cs w hg (by simp; omega) (fun v hv => h1 v (by simpa using hv))
  simp only [Nat.add_zero, Array.length_toList, hn'] at hst
  have hr : (execOp a.eval ⟨none, .store t x y, ty, pos, after, none⟩).run P w = .ok .skip (w.setRow g (cs.toList.take off ++ cs'.toList ++ cs.toList.drop (off + n)).toArray) := by
    simp only [execOp, hx N a hf rfl, hy N a hf rfl, Instr.storeAt, Instr.sureAddr, storeVar, hs.run w, Value.cells, hn', hst, Sem.run_bind, Sem.run_pure, Result.andThen_ok, ne_eq, not_true_eq_false, if_false]
  unfold Oper.wp
  rw [hr, Oper.upon_skip]
  exact hK _ _ (k _ _ hf.putnone (hh.upd hu rfl rfl rfl (by simp [World.setRow]) (fun k _ hk => setRow_other w g k _ hk) (setRow_heap w g cs _ T (0, 0) hg)))

/-! ### Calls -/
/-- A call that hands back v and leaves all that was there as it was. -/
def Ret (w : World) (v : Value) : Ending → World → Prop := fun en w' => en = .returned v ∧ Below w.heap.size w w'

theorem exec_call {a : Act} {w : World} {f : FuncId} {xs : List Operand} {ts : Array TypeId} {vs : List Value} {o : Oper} {c : Operand} {first cap : Array Value} [TFn P f] (ho : o.op = .call ⟨.value c, xs.toArray, ts⟩) (hc : a.eval c = .func (.func f) first cap) (h : xs.map a.eval = vs) :
    (execOp a.eval o).run P w = .ok (.enter f (first ++ vs.toArray ++ cap)) w := by
  simp only [execOp, ho, resolve, Deferred.ofValue, hc, Sem.run_bind, Sem.run_pure, Result.andThen_ok, invoke]
  have h2 : Array.map a.eval xs.toArray = vs.toArray := by simp [h]
  rw [h2]
  exact TFn.run w _

/-- A call of a named function that only makes memory of its own. -/
theorem spl_callp {f : FuncId} {xs : List Operand} {ts : Array TypeId} {vs : List Value} {v : Value} [TFn P f] (hN : Nat.blt d N = true) (hx : Evs true e xs vs) (hc : ∀ w, Hp Be w0 H w → Calls P f vs.toArray w (Ret w v))
    (k : Spl P N Be ops Q rest ((d, true, v) :: e) w0 H) : Spl P N Be ops Q (⟨some d, .call ⟨.value (.func f), xs.toArray, ts⟩, ty, pos, after, none⟩ :: rest) e w0 H := by
  intro a w hf hh
  have hd : d < N := by simpa [Nat.blt_eq] using hN
  refine wpList_plain rfl fun K hK => ?_
  unfold Oper.wp
  rw [exec_call (f := f) (first := #[]) (cap := #[]) rfl rfl (hx N a hf rfl), Oper.upon_enter]
  simp only [List.nil_append, List.append_toArray, List.append_nil]
  refine (hc w hh).mono ?_
  rintro en w' ⟨rfl, hb⟩
  exact hK _ _ (k _ _ (hf.puttrue hd) (hh.below hb))

theorem spl_callp_g {f : FuncId} {xs : List Operand} {ts : Array TypeId} {vs : List Value} {v : Value} {g : Option (Nat × Bool)} {G : Bool} [TFn P f] (hN : Nat.blt d N = true) (hg : Gd ops e g G) (hx : Evs G e xs vs) (hc : G = true → ∀ w, Hp Be w0 H w → Calls P f vs.toArray w (Ret w v))
    (k : Spl P N Be ops Q rest ((d, G, v) :: e) w0 H) : Spl P N Be ops Q (⟨some d, .call ⟨.value (.func f), xs.toArray, ts⟩, ty, pos, after, g⟩ :: rest) e w0 H := by
  intro a w hf hh
  have hd : d < N := by simpa [Nat.blt_eq] using hN
  refine wpList_step fun K hK => ?_
  rw [hg N a _ hf rfl]
  cases hG : G with
  | true =>
    rw [if_pos rfl]
    unfold Oper.wp
    rw [exec_call (f := f) (first := #[]) (cap := #[]) rfl rfl (hx N a hf hG), Oper.upon_enter]
    simp only [List.nil_append, List.append_toArray, List.append_nil]
    refine (hc hG w hh).mono ?_
    rintro en w' ⟨rfl, hb⟩
    refine hK _ _ (k _ _ ?_ (hh.below hb))
    rw [hG]; exact hf.puttrue hd
  | false =>
    rw [if_neg (by simp)]
    refine hK _ _ (k _ _ ?_ hh)
    rw [hG]; exact hf.put (g := false) hd

/-- A call that hands back one of a family of values, of which something is known. -/
def RetP {X : Type} (w : World) (V : X → Value) (I : X → Prop) : Ending → World → Prop := fun en w' => ∃ x, en = .returned (V x) ∧ I x ∧ Below w.heap.size w w'
theorem spl_callb {f : FuncId} {xs : List Operand} {ts : Array TypeId} {vs : List Value} {X : Type} {V : X → Value} {I : X → Prop} [TFn P f] (hN : Nat.blt d N = true) (hx : Evs true e xs vs) (hc : ∀ w, Hp Be w0 H w → Calls P f vs.toArray w (RetP w V I))
    (k : ∀ x, I x → Spl P N Be ops Q rest ((d, true, V x) :: e) w0 H) : Spl P N Be ops Q (⟨some d, .call ⟨.value (.func f), xs.toArray, ts⟩, ty, pos, after, none⟩ :: rest) e w0 H := by
  intro a w hf hh
  have hd : d < N := by simpa [Nat.blt_eq] using hN
  refine wpList_plain rfl fun K hK => ?_
  unfold Oper.wp
  rw [exec_call (f := f) (first := #[]) (cap := #[]) rfl rfl (hx N a hf rfl), Oper.upon_enter]
  simp only [List.nil_append, List.append_toArray, List.append_nil]
  refine (hc w hh).mono ?_
  rintro en w' ⟨x, rfl, hI, hb⟩
  exact hK _ _ (k x hI _ _ (hf.puttrue hd) (hh.below hb))
theorem spl_callb_g {f : FuncId} {xs : List Operand} {ts : Array TypeId} {vs : List Value} {X : Type} [Inhabited X] {V : X → Value} {I : X → Prop} {g : Option (Nat × Bool)} {G : Bool} [TFn P f] (hN : Nat.blt d N = true) (hg : Gd ops e g G) (hx : Evs G e xs vs) (hc : G = true → ∀ w, Hp Be w0 H w → Calls P f vs.toArray w (RetP w V I))
    (k : ∀ x, (G = true → I x) → Spl P N Be ops Q rest ((d, G, V x) :: e) w0 H) : Spl P N Be ops Q (⟨some d, .call ⟨.value (.func f), xs.toArray, ts⟩, ty, pos, after, g⟩ :: rest) e w0 H := by
  intro a w hf hh
  have hd : d < N := by simpa [Nat.blt_eq] using hN
  refine wpList_step fun K hK => ?_
  rw [hg N a _ hf rfl]
  cases hG : G with
  | true =>
    rw [if_pos rfl]
    unfold Oper.wp
    rw [exec_call (f := f) (first := #[]) (cap := #[]) rfl rfl (hx N a hf hG), Oper.upon_enter]
    simp only [List.nil_append, List.append_toArray, List.append_nil]
    refine (hc hG w hh).mono ?_
    rintro en w' ⟨x, rfl, hI, hb⟩
    refine hK _ _ (k x (fun _ => hI) _ _ ?_ (hh.below hb))
    rw [hG]; exact hf.puttrue hd
  | false =>
    rw [if_neg (by simp)]
    refine hK _ _ (k default (fun h => by rw [hG] at h; cases h) _ _ ?_ hh)
    rw [hG]; exact hf.put (g := false) hd

/-- A call that hands back a value and blocks of its own. -/
def RetH {X : Type} (w : World) (V : X → Value) (HH : X → Heap) (I : X → Prop) : Ending → World → Prop := fun en w' => ∃ x, en = .returned (V x) ∧ I x ∧ Hp w.heap.size w (HH x) w'
theorem spl_callh {f : FuncId} {xs : List Operand} {ts : Array TypeId} {vs : List Value} {X : Type} {V : X → Value} {HH : X → Heap} {I : X → Prop} [TFn P f] (hN : Nat.blt d N = true) (hx : Evs true e xs vs) (hc : ∀ w, Hp Be w0 H w → Calls P f vs.toArray w (RetH w V HH I))
    (k : ∀ x, I x → (∀ p ∈ HH x, w0.heap.size ≤ p.1) → Spl P N Be ops Q rest ((d, true, V x) :: e) w0 (HH x ++ H)) : Spl P N Be ops Q (⟨some d, .call ⟨.value (.func f), xs.toArray, ts⟩, ty, pos, after, none⟩ :: rest) e w0 H := by
  intro a w hf hh
  have hd : d < N := by simpa [Nat.blt_eq] using hN
  refine wpList_plain rfl fun K hK => ?_
  unfold Oper.wp
  rw [exec_call (f := f) (first := #[]) (cap := #[]) rfl rfl (hx N a hf rfl), Oper.upon_enter]
  simp only [List.nil_append, List.append_toArray, List.append_nil]
  refine (hc w hh).mono ?_
  rintro en w' ⟨x, rfl, hI, hb⟩
  exact hK _ _ (k x hI (fun p hp => Nat.le_trans hh.size (hb.low p hp)) _ _ (hf.puttrue hd) (hh.append hb))
theorem spl_callhv {c : Operand} {f : FuncId} {first cap : List Value} {xs : List Operand} {ts : Array TypeId} {vs : List Value} {X : Type} {V : X → Value} {HH : X → Heap} {I : X → Prop} [TFn P f] (hN : Nat.blt d N = true) (hcv : Ev true e c (.func (.func f) first.toArray cap.toArray)) (hx : Evs true e xs vs)
    (hc : ∀ w, Hp Be w0 H w → Calls P f (first ++ vs ++ cap).toArray w (RetH w V HH I))
    (k : ∀ x, I x → (∀ p ∈ HH x, w0.heap.size ≤ p.1) → Spl P N Be ops Q rest ((d, true, V x) :: e) w0 (HH x ++ H)) : Spl P N Be ops Q (⟨some d, .call ⟨.value c, xs.toArray, ts⟩, ty, pos, after, none⟩ :: rest) e w0 H := by
  intro a w hf hh
  have hd : d < N := by simpa [Nat.blt_eq] using hN
  refine wpList_plain rfl fun K hK => ?_
  unfold Oper.wp
  rw [exec_call (f := f) rfl (hcv N a hf rfl) (hx N a hf rfl), Oper.upon_enter]
  simp only [List.append_toArray]
  refine (hc w hh).mono ?_
  rintro en w' ⟨x, rfl, hI, hb⟩
  exact hK _ _ (k x hI (fun p hp => Nat.le_trans hh.size (hb.low p hp)) _ _ (hf.puttrue hd) (hh.append hb))

/-- The same through a function value. -/
theorem spl_callv {c : Operand} {f : FuncId} {first cap : List Value} {xs : List Operand} {ts : Array TypeId} {vs : List Value} {v : Value} [TFn P f] (hN : Nat.blt d N = true) (hcv : Ev true e c (.func (.func f) first.toArray cap.toArray)) (hx : Evs true e xs vs)
    (hc : ∀ w, Hp Be w0 H w → Calls P f (first ++ vs ++ cap).toArray w (Ret w v))
    (k : Spl P N Be ops Q rest ((d, true, v) :: e) w0 H) : Spl P N Be ops Q (⟨some d, .call ⟨.value c, xs.toArray, ts⟩, ty, pos, after, none⟩ :: rest) e w0 H := by
  intro a w hf hh
  have hd : d < N := by simpa [Nat.blt_eq] using hN
  refine wpList_plain rfl fun K hK => ?_
  unfold Oper.wp
  rw [exec_call (f := f) rfl (hcv N a hf rfl) (hx N a hf rfl), Oper.upon_enter]
  simp only [List.append_toArray]
  refine (hc w hh).mono ?_
  rintro en w' ⟨rfl, hb⟩
  exact hK _ _ (k _ _ (hf.puttrue hd) (hh.below hb))

/-- A call of whatever effect: what it leaves is told by the caller. -/
theorem spl_callx {f : FuncId} {xs : List Operand} {ts : Array TypeId} {vs : List Value} [TFn P f] {X : Type} (V : X → Value) (W : X → World) (HH : X → Heap) (I : X → Prop) (hN : Nat.blt d N = true) (hx : Evs true e xs vs)
    (hc : ∀ w, Hp Be w0 H w → Calls P f vs.toArray w (fun en w' => ∃ x, en = .returned (V x) ∧ I x ∧ Hp Be (W x) (HH x) w'))
    (k : ∀ x, I x → Spl P N Be ops Q rest ((d, true, V x) :: e) (W x) (HH x)) : Spl P N Be ops Q (⟨some d, .call ⟨.value (.func f), xs.toArray, ts⟩, ty, pos, after, none⟩ :: rest) e w0 H := by
  intro a w hf hh
  have hd : d < N := by simpa [Nat.blt_eq] using hN
  refine wpList_plain rfl fun K hK => ?_
  unfold Oper.wp
  rw [exec_call (f := f) (first := #[]) (cap := #[]) rfl rfl (hx N a hf rfl), Oper.upon_enter]
  simp only [List.nil_append, List.append_toArray, List.append_nil]
  refine (hc w hh).mono ?_
  rintro en w' ⟨x, rfl, hI, hw⟩
  exact hK _ _ (k x hI _ _ (hf.puttrue hd) hw)
/-- The same where the result is dropped. -/
theorem spl_callx0 {f : FuncId} {xs : List Operand} {ts : Array TypeId} {vs : List Value} [TFn P f] {X : Type} (V : X → Value) (W : X → World) (HH : X → Heap) (I : X → Prop) (hx : Evs true e xs vs)
    (hc : ∀ w, Hp Be w0 H w → Calls P f vs.toArray w (fun en w' => ∃ x, en = .returned (V x) ∧ I x ∧ Hp Be (W x) (HH x) w'))
    (k : ∀ x, I x → Spl P N Be ops Q rest e (W x) (HH x)) : Spl P N Be ops Q (⟨none, .call ⟨.value (.func f), xs.toArray, ts⟩, ty, pos, after, none⟩ :: rest) e w0 H := by
  intro a w hf hh
  refine wpList_plain rfl fun K hK => ?_
  unfold Oper.wp
  rw [exec_call (f := f) (first := #[]) (cap := #[]) rfl rfl (hx N a hf rfl), Oper.upon_enter]
  simp only [List.nil_append, List.append_toArray, List.append_nil]
  refine (hc w hh).mono ?_
  rintro en w' ⟨x, rfl, hI, hw⟩
  exact hK _ _ (k x hI _ _ hf.putnone hw)

/-- Calls in a region that draws its order. -/
theorem spq_callp_g {f : FuncId} {xs : List Operand} {ts : Array TypeId} {vs : List Value} {v : Value} {g : Option (Nat × Bool)} {G : Bool} [TFn P f] (hN : Nat.blt d N = true) (hg : Gd ops e g G) (hx : Evs G e xs vs) (hc : G = true → ∀ w, Hp Be w0 H w → Calls P f vs.toArray w (Ret w v))
    (k : Spq P N Be ops Q rest ((d, G, v) :: e) w0 H) : Spq P N Be ops Q (⟨some d, .call ⟨.value (.func f), xs.toArray, ts⟩, ty, pos, after, g⟩ :: rest) e w0 H := by
  intro a hf
  have hd : d < N := by simpa [Nat.blt_eq] using hN
  refine wpQuiet_step fun K hK => ?_
  rw [hg N a _ hf rfl]
  cases hG : G with
  | true =>
    rw [if_pos rfl]
    refine ⟨v, fun w hw => ?_, hK _ (k _ ?_)⟩
    · unfold Oper.quietAt
      rw [exec_call (f := f) (first := #[]) (cap := #[]) rfl rfl (hx N a hf hG)]
      simp only [List.nil_append, List.append_toArray, List.append_nil, Oper.quietUpon, true_and]
      exact (hc hG w hw).mono fun en w' ⟨h1, h2⟩ => ⟨h1, hw.below h2⟩
    · rw [hG]; exact hf.puttrue hd
  | false =>
    rw [if_neg (by simp)]
    refine hK _ (k _ ?_)
    rw [hG]; exact hf.put (g := false) hd
theorem spq_callp {f : FuncId} {xs : List Operand} {ts : Array TypeId} {vs : List Value} {v : Value} [TFn P f] (hN : Nat.blt d N = true) (hx : Evs true e xs vs) (hc : ∀ w, Hp Be w0 H w → Calls P f vs.toArray w (Ret w v))
    (k : Spq P N Be ops Q rest ((d, true, v) :: e) w0 H) : Spq P N Be ops Q (⟨some d, .call ⟨.value (.func f), xs.toArray, ts⟩, ty, pos, after, none⟩ :: rest) e w0 H :=
  spq_callp_g hN Gd.none hx (fun _ => hc) k
theorem spq_callv {c : Operand} {f : FuncId} {first cap : List Value} {xs : List Operand} {ts : Array TypeId} {vs : List Value} {v : Value} [TFn P f] (hN : Nat.blt d N = true) (hcv : Ev true e c (.func (.func f) first.toArray cap.toArray)) (hx : Evs true e xs vs)
    (hc : ∀ w, Hp Be w0 H w → Calls P f (first ++ vs ++ cap).toArray w (Ret w v))
    (k : Spq P N Be ops Q rest ((d, true, v) :: e) w0 H) : Spq P N Be ops Q (⟨some d, .call ⟨.value c, xs.toArray, ts⟩, ty, pos, after, none⟩ :: rest) e w0 H := by
  intro a hf
  have hd : d < N := by simpa [Nat.blt_eq] using hN
  refine wpQuiet_step fun K hK => ?_
  rw [if_pos (by simp [Region.wanted])]
  refine ⟨v, fun w hw => ?_, hK _ (k _ (hf.puttrue hd))⟩
  unfold Oper.quietAt
  rw [exec_call (f := f) rfl (hcv N a hf rfl) (hx N a hf rfl)]
  simp only [List.append_toArray, Oper.quietUpon, true_and]
  exact (hc w hw).mono fun en w' ⟨h1, h2⟩ => ⟨h1, hw.below h2⟩
end

/-- A function that hands back a value and leaves all as it was. -/
theorem ret_below {Be : Nat} {w w0 w' : World} {H : Heap} {v : Value} (hBe : Be = w.heap.size) (hb : Below Be w w0) (hh : Hp Be w0 H w') : Ret w v (.returned v) w' := ⟨rfl, by subst hBe; exact hb.trans hh.belowBe⟩
theorem ret_same {w w' : World} {H : Heap} {v : Value} (hh : Hp w.heap.size w H w') : Ret w v (.returned v) w' := ⟨rfl, hh.belowBe⟩

theorem ret_ok {P : Program} {fn : Func} {rs : Array ResultVar} {w : World} {e : Env} {H : Heap} {v v0 : Value} (hr : fn.results = rs) (h : Res rs P w.heap.size e w H v) (hv : v = v0) : retQ P fn w.heap.size (Ret w v0) .ret e w H := by
  subst hr; subst hv
  exact ⟨v, h, fun w' hh => ret_same hh⟩
theorem retP_ok {P : Program} {fn : Func} {rs : Array ResultVar} {w : World} {e : Env} {H : Heap} {v : Value} {X : Type} {V : X → Value} {I : X → Prop} (hr : fn.results = rs) (h : Res rs P w.heap.size e w H v) (hv : ∃ x, v = V x ∧ I x) : retQ P fn w.heap.size (RetP w V I) .ret e w H := by
  subst hr
  obtain ⟨x, rfl, hI⟩ := hv
  exact ⟨_, h, fun w' hh => ⟨x, rfl, hI, hh.belowBe⟩⟩
theorem retH_ok {P : Program} {fn : Func} {rs : Array ResultVar} {w : World} {e : Env} {H' : Heap} {v : Value} {X : Type} {V : X → Value} {HH : X → Heap} {I : X → Prop} (hr : fn.results = rs) (h : Res rs P w.heap.size e w H' v) (hv : ∃ x, v = V x ∧ I x ∧ HKeep w (HH x) H') : retQ P fn w.heap.size (RetH w V HH I) .ret e w H' := by
  subst hr
  obtain ⟨x, rfl, hI, hk⟩ := hv
  exact ⟨_, h, fun w' hh => ⟨x, rfl, hI, hh.sub hk⟩⟩
theorem Ret.toP {w : World} {X : Type} {V : X → Value} {I : X → Prop} {x : X} (hI : I x) : ∀ en w', Ret w (V x) en w' → RetP w V I en w' := fun _ _ h => ⟨x, h.1, hI, h.2⟩
theorem ret_any {P : Program} {fn : Func} {rs : Array ResultVar} {Be : Nat} {w0 : World} {e : Env} {H : Heap} {v : Value} {R : Ending → World → Prop} (hr : fn.results = rs) (h : Res rs P Be e w0 H v) (k : ∀ w', Hp Be w0 H w' → R (.returned v) w') : retQ P fn Be R .ret e w0 H := by
  subst hr
  exact ⟨v, h, k⟩
theorem end_any {P : Program} {fn : Func} {rs : Array ResultVar} {Be : Nat} {w0 : World} {e : Env} {H : Heap} {v : Value} {R : Ending → World → Prop} (hr : fn.results = rs) (h : Res rs P Be e w0 H v) (k : ∀ w', Hp Be w0 H w' → R (.returned v) w') : retQ P fn Be R .normal e w0 H := by
  subst hr
  exact ⟨v, h, k⟩

theorem ones_of_all {cs : Array Value} (h : cs.toList.all (·.oneCell') = true) : ∀ v ∈ cs, v.oneCell' = true := fun v hv => List.all_eq_true.1 h v (by simpa using hv)
/-- All cells are single ones. -/
class Ones (cs : Array Value) : Prop where
  one : ∀ v ∈ cs, v.oneCell' = true

section
variable {P : Program} {Be : Nat} {w0 : World} {H : Heap} {G : Bool} {e : Env} {ty : TypeId}
theorem Res1.cell {x : Tmp} {t : TypeId} {g n : Nat} {cs : Array Value} {T : TypeId} {f : Nat × Nat} (h : look e x = some (true, .pointer (some ⟨g, 0, none⟩))) (hm : (g, Obj.cells cs T f) ∈ H) (hn : cs.size = n) [TAgg P t] [hs : TSize P t n] : Res1 (.cell x t) P Be e w0 H (.agg cs) := by
  intro N a w hf hh
  have := hf.get x true _ h
  simp only [gv] at this
  simp [rv, this, asAddr, loadVar, TAgg.run w (P := P) (t := t), hs.run w, loadCells_of (P := P) (w := w) (ad := ⟨g, 0, none⟩) hn fun j v hj => by rw [addr_add0]; exact (hh.cell hm j).trans hj]
theorem Res1.cell1 {x : Tmp} {t : TypeId} {g : Nat} {cs : Array Value} {v : Value} {T : TypeId} {f : Nat × Nat} (h : look e x = some (true, .pointer (some ⟨g, 0, none⟩))) (hm : (g, Obj.cells cs T f) ∈ H) (hv : cs[0]? = some v) [TCell P t] : Res1 (.cell x t) P Be e w0 H v := by
  intro N a w hf hh
  have := hf.get x true _ h
  simp only [gv] at this
  simp [rv, this, asAddr, loadVar, TCell.run w (P := P) (t := t), (hh.cell hm 0).trans hv]

/-! ### Struct values -/
end
/-- Where the fields lie: offset and number of cells. -/
class TPlaces (P : Program) (t : TypeId) (pl : outParam (List (Nat × Nat))) : Prop where
  places : (match P.underlying t with | some (.struct fs) => fs.toList.mapM (fun f => (P.info? f.type).map fun i => (f.offset, i.size)) | _ => none) = some pl

def splice (z : List Value) (off : Nat) (xs : List Value) : List Value := z.take off ++ xs ++ z.drop (off + xs.length)
def fillL (pl : List (Nat × Nat)) : List Value → List (Nat × Value) → List Value
  | z, [] => z
  | z, (i, v) :: r => match pl[i]? with
    | some (off, _) => fillL pl (splice z off v.cells.toList) r
    | none => fillL pl z r
def fillOk (pl : List (Nat × Nat)) (n : Nat) : List (Nat × Value) → Bool
  | [] => true
  | (i, v) :: r => (match pl[i]? with | some (off, size) => Nat.beq v.cells.toList.length size && Nat.ble (off + size) n | none => false) && fillOk pl n r

theorem length_splice {z xs : List Value} {off : Nat} (h : off + xs.length ≤ z.length) : (splice z off xs).length = z.length := by
  simp [splice]; omega

theorem fold_set : ∀ (xs : List Value) (k off : Nat) (cells : Array Value), off + k + xs.length ≤ cells.size →
    (xs.zipIdx k).foldl (fun cs (c, j) => cs.setIfInBounds (off + j) c) cells = (splice cells.toList (off + k) xs).toArray
  | [], k, off, cells, h => by simp [splice]
  | x :: xs, k, off, cells, h => by
    simp only [List.zipIdx_cons, List.foldl_cons]
    rw [fold_set xs (k + 1) off _ (by simp at h ⊢; omega)]
    congr 1
    have h' : off + k < cells.toList.length := by simp at h ⊢; omega
    simp only [Array.toList_setIfInBounds]
    generalize cells.toList = l at h'
    rw [show off + (k + 1) = off + k + 1 by omega]
    generalize off + k = n at h'
    simp only [splice, List.length_cons]
    rw [List.set_eq_take_append_cons_drop, if_pos h']
    rw [List.take_append, List.take_of_length_le (by simp; omega), List.length_take, Nat.min_eq_left (by omega), show n + 1 - n = 1 by omega, List.take_succ_cons, List.take_zero]
    rw [List.drop_append, List.drop_eq_nil_of_le (by simp; omega), List.length_take, Nat.min_eq_left (by omega), show n + 1 + xs.length - n = xs.length + 1 by omega, List.drop_succ_cons, List.drop_drop]
    simp [Nat.add_assoc, Nat.add_comm 1]

theorem fill_of {pl : List (Nat × Nat)} : ∀ (ps : List (Nat × Value)) (z : List Value), fillOk pl z.length ps = true → Instr.fill (pl.toArray[·]?) z.toArray ps = some (fillL pl z ps).toArray
  | [], z, _ => rfl
  | (i, v) :: r, z, h => by
    simp only [fillOk, Bool.and_eq_true] at h
    obtain ⟨h1, h2⟩ := h
    simp only [Instr.fill, fillL, List.getElem?_toArray]
    cases hp : pl[i]? with
    | none => rw [hp] at h1; cases h1
    | some p =>
      obtain ⟨off, size⟩ := p
      rw [hp] at h1
      simp only [Bool.and_eq_true] at h1
      have h3 : v.cells.size = size := by have := Nat.eq_of_beq_eq_true h1.1; simpa using this
      have h4 : off + size ≤ z.length := Nat.le_of_ble_eq_true h1.2
      simp only
      rw [if_neg (by simp [h3]; omega)]
      have h5 : Array.foldl (fun cs x => cs.setIfInBounds (off + x.2) x.1) z.toArray v.cells.zipIdx = (splice z off v.cells.toList).toArray := by
        rw [← Array.foldl_toList, Array.toList_zipIdx]
        have := fold_set v.cells.toList 0 off z.toArray (by simp [h3]; omega)
        simpa using this
      rw [h5]
      have h6 := fill_of (pl := pl) r (splice z off v.cells.toList) (by rw [length_splice (by simp [h3]; omega)]; exact h2)
      simpa only [List.getElem?_toArray] using h6
section
variable {P : Program} {Be : Nat} {w0 : World} {H : Heap} {G : Bool} {e : Env} {ty : TypeId}
theorem TPlaces.run {t : TypeId} {pl : List (Nat × Nat)} [h : TPlaces P t pl] (w : World) : ∃ fs, P.underlying t = some (.struct fs) ∧ (fs.mapM fun f => do pure (f.offset, ← sizeOf f.type) : Sem _).run P w = .ok pl.toArray w := by
  have := h.places
  cases hu : P.underlying t with
  | none => rw [hu] at this; cases this
  | some d =>
    rw [hu] at this
    cases d <;> first | cases this | skip
    rename_i fs
    refine ⟨fs, rfl, ?_⟩
    simp only at this
    rw [← Array.toArray_toList (xs := fs), List.mapM_toArray]
    generalize fs.toList = l at this
    have key : ∀ (l : List Field) (pl : List (Nat × Nat)), l.mapM (fun f => (P.info? f.type).map fun i => (f.offset, i.size)) = some pl → (l.mapM fun f => do pure (f.offset, ← sizeOf f.type) : Sem _).run P w = .ok pl w := by
      intro l
      induction l with
      | nil => intro pl h; simp at h; simp [h]
      | cons f l ih =>
        intro pl h
        simp only [List.mapM_cons, Option.bind_eq_bind, Option.bind_eq_some_iff, Option.pure_def, Option.some.injEq] at h
        obtain ⟨x, hx, xs, hxs, rfl⟩ := h
        cases hi : P.info? f.type with
        | none => rw [hi] at hx; cases hx
        | some i =>
          rw [hi] at hx
          simp at hx
          have := ih xs hxs
          simp only [List.mapM_cons, Sem.run_bind, sizeOf, typeInfo, hi, run_program, Result.andThen_ok, Sem.run_pure] at this ⊢
          simp only [this, Result.andThen_ok, Sem.run_pure, hx]
    have h2 := key l pl this
    simp only [Sem.run_map, h2, Result.andThen_ok]

def zipI : List (Nat × Operand) → List Value → List (Nat × Value)
  | (i, _) :: ps, v :: vs => (i, v) :: zipI ps vs
  | _, _ => []
theorem zipI_map (f : Operand → Value) : ∀ (ps : List (Nat × Operand)), zipI ps (ps.map fun p => f p.2) = ps.map fun p => (p.1, f p.2)
  | [] => rfl
  | p :: ps => by simp only [List.map_cons, zipI, zipI_map f ps]

/-- 'T{..}': the parts written over the zero value. -/
theorem ex_build {t : TypeId} {z : Value} {pl : List (Nat × Nat)} {ps : List (Nat × Operand)} {vs : List Value} [hz : TZero P t z] [hp : TPlaces P t pl] (h : Evs G e (ps.map (·.2)) vs) (hok : fillOk pl z.cells.toList.length (zipI ps vs) = true) :
    Ex P Be w0 H G e (.build t ps.toArray) ty (.agg (fillL pl z.cells.toList (zipI ps vs)).toArray) := by
  intro N a w o ho _ hf hh hG
  have hv := h N a hf hG
  obtain ⟨fs, hu, hm⟩ := hp.run w
  have hvs : zipI ps vs = ps.map fun p => (p.1, a.eval p.2) := by rw [← hv, List.map_map]; exact zipI_map a.eval ps
  have hfill := fill_of (pl := pl) (zipI ps vs) z.cells.toList hok
  simp only [Array.toArray_toList] at hfill
  have h3 : (Array.map (fun x => (x.1, a.eval x.2)) ps.toArray).toList = zipI ps vs := by simp [hvs]
  simp only [execOp, ho, Instr.build, Sem.run_bind, hz.run w, Result.andThen_ok, run_underlying hu, hm, h3, hfill, Sem.run_pure]
end

/-! ### '[]T{..}' -/
theorem fill_seq {size : Nat} : ∀ (vs : List Value) (k : Nat) (z : List Value), (∀ v ∈ vs, v.cells.size = size) → z.length = (k + vs.length) * size →
    Instr.fill (fun i => some (i * size, size)) z.toArray ((List.range' k vs.length).zip vs) = some (z.take (k * size) ++ vs.flatMap fun v => v.cells.toList).toArray
  | [], k, z, _, hl => by simp at hl; simp [Instr.fill, List.take_of_length_le (Nat.le_of_eq hl)]
  | v :: vs, k, z, hv, hl => by
    have h3 : v.cells.size = size := hv v (by simp)
    simp only [List.length_cons] at hl
    have h40 : (k + (vs.length + 1)) * size = k * size + size + vs.length * size := by
      have e1 := Nat.add_mul k (vs.length + 1) size
      have e2 := Nat.add_mul vs.length 1 size
      omega
    have h4 : k * size + size ≤ z.length := by omega
    simp only [List.length_cons, List.range'_succ, List.zip_cons_cons, Instr.fill]
    rw [if_neg (by simp [h3]; omega)]
    have h5 : Array.foldl (fun cs x => cs.setIfInBounds (k * size + x.2) x.1) z.toArray v.cells.zipIdx = (splice z (k * size) v.cells.toList).toArray := by
      rw [← Array.foldl_toList, Array.toList_zipIdx]
      have := fold_set v.cells.toList 0 (k * size) z.toArray (by simp [h3]; omega)
      simpa using this
    rw [h5]
    have ih := fill_seq vs (k + 1) (splice z (k * size) v.cells.toList) (fun u hu => hv u (by simp [hu])) (by rw [length_splice (by simp [h3]; omega), hl]; congr 1; omega)
    rw [ih]
    congr 2
    have h6 : (splice z (k * size) v.cells.toList).take ((k + 1) * size) = z.take (k * size) ++ v.cells.toList := by
      unfold splice
      have hk : (k + 1) * size = k * size + size := by have e1 := Nat.add_mul k 1 size; omega
      have hlt : (List.take (k * size) z ++ v.cells.toList).length = (k + 1) * size := by
        have h7 : v.cells.toList.length = size := by simpa using h3
        rw [List.length_append, List.length_take, h7, hk]; omega
      rw [List.take_append, hlt, Nat.sub_self, List.take_zero, List.append_nil, ← hlt, List.take_length]
    rw [h6]
    simp [List.flatMap_cons]
section
variable {P : Program} {N Be : Nat} {Q : Post} {e : Env} {w0 : World} {H : Heap} {ops : Array Oper} {rest : List Oper} {ty : TypeId} {pos : String} {after : Array Edge} {d : Nat}
theorem run_buildSlice {t el size : Nat} {z : Value} {vs : List Value} [ht : TSlice P t el] [hs : TSize P el size] [hz : TZero P el z] (w : World) (hzs : z.cells.size = size) (hsz : ∀ v ∈ vs, v.cells.size = size) (hb : vs.length * size ≤ 16777216) :
    (Instr.buildSlice t vs.length ((List.range vs.length).zip vs).toArray).run P w = .ok (.slice (some ⟨w.heap.size, 0, none⟩) vs.length vs.length) (w.alloc (.cells (vs.flatMap fun v => v.cells.toList).toArray el)) := by
  have hf : ∀ (zs : Array Value), zs.size = vs.length * size → Instr.fill (fun i => some (i * size, size)) zs ((List.range vs.length).zip vs) = some (vs.flatMap fun v => v.cells.toList).toArray := fun zs h => by
    have := fill_seq (size := size) vs 0 zs.toList hsz (by simp [h])
    rw [← List.range_eq_range'] at this
    simpa using this
  by_cases h0 : vs.length * size = 0
  · simp only [Instr.buildSlice, Sem.run_bind, run_underlying ht.slice, Result.andThen_ok, hs.run w, if_neg (show ¬ vs.length * size > 2 ^ 24 by omega), Sem.run_ite, h0, if_true, Sem.run_pure]
    rw [hf _ (by simp [h0])]
    simp [newRow]
  · simp only [Instr.buildSlice, Sem.run_bind, run_underlying ht.slice, Result.andThen_ok, hs.run w, if_neg (show ¬ vs.length * size > 2 ^ 24 by omega), Sem.run_ite, h0, if_false, Sem.run_pure, hz.run w]
    rw [hf _ (by simp)]
    simp [newRow]
theorem spl_buildSlice {t el size : Nat} {z : Value} {len : Nat} {ps : List (Nat × Operand)} {vs : List Value} [TSlice P t el] [TSize P el size] [TZero P el z] (hN : Nat.blt d N = true) (hp : ps.map (·.1) = List.range len) (h : Evs true e (ps.map (·.2)) vs)
    (hzs : z.cells.size = size) (hsz : (vs.all fun v => Nat.beq v.cells.size size) = true) (hb : Nat.ble (len * size) 16777216 = true)
    (k : ∀ g, w0.heap.size ≤ g → Spl P N Be ops Q rest ((d, true, .slice (some ⟨g, 0, none⟩) len len) :: e) w0 ((g, .cells (vs.flatMap fun v => v.cells.toList).toArray el (0, 0)) :: H)) :
    Spl P N Be ops Q (⟨some d, .buildSlice t len ps.toArray, ty, pos, after, none⟩ :: rest) e w0 H := by
  intro a w hf hh
  have hd : d < N := by simpa [Nat.blt_eq] using hN
  have hv := h N a hf rfl
  have hlen : vs.length = len := by
    have h1 := congrArg List.length hp
    have h2 := congrArg List.length hv
    simp at h1 h2
    omega
  have hzip : ps.map (fun p => (p.1, a.eval p.2)) = (List.range vs.length).zip vs := by
    rw [hlen, ← hp, ← hv, List.map_map, List.zip_map']
    all_goals rfl
  refine wpList_plain rfl fun K hK => ?_
  have hr : (execOp a.eval ⟨some d, .buildSlice t len ps.toArray, ty, pos, after, none⟩).run P w = .ok (.value (.slice (some ⟨w.heap.size, 0, none⟩) len len)) (w.alloc (.cells (vs.flatMap fun v => v.cells.toList).toArray el)) := by
    have := run_buildSlice (P := P) (t := t) (vs := vs) w hzs (fun v hv => Nat.eq_of_beq_eq_true (List.all_eq_true.1 hsz v hv)) (by rw [hlen]; exact Nat.le_of_ble_eq_true hb)
    simp only [execOp, Sem.run_bind]
    rw [show (Array.map (fun x => (x.1, a.eval x.2)) ps.toArray) = ((List.range vs.length).zip vs).toArray by rw [← hzip]; simp]
    rw [hlen] at this ⊢
    rw [this]
    all_goals rfl
  unfold Oper.wp
  rw [hr, Oper.upon_value]
  exact hK _ _ (k _ hh.size _ _ (hf.puttrue hd) (hh.alloc _))
end
end Go.Sy
/-
  Facts on the types and functions of this translation, each by the kernel's reckoning (written by facts.py).
-/
namespace Go.Proofs.Ytoogicafefennaa
set_option linter.unusedVariables false
open Go.Sy
instance iC1 : TCell Try.prog 1 := ⟨by kernel_rfl⟩
instance iS1 : TSize Try.prog 1 1 := ⟨by kernel_rfl⟩
instance iS2 : TSize Try.prog 2 1 := ⟨by kernel_rfl⟩
instance iB2 : TBytes Try.prog 2 8 := ⟨by kernel_rfl⟩
instance iZ2 : TZero Try.prog 2 (.int .i64 0) := ⟨by kernel_rfl⟩
instance iC2 : TCell Try.prog 2 := ⟨by kernel_rfl⟩
instance iI2 : TInt Try.prog 2 .i64 := ⟨by kernel_rfl⟩
instance iS3 : TSize Try.prog 3 1 := ⟨by kernel_rfl⟩
instance iB3 : TBytes Try.prog 3 8 := ⟨by kernel_rfl⟩
instance iZ3 : TZero Try.prog 3 (.int .i64 0) := ⟨by kernel_rfl⟩
instance iC3 : TCell Try.prog 3 := ⟨by kernel_rfl⟩
instance iI3 : TInt Try.prog 3 .i64 := ⟨by kernel_rfl⟩
instance iS4 : TSize Try.prog 4 1 := ⟨by kernel_rfl⟩
instance iB4 : TBytes Try.prog 4 1 := ⟨by kernel_rfl⟩
instance iZ4 : TZero Try.prog 4 (.bool false) := ⟨by kernel_rfl⟩
instance iC4 : TCell Try.prog 4 := ⟨by kernel_rfl⟩
instance iO4 : TBool Try.prog 4 := ⟨by kernel_rfl⟩
instance iS5 : TSize Try.prog 5 1 := ⟨by kernel_rfl⟩
instance iB5 : TBytes Try.prog 5 1 := ⟨by kernel_rfl⟩
instance iZ5 : TZero Try.prog 5 (.int .u8 0) := ⟨by kernel_rfl⟩
instance iC5 : TCell Try.prog 5 := ⟨by kernel_rfl⟩
instance iI5 : TInt Try.prog 5 .u8 := ⟨by kernel_rfl⟩
instance iS6 : TSize Try.prog 6 1 := ⟨by kernel_rfl⟩
instance iB6 : TBytes Try.prog 6 1 := ⟨by kernel_rfl⟩
instance iZ6 : TZero Try.prog 6 (.int .u8 0) := ⟨by kernel_rfl⟩
instance iC6 : TCell Try.prog 6 := ⟨by kernel_rfl⟩
instance iI6 : TInt Try.prog 6 .u8 := ⟨by kernel_rfl⟩
instance iS7 : TSize Try.prog 7 4 := ⟨by kernel_rfl⟩
instance iB7 : TBytes Try.prog 7 24 := ⟨by kernel_rfl⟩
instance iZ7 : TZero Try.prog 7 (.agg #[.int .i64 0, .int .i64 0, .bool false, .int .u8 0]) := ⟨by kernel_rfl⟩
instance iA7 : TAgg Try.prog 7 := ⟨by kernel_rfl⟩
instance iF7_0 : TField Try.prog 7 0 0 2 := ⟨by kernel_rfl⟩
instance iF7_1 : TField Try.prog 7 1 1 3 := ⟨by kernel_rfl⟩
instance iF7_2 : TField Try.prog 7 2 2 4 := ⟨by kernel_rfl⟩
instance iF7_3 : TField Try.prog 7 3 3 6 := ⟨by kernel_rfl⟩
instance iP7 : TPlaces Try.prog 7 [(0, 1), (1, 1), (2, 1), (3, 1)] := ⟨by kernel_rfl⟩
instance iS8 : TSize Try.prog 8 4 := ⟨by kernel_rfl⟩
instance iB8 : TBytes Try.prog 8 24 := ⟨by kernel_rfl⟩
instance iZ8 : TZero Try.prog 8 (.agg #[.int .i64 0, .int .i64 0, .bool false, .int .u8 0]) := ⟨by kernel_rfl⟩
instance iA8 : TAgg Try.prog 8 := ⟨by kernel_rfl⟩
instance iF8_0 : TField Try.prog 8 0 0 2 := ⟨by kernel_rfl⟩
instance iF8_1 : TField Try.prog 8 1 1 3 := ⟨by kernel_rfl⟩
instance iF8_2 : TField Try.prog 8 2 2 4 := ⟨by kernel_rfl⟩
instance iF8_3 : TField Try.prog 8 3 3 6 := ⟨by kernel_rfl⟩
instance iP8 : TPlaces Try.prog 8 [(0, 1), (1, 1), (2, 1), (3, 1)] := ⟨by kernel_rfl⟩
instance iS9 : TSize Try.prog 9 1 := ⟨by kernel_rfl⟩
instance iB9 : TBytes Try.prog 9 16 := ⟨by kernel_rfl⟩
instance iZ9 : TZero Try.prog 9 (.string ⟨#[]⟩) := ⟨by kernel_rfl⟩
instance iC9 : TCell Try.prog 9 := ⟨by kernel_rfl⟩
instance iT9 : TStr Try.prog 9 := ⟨by kernel_rfl⟩
instance iS10 : TSize Try.prog 10 1 := ⟨by kernel_rfl⟩
instance iB10 : TBytes Try.prog 10 16 := ⟨by kernel_rfl⟩
instance iZ10 : TZero Try.prog 10 (.string ⟨#[]⟩) := ⟨by kernel_rfl⟩
instance iC10 : TCell Try.prog 10 := ⟨by kernel_rfl⟩
instance iT10 : TStr Try.prog 10 := ⟨by kernel_rfl⟩
instance iS11 : TSize Try.prog 11 1 := ⟨by kernel_rfl⟩
instance iB11 : TBytes Try.prog 11 16 := ⟨by kernel_rfl⟩
instance iZ11 : TZero Try.prog 11 (.string ⟨#[]⟩) := ⟨by kernel_rfl⟩
instance iC11 : TCell Try.prog 11 := ⟨by kernel_rfl⟩
instance iT11 : TStr Try.prog 11 := ⟨by kernel_rfl⟩
instance iS12 : TSize Try.prog 12 1 := ⟨by kernel_rfl⟩
instance iB12 : TBytes Try.prog 12 8 := ⟨by kernel_rfl⟩
instance iZ12 : TZero Try.prog 12 (.int .u64 0) := ⟨by kernel_rfl⟩
instance iC12 : TCell Try.prog 12 := ⟨by kernel_rfl⟩
instance iI12 : TInt Try.prog 12 .u64 := ⟨by kernel_rfl⟩
instance iS13 : TSize Try.prog 13 2 := ⟨by kernel_rfl⟩
instance iB13 : TBytes Try.prog 13 24 := ⟨by kernel_rfl⟩
instance iZ13 : TZero Try.prog 13 (.agg #[.string ⟨#[]⟩, .int .u64 0]) := ⟨by kernel_rfl⟩
instance iA13 : TAgg Try.prog 13 := ⟨by kernel_rfl⟩
instance iF13_0 : TField Try.prog 13 0 0 9 := ⟨by kernel_rfl⟩
instance iF13_1 : TField Try.prog 13 1 1 12 := ⟨by kernel_rfl⟩
instance iP13 : TPlaces Try.prog 13 [(0, 1), (1, 1)] := ⟨by kernel_rfl⟩
instance iS14 : TSize Try.prog 14 2 := ⟨by kernel_rfl⟩
instance iB14 : TBytes Try.prog 14 24 := ⟨by kernel_rfl⟩
instance iZ14 : TZero Try.prog 14 (.agg #[.string ⟨#[]⟩, .int .u64 0]) := ⟨by kernel_rfl⟩
instance iA14 : TAgg Try.prog 14 := ⟨by kernel_rfl⟩
instance iF14_0 : TField Try.prog 14 0 0 9 := ⟨by kernel_rfl⟩
instance iF14_1 : TField Try.prog 14 1 1 12 := ⟨by kernel_rfl⟩
instance iP14 : TPlaces Try.prog 14 [(0, 1), (1, 1)] := ⟨by kernel_rfl⟩
instance iS15 : TSize Try.prog 15 1 := ⟨by kernel_rfl⟩
instance iB15 : TBytes Try.prog 15 8 := ⟨by kernel_rfl⟩
instance iZ15 : TZero Try.prog 15 (.pointer none) := ⟨by kernel_rfl⟩
instance iC15 : TCell Try.prog 15 := ⟨by kernel_rfl⟩
instance iE15 : TPtr Try.prog 15 172 := ⟨by kernel_rfl⟩
instance iS16 : TSize Try.prog 16 1 := ⟨by kernel_rfl⟩
instance iB16 : TBytes Try.prog 16 8 := ⟨by kernel_rfl⟩
instance iZ16 : TZero Try.prog 16 (.pointer none) := ⟨by kernel_rfl⟩
instance iC16 : TCell Try.prog 16 := ⟨by kernel_rfl⟩
instance iE16 : TPtr Try.prog 16 175 := ⟨by kernel_rfl⟩
instance iS17 : TSize Try.prog 17 1 := ⟨by kernel_rfl⟩
instance iB17 : TBytes Try.prog 17 8 := ⟨by kernel_rfl⟩
instance iZ17 : TZero Try.prog 17 (.pointer none) := ⟨by kernel_rfl⟩
instance iC17 : TCell Try.prog 17 := ⟨by kernel_rfl⟩
instance iE17 : TPtr Try.prog 17 184 := ⟨by kernel_rfl⟩
instance iS18 : TSize Try.prog 18 1 := ⟨by kernel_rfl⟩
instance iB18 : TBytes Try.prog 18 8 := ⟨by kernel_rfl⟩
instance iZ18 : TZero Try.prog 18 (.agg #[.pointer none]) := ⟨by kernel_rfl⟩
instance iA18 : TAgg Try.prog 18 := ⟨by kernel_rfl⟩
instance iF18_0 : TField Try.prog 18 0 0 17 := ⟨by kernel_rfl⟩
instance iP18 : TPlaces Try.prog 18 [(0, 1)] := ⟨by kernel_rfl⟩
instance iS19 : TSize Try.prog 19 1 := ⟨by kernel_rfl⟩
instance iB19 : TBytes Try.prog 19 8 := ⟨by kernel_rfl⟩
instance iZ19 : TZero Try.prog 19 (.agg #[.pointer none]) := ⟨by kernel_rfl⟩
instance iA19 : TAgg Try.prog 19 := ⟨by kernel_rfl⟩
instance iF19_0 : TField Try.prog 19 0 0 17 := ⟨by kernel_rfl⟩
instance iP19 : TPlaces Try.prog 19 [(0, 1)] := ⟨by kernel_rfl⟩
instance iC20 : TCell Try.prog 20 := ⟨by kernel_rfl⟩
instance iS20 : TSize Try.prog 20 1 := ⟨by kernel_rfl⟩
instance iS21 : TSize Try.prog 21 1 := ⟨by kernel_rfl⟩
instance iB21 : TBytes Try.prog 21 4 := ⟨by kernel_rfl⟩
instance iZ21 : TZero Try.prog 21 (.int .i32 0) := ⟨by kernel_rfl⟩
instance iC21 : TCell Try.prog 21 := ⟨by kernel_rfl⟩
instance iI21 : TInt Try.prog 21 .i32 := ⟨by kernel_rfl⟩
instance iS22 : TSize Try.prog 22 1 := ⟨by kernel_rfl⟩
instance iB22 : TBytes Try.prog 22 24 := ⟨by kernel_rfl⟩
instance iZ22 : TZero Try.prog 22 (.slice none 0 0) := ⟨by kernel_rfl⟩
instance iC22 : TCell Try.prog 22 := ⟨by kernel_rfl⟩
instance iL22 : TSlice Try.prog 22 40 := ⟨by kernel_rfl⟩
instance iC23 : TCell Try.prog 23 := ⟨by kernel_rfl⟩
instance iS23 : TSize Try.prog 23 1 := ⟨by kernel_rfl⟩
instance iC24 : TCell Try.prog 24 := ⟨by kernel_rfl⟩
instance iS24 : TSize Try.prog 24 1 := ⟨by kernel_rfl⟩
instance iS25 : TSize Try.prog 25 1 := ⟨by kernel_rfl⟩
instance iB25 : TBytes Try.prog 25 24 := ⟨by kernel_rfl⟩
instance iZ25 : TZero Try.prog 25 (.slice none 0 0) := ⟨by kernel_rfl⟩
instance iC25 : TCell Try.prog 25 := ⟨by kernel_rfl⟩
instance iL25 : TSlice Try.prog 25 3 := ⟨by kernel_rfl⟩
instance iS26 : TSize Try.prog 26 1 := ⟨by kernel_rfl⟩
instance iB26 : TBytes Try.prog 26 8 := ⟨by kernel_rfl⟩
instance iZ26 : TZero Try.prog 26 (.int .i64 0) := ⟨by kernel_rfl⟩
instance iC26 : TCell Try.prog 26 := ⟨by kernel_rfl⟩
instance iI26 : TInt Try.prog 26 .i64 := ⟨by kernel_rfl⟩
instance iC28 : TCell Try.prog 28 := ⟨by kernel_rfl⟩
instance iS28 : TSize Try.prog 28 1 := ⟨by kernel_rfl⟩
instance iS29 : TSize Try.prog 29 1 := ⟨by kernel_rfl⟩
instance iB29 : TBytes Try.prog 29 24 := ⟨by kernel_rfl⟩
instance iZ29 : TZero Try.prog 29 (.slice none 0 0) := ⟨by kernel_rfl⟩
instance iC29 : TCell Try.prog 29 := ⟨by kernel_rfl⟩
instance iL29 : TSlice Try.prog 29 4 := ⟨by kernel_rfl⟩
instance iC30 : TCell Try.prog 30 := ⟨by kernel_rfl⟩
instance iS30 : TSize Try.prog 30 1 := ⟨by kernel_rfl⟩
instance iC31 : TCell Try.prog 31 := ⟨by kernel_rfl⟩
instance iS31 : TSize Try.prog 31 1 := ⟨by kernel_rfl⟩
instance iC33 : TCell Try.prog 33 := ⟨by kernel_rfl⟩
instance iS33 : TSize Try.prog 33 1 := ⟨by kernel_rfl⟩
instance iC34 : TCell Try.prog 34 := ⟨by kernel_rfl⟩
instance iS34 : TSize Try.prog 34 1 := ⟨by kernel_rfl⟩
instance iC35 : TCell Try.prog 35 := ⟨by kernel_rfl⟩
instance iS35 : TSize Try.prog 35 1 := ⟨by kernel_rfl⟩
instance iS36 : TSize Try.prog 36 2 := ⟨by kernel_rfl⟩
instance iB36 : TBytes Try.prog 36 32 := ⟨by kernel_rfl⟩
instance iZ36 : TZero Try.prog 36 (.agg #[.slice none 0 0, .int .i64 0]) := ⟨by kernel_rfl⟩
instance iA36 : TAgg Try.prog 36 := ⟨by kernel_rfl⟩
instance iF36_0 : TField Try.prog 36 0 0 25 := ⟨by kernel_rfl⟩
instance iF36_1 : TField Try.prog 36 1 1 3 := ⟨by kernel_rfl⟩
instance iP36 : TPlaces Try.prog 36 [(0, 1), (1, 1)] := ⟨by kernel_rfl⟩
instance iS37 : TSize Try.prog 37 2 := ⟨by kernel_rfl⟩
instance iB37 : TBytes Try.prog 37 32 := ⟨by kernel_rfl⟩
instance iZ37 : TZero Try.prog 37 (.agg #[.slice none 0 0, .int .i64 0]) := ⟨by kernel_rfl⟩
instance iA37 : TAgg Try.prog 37 := ⟨by kernel_rfl⟩
instance iF37_0 : TField Try.prog 37 0 0 25 := ⟨by kernel_rfl⟩
instance iF37_1 : TField Try.prog 37 1 1 3 := ⟨by kernel_rfl⟩
instance iP37 : TPlaces Try.prog 37 [(0, 1), (1, 1)] := ⟨by kernel_rfl⟩
instance iC38 : TCell Try.prog 38 := ⟨by kernel_rfl⟩
instance iS38 : TSize Try.prog 38 1 := ⟨by kernel_rfl⟩
instance iS39 : TSize Try.prog 39 4 := ⟨by kernel_rfl⟩
instance iB39 : TBytes Try.prog 39 48 := ⟨by kernel_rfl⟩
instance iZ39 : TZero Try.prog 39 (.agg #[.int .i64 0, .int .i64 0, .bool false, .slice none 0 0]) := ⟨by kernel_rfl⟩
instance iA39 : TAgg Try.prog 39 := ⟨by kernel_rfl⟩
instance iF39_0 : TField Try.prog 39 0 0 3 := ⟨by kernel_rfl⟩
instance iF39_1 : TField Try.prog 39 1 1 3 := ⟨by kernel_rfl⟩
instance iF39_2 : TField Try.prog 39 2 2 4 := ⟨by kernel_rfl⟩
instance iF39_3 : TField Try.prog 39 3 3 25 := ⟨by kernel_rfl⟩
instance iP39 : TPlaces Try.prog 39 [(0, 1), (1, 1), (2, 1), (3, 1)] := ⟨by kernel_rfl⟩
instance iS40 : TSize Try.prog 40 4 := ⟨by kernel_rfl⟩
instance iB40 : TBytes Try.prog 40 48 := ⟨by kernel_rfl⟩
instance iZ40 : TZero Try.prog 40 (.agg #[.int .i64 0, .int .i64 0, .bool false, .slice none 0 0]) := ⟨by kernel_rfl⟩
instance iA40 : TAgg Try.prog 40 := ⟨by kernel_rfl⟩
instance iF40_0 : TField Try.prog 40 0 0 3 := ⟨by kernel_rfl⟩
instance iF40_1 : TField Try.prog 40 1 1 3 := ⟨by kernel_rfl⟩
instance iF40_2 : TField Try.prog 40 2 2 4 := ⟨by kernel_rfl⟩
instance iF40_3 : TField Try.prog 40 3 3 25 := ⟨by kernel_rfl⟩
instance iP40 : TPlaces Try.prog 40 [(0, 1), (1, 1), (2, 1), (3, 1)] := ⟨by kernel_rfl⟩
instance iC42 : TCell Try.prog 42 := ⟨by kernel_rfl⟩
instance iS42 : TSize Try.prog 42 1 := ⟨by kernel_rfl⟩
instance iC43 : TCell Try.prog 43 := ⟨by kernel_rfl⟩
instance iS43 : TSize Try.prog 43 1 := ⟨by kernel_rfl⟩
instance iC44 : TCell Try.prog 44 := ⟨by kernel_rfl⟩
instance iS44 : TSize Try.prog 44 1 := ⟨by kernel_rfl⟩
instance iS45 : TSize Try.prog 45 1 := ⟨by kernel_rfl⟩
instance iB45 : TBytes Try.prog 45 24 := ⟨by kernel_rfl⟩
instance iZ45 : TZero Try.prog 45 (.slice none 0 0) := ⟨by kernel_rfl⟩
instance iC45 : TCell Try.prog 45 := ⟨by kernel_rfl⟩
instance iL45 : TSlice Try.prog 45 25 := ⟨by kernel_rfl⟩
instance iS46 : TSize Try.prog 46 3 := ⟨by kernel_rfl⟩
instance iB46 : TBytes Try.prog 46 56 := ⟨by kernel_rfl⟩
instance iZ46 : TZero Try.prog 46 (.agg #[.slice none 0 0, .slice none 0 0, .int .i64 0]) := ⟨by kernel_rfl⟩
instance iA46 : TAgg Try.prog 46 := ⟨by kernel_rfl⟩
instance iF46_0 : TField Try.prog 46 0 0 25 := ⟨by kernel_rfl⟩
instance iF46_1 : TField Try.prog 46 1 1 45 := ⟨by kernel_rfl⟩
instance iF46_2 : TField Try.prog 46 2 2 3 := ⟨by kernel_rfl⟩
instance iP46 : TPlaces Try.prog 46 [(0, 1), (1, 1), (2, 1)] := ⟨by kernel_rfl⟩
instance iS47 : TSize Try.prog 47 3 := ⟨by kernel_rfl⟩
instance iB47 : TBytes Try.prog 47 56 := ⟨by kernel_rfl⟩
instance iZ47 : TZero Try.prog 47 (.agg #[.slice none 0 0, .slice none 0 0, .int .i64 0]) := ⟨by kernel_rfl⟩
instance iA47 : TAgg Try.prog 47 := ⟨by kernel_rfl⟩
instance iF47_0 : TField Try.prog 47 0 0 25 := ⟨by kernel_rfl⟩
instance iF47_1 : TField Try.prog 47 1 1 45 := ⟨by kernel_rfl⟩
instance iF47_2 : TField Try.prog 47 2 2 3 := ⟨by kernel_rfl⟩
instance iP47 : TPlaces Try.prog 47 [(0, 1), (1, 1), (2, 1)] := ⟨by kernel_rfl⟩
instance iS48 : TSize Try.prog 48 1 := ⟨by kernel_rfl⟩
instance iB48 : TBytes Try.prog 48 24 := ⟨by kernel_rfl⟩
instance iZ48 : TZero Try.prog 48 (.slice none 0 0) := ⟨by kernel_rfl⟩
instance iC48 : TCell Try.prog 48 := ⟨by kernel_rfl⟩
instance iL48 : TSlice Try.prog 48 100 := ⟨by kernel_rfl⟩
instance iC49 : TCell Try.prog 49 := ⟨by kernel_rfl⟩
instance iS49 : TSize Try.prog 49 1 := ⟨by kernel_rfl⟩
instance iC50 : TCell Try.prog 50 := ⟨by kernel_rfl⟩
instance iS50 : TSize Try.prog 50 1 := ⟨by kernel_rfl⟩
instance iC52 : TCell Try.prog 52 := ⟨by kernel_rfl⟩
instance iS52 : TSize Try.prog 52 1 := ⟨by kernel_rfl⟩
instance iC53 : TCell Try.prog 53 := ⟨by kernel_rfl⟩
instance iS53 : TSize Try.prog 53 1 := ⟨by kernel_rfl⟩
instance iC54 : TCell Try.prog 54 := ⟨by kernel_rfl⟩
instance iS54 : TSize Try.prog 54 1 := ⟨by kernel_rfl⟩
instance iC55 : TCell Try.prog 55 := ⟨by kernel_rfl⟩
instance iS55 : TSize Try.prog 55 1 := ⟨by kernel_rfl⟩
instance iC56 : TCell Try.prog 56 := ⟨by kernel_rfl⟩
instance iS56 : TSize Try.prog 56 1 := ⟨by kernel_rfl⟩
instance iC57 : TCell Try.prog 57 := ⟨by kernel_rfl⟩
instance iS57 : TSize Try.prog 57 1 := ⟨by kernel_rfl⟩
instance iC58 : TCell Try.prog 58 := ⟨by kernel_rfl⟩
instance iS58 : TSize Try.prog 58 1 := ⟨by kernel_rfl⟩
instance iS59 : TSize Try.prog 59 8 := ⟨by kernel_rfl⟩
instance iB59 : TBytes Try.prog 59 64 := ⟨by kernel_rfl⟩
instance iZ59 : TZero Try.prog 59 (.agg #[.int .i64 0, .int .i64 0, .int .i64 0, .int .i64 0, .int .i64 0, .int .i64 0, .int .i64 0, .int .i64 0]) := ⟨by kernel_rfl⟩
instance iA59 : TAgg Try.prog 59 := ⟨by kernel_rfl⟩
instance iR59 : TArray Try.prog 59 8 3 := ⟨by kernel_rfl⟩
instance iS60 : TSize Try.prog 60 9 := ⟨by kernel_rfl⟩
instance iB60 : TBytes Try.prog 60 72 := ⟨by kernel_rfl⟩
instance iZ60 : TZero Try.prog 60 (.agg #[.int .i64 0, .int .i64 0, .int .i64 0, .int .i64 0, .int .i64 0, .int .i64 0, .int .i64 0, .int .i64 0, .int .i64 0]) := ⟨by kernel_rfl⟩
instance iA60 : TAgg Try.prog 60 := ⟨by kernel_rfl⟩
instance iF60_0 : TField Try.prog 60 0 0 59 := ⟨by kernel_rfl⟩
instance iF60_1 : TField Try.prog 60 1 8 3 := ⟨by kernel_rfl⟩
instance iP60 : TPlaces Try.prog 60 [(0, 8), (8, 1)] := ⟨by kernel_rfl⟩
instance iS61 : TSize Try.prog 61 9 := ⟨by kernel_rfl⟩
instance iB61 : TBytes Try.prog 61 72 := ⟨by kernel_rfl⟩
instance iZ61 : TZero Try.prog 61 (.agg #[.int .i64 0, .int .i64 0, .int .i64 0, .int .i64 0, .int .i64 0, .int .i64 0, .int .i64 0, .int .i64 0, .int .i64 0]) := ⟨by kernel_rfl⟩
instance iA61 : TAgg Try.prog 61 := ⟨by kernel_rfl⟩
instance iF61_0 : TField Try.prog 61 0 0 59 := ⟨by kernel_rfl⟩
instance iF61_1 : TField Try.prog 61 1 8 3 := ⟨by kernel_rfl⟩
instance iP61 : TPlaces Try.prog 61 [(0, 8), (8, 1)] := ⟨by kernel_rfl⟩
instance iC62 : TCell Try.prog 62 := ⟨by kernel_rfl⟩
instance iS62 : TSize Try.prog 62 1 := ⟨by kernel_rfl⟩
instance iC63 : TCell Try.prog 63 := ⟨by kernel_rfl⟩
instance iS63 : TSize Try.prog 63 1 := ⟨by kernel_rfl⟩
instance iC64 : TCell Try.prog 64 := ⟨by kernel_rfl⟩
instance iS64 : TSize Try.prog 64 1 := ⟨by kernel_rfl⟩
instance iS65 : TSize Try.prog 65 1 := ⟨by kernel_rfl⟩
instance iB65 : TBytes Try.prog 65 8 := ⟨by kernel_rfl⟩
instance iZ65 : TZero Try.prog 65 (.map none) := ⟨by kernel_rfl⟩
instance iC65 : TCell Try.prog 65 := ⟨by kernel_rfl⟩
instance iM65 : TMap Try.prog 65 3 25 := ⟨by kernel_rfl⟩
instance iC66 : TCell Try.prog 66 := ⟨by kernel_rfl⟩
instance iS66 : TSize Try.prog 66 1 := ⟨by kernel_rfl⟩
instance iC67 : TCell Try.prog 67 := ⟨by kernel_rfl⟩
instance iS67 : TSize Try.prog 67 1 := ⟨by kernel_rfl⟩
instance iC68 : TCell Try.prog 68 := ⟨by kernel_rfl⟩
instance iS68 : TSize Try.prog 68 1 := ⟨by kernel_rfl⟩
instance iC69 : TCell Try.prog 69 := ⟨by kernel_rfl⟩
instance iS69 : TSize Try.prog 69 1 := ⟨by kernel_rfl⟩
instance iC70 : TCell Try.prog 70 := ⟨by kernel_rfl⟩
instance iS70 : TSize Try.prog 70 1 := ⟨by kernel_rfl⟩
instance iC71 : TCell Try.prog 71 := ⟨by kernel_rfl⟩
instance iS71 : TSize Try.prog 71 1 := ⟨by kernel_rfl⟩
instance iC72 : TCell Try.prog 72 := ⟨by kernel_rfl⟩
instance iS72 : TSize Try.prog 72 1 := ⟨by kernel_rfl⟩
instance iC74 : TCell Try.prog 74 := ⟨by kernel_rfl⟩
instance iS74 : TSize Try.prog 74 1 := ⟨by kernel_rfl⟩
instance iC75 : TCell Try.prog 75 := ⟨by kernel_rfl⟩
instance iS75 : TSize Try.prog 75 1 := ⟨by kernel_rfl⟩
instance iS76 : TSize Try.prog 76 1 := ⟨by kernel_rfl⟩
instance iB76 : TBytes Try.prog 76 8 := ⟨by kernel_rfl⟩
instance iZ76 : TZero Try.prog 76 (.map none) := ⟨by kernel_rfl⟩
instance iC76 : TCell Try.prog 76 := ⟨by kernel_rfl⟩
instance iM76 : TMap Try.prog 76 82 100 := ⟨by kernel_rfl⟩
instance iS77 : TSize Try.prog 77 4 := ⟨by kernel_rfl⟩
instance iB77 : TBytes Try.prog 77 64 := ⟨by kernel_rfl⟩
instance iZ77 : TZero Try.prog 77 (.agg #[.slice none 0 0, .slice none 0 0, .int .i64 0, .map none]) := ⟨by kernel_rfl⟩
instance iA77 : TAgg Try.prog 77 := ⟨by kernel_rfl⟩
instance iF77_0 : TField Try.prog 77 0 0 47 := ⟨by kernel_rfl⟩
instance iF77_1 : TField Try.prog 77 1 3 76 := ⟨by kernel_rfl⟩
instance iP77 : TPlaces Try.prog 77 [(0, 3), (3, 1)] := ⟨by kernel_rfl⟩
instance iS78 : TSize Try.prog 78 4 := ⟨by kernel_rfl⟩
instance iB78 : TBytes Try.prog 78 64 := ⟨by kernel_rfl⟩
instance iZ78 : TZero Try.prog 78 (.agg #[.slice none 0 0, .slice none 0 0, .int .i64 0, .map none]) := ⟨by kernel_rfl⟩
instance iA78 : TAgg Try.prog 78 := ⟨by kernel_rfl⟩
instance iF78_0 : TField Try.prog 78 0 0 47 := ⟨by kernel_rfl⟩
instance iF78_1 : TField Try.prog 78 1 3 76 := ⟨by kernel_rfl⟩
instance iP78 : TPlaces Try.prog 78 [(0, 3), (3, 1)] := ⟨by kernel_rfl⟩
instance iS79 : TSize Try.prog 79 6 := ⟨by kernel_rfl⟩
instance iB79 : TBytes Try.prog 79 48 := ⟨by kernel_rfl⟩
instance iZ79 : TZero Try.prog 79 (.agg #[.int .i64 0, .int .i64 0, .int .i64 0, .int .i64 0, .int .i64 0, .int .i64 0]) := ⟨by kernel_rfl⟩
instance iA79 : TAgg Try.prog 79 := ⟨by kernel_rfl⟩
instance iR79 : TArray Try.prog 79 6 3 := ⟨by kernel_rfl⟩
instance iS80 : TSize Try.prog 80 6 := ⟨by kernel_rfl⟩
instance iB80 : TBytes Try.prog 80 6 := ⟨by kernel_rfl⟩
instance iZ80 : TZero Try.prog 80 (.agg #[.bool false, .bool false, .bool false, .bool false, .bool false, .bool false]) := ⟨by kernel_rfl⟩
instance iA80 : TAgg Try.prog 80 := ⟨by kernel_rfl⟩
instance iR80 : TArray Try.prog 80 6 4 := ⟨by kernel_rfl⟩
instance iS81 : TSize Try.prog 81 14 := ⟨by kernel_rfl⟩
instance iB81 : TBytes Try.prog 81 72 := ⟨by kernel_rfl⟩
instance iZ81 : TZero Try.prog 81 (.agg #[.int .i64 0, .int .i64 0, .int .i64 0, .int .i64 0, .int .i64 0, .int .i64 0, .int .i64 0, .bool false, .bool false, .bool false, .bool false, .bool false, .bool false, .int .i64 0]) := ⟨by kernel_rfl⟩
instance iA81 : TAgg Try.prog 81 := ⟨by kernel_rfl⟩
instance iF81_0 : TField Try.prog 81 0 0 3 := ⟨by kernel_rfl⟩
instance iF81_1 : TField Try.prog 81 1 1 79 := ⟨by kernel_rfl⟩
instance iF81_2 : TField Try.prog 81 2 7 80 := ⟨by kernel_rfl⟩
instance iF81_3 : TField Try.prog 81 3 13 3 := ⟨by kernel_rfl⟩
instance iP81 : TPlaces Try.prog 81 [(0, 1), (1, 6), (7, 6), (13, 1)] := ⟨by kernel_rfl⟩
instance iS82 : TSize Try.prog 82 14 := ⟨by kernel_rfl⟩
instance iB82 : TBytes Try.prog 82 72 := ⟨by kernel_rfl⟩
instance iZ82 : TZero Try.prog 82 (.agg #[.int .i64 0, .int .i64 0, .int .i64 0, .int .i64 0, .int .i64 0, .int .i64 0, .int .i64 0, .bool false, .bool false, .bool false, .bool false, .bool false, .bool false, .int .i64 0]) := ⟨by kernel_rfl⟩
instance iA82 : TAgg Try.prog 82 := ⟨by kernel_rfl⟩
instance iF82_0 : TField Try.prog 82 0 0 3 := ⟨by kernel_rfl⟩
instance iF82_1 : TField Try.prog 82 1 1 79 := ⟨by kernel_rfl⟩
instance iF82_2 : TField Try.prog 82 2 7 80 := ⟨by kernel_rfl⟩
instance iF82_3 : TField Try.prog 82 3 13 3 := ⟨by kernel_rfl⟩
instance iP82 : TPlaces Try.prog 82 [(0, 1), (1, 6), (7, 6), (13, 1)] := ⟨by kernel_rfl⟩
instance iC84 : TCell Try.prog 84 := ⟨by kernel_rfl⟩
instance iS84 : TSize Try.prog 84 1 := ⟨by kernel_rfl⟩
instance iC85 : TCell Try.prog 85 := ⟨by kernel_rfl⟩
instance iS85 : TSize Try.prog 85 1 := ⟨by kernel_rfl⟩
instance iC86 : TCell Try.prog 86 := ⟨by kernel_rfl⟩
instance iS86 : TSize Try.prog 86 1 := ⟨by kernel_rfl⟩
instance iS87 : TSize Try.prog 87 1 := ⟨by kernel_rfl⟩
instance iB87 : TBytes Try.prog 87 8 := ⟨by kernel_rfl⟩
instance iZ87 : TZero Try.prog 87 (.pointer none) := ⟨by kernel_rfl⟩
instance iC87 : TCell Try.prog 87 := ⟨by kernel_rfl⟩
instance iE87 : TPtr Try.prog 87 26 := ⟨by kernel_rfl⟩
instance iC88 : TCell Try.prog 88 := ⟨by kernel_rfl⟩
instance iS88 : TSize Try.prog 88 1 := ⟨by kernel_rfl⟩
instance iS89 : TSize Try.prog 89 1 := ⟨by kernel_rfl⟩
instance iB89 : TBytes Try.prog 89 8 := ⟨by kernel_rfl⟩
instance iZ89 : TZero Try.prog 89 (.nilFunc) := ⟨by kernel_rfl⟩
instance iC89 : TCell Try.prog 89 := ⟨by kernel_rfl⟩
instance iS90 : TSize Try.prog 90 1 := ⟨by kernel_rfl⟩
instance iB90 : TBytes Try.prog 90 8 := ⟨by kernel_rfl⟩
instance iZ90 : TZero Try.prog 90 (.map none) := ⟨by kernel_rfl⟩
instance iC90 : TCell Try.prog 90 := ⟨by kernel_rfl⟩
instance iM90 : TMap Try.prog 90 132 3 := ⟨by kernel_rfl⟩
instance iS91 : TSize Try.prog 91 4 := ⟨by kernel_rfl⟩
instance iB91 : TBytes Try.prog 91 64 := ⟨by kernel_rfl⟩
instance iZ91 : TZero Try.prog 91 (.agg #[.slice none 0 0, .slice none 0 0, .int .i64 0, .map none]) := ⟨by kernel_rfl⟩
instance iA91 : TAgg Try.prog 91 := ⟨by kernel_rfl⟩
instance iF91_0 : TField Try.prog 91 0 0 47 := ⟨by kernel_rfl⟩
instance iF91_1 : TField Try.prog 91 1 3 90 := ⟨by kernel_rfl⟩
instance iP91 : TPlaces Try.prog 91 [(0, 3), (3, 1)] := ⟨by kernel_rfl⟩
instance iS92 : TSize Try.prog 92 4 := ⟨by kernel_rfl⟩
instance iB92 : TBytes Try.prog 92 64 := ⟨by kernel_rfl⟩
instance iZ92 : TZero Try.prog 92 (.agg #[.slice none 0 0, .slice none 0 0, .int .i64 0, .map none]) := ⟨by kernel_rfl⟩
instance iA92 : TAgg Try.prog 92 := ⟨by kernel_rfl⟩
instance iF92_0 : TField Try.prog 92 0 0 47 := ⟨by kernel_rfl⟩
instance iF92_1 : TField Try.prog 92 1 3 90 := ⟨by kernel_rfl⟩
instance iP92 : TPlaces Try.prog 92 [(0, 3), (3, 1)] := ⟨by kernel_rfl⟩
instance iC93 : TCell Try.prog 93 := ⟨by kernel_rfl⟩
instance iS93 : TSize Try.prog 93 1 := ⟨by kernel_rfl⟩
instance iC94 : TCell Try.prog 94 := ⟨by kernel_rfl⟩
instance iS94 : TSize Try.prog 94 1 := ⟨by kernel_rfl⟩
instance iS95 : TSize Try.prog 95 1 := ⟨by kernel_rfl⟩
instance iB95 : TBytes Try.prog 95 8 := ⟨by kernel_rfl⟩
instance iZ95 : TZero Try.prog 95 (.map none) := ⟨by kernel_rfl⟩
instance iC95 : TCell Try.prog 95 := ⟨by kernel_rfl⟩
instance iM95 : TMap Try.prog 95 102 100 := ⟨by kernel_rfl⟩
instance iC96 : TCell Try.prog 96 := ⟨by kernel_rfl⟩
instance iS96 : TSize Try.prog 96 1 := ⟨by kernel_rfl⟩
instance iS97 : TSize Try.prog 97 1 := ⟨by kernel_rfl⟩
instance iB97 : TBytes Try.prog 97 8 := ⟨by kernel_rfl⟩
instance iZ97 : TZero Try.prog 97 (.nilFunc) := ⟨by kernel_rfl⟩
instance iC97 : TCell Try.prog 97 := ⟨by kernel_rfl⟩
instance iC98 : TCell Try.prog 98 := ⟨by kernel_rfl⟩
instance iS98 : TSize Try.prog 98 1 := ⟨by kernel_rfl⟩
instance iS99 : TSize Try.prog 99 6 := ⟨by kernel_rfl⟩
instance iB99 : TBytes Try.prog 99 80 := ⟨by kernel_rfl⟩
instance iZ99 : TZero Try.prog 99 (.agg #[.int .i64 0, .slice none 0 0, .slice none 0 0, .int .i64 0, .int .i64 0, .int .i64 0]) := ⟨by kernel_rfl⟩
instance iA99 : TAgg Try.prog 99 := ⟨by kernel_rfl⟩
instance iF99_0 : TField Try.prog 99 0 0 3 := ⟨by kernel_rfl⟩
instance iF99_1 : TField Try.prog 99 1 1 25 := ⟨by kernel_rfl⟩
instance iF99_2 : TField Try.prog 99 2 2 29 := ⟨by kernel_rfl⟩
instance iF99_3 : TField Try.prog 99 3 3 3 := ⟨by kernel_rfl⟩
instance iF99_4 : TField Try.prog 99 4 4 3 := ⟨by kernel_rfl⟩
instance iF99_5 : TField Try.prog 99 5 5 3 := ⟨by kernel_rfl⟩
instance iP99 : TPlaces Try.prog 99 [(0, 1), (1, 1), (2, 1), (3, 1), (4, 1), (5, 1)] := ⟨by kernel_rfl⟩
instance iS100 : TSize Try.prog 100 6 := ⟨by kernel_rfl⟩
instance iB100 : TBytes Try.prog 100 80 := ⟨by kernel_rfl⟩
instance iZ100 : TZero Try.prog 100 (.agg #[.int .i64 0, .slice none 0 0, .slice none 0 0, .int .i64 0, .int .i64 0, .int .i64 0]) := ⟨by kernel_rfl⟩
instance iA100 : TAgg Try.prog 100 := ⟨by kernel_rfl⟩
instance iF100_0 : TField Try.prog 100 0 0 3 := ⟨by kernel_rfl⟩
instance iF100_1 : TField Try.prog 100 1 1 25 := ⟨by kernel_rfl⟩
instance iF100_2 : TField Try.prog 100 2 2 29 := ⟨by kernel_rfl⟩
instance iF100_3 : TField Try.prog 100 3 3 3 := ⟨by kernel_rfl⟩
instance iF100_4 : TField Try.prog 100 4 4 3 := ⟨by kernel_rfl⟩
instance iF100_5 : TField Try.prog 100 5 5 3 := ⟨by kernel_rfl⟩
instance iP100 : TPlaces Try.prog 100 [(0, 1), (1, 1), (2, 1), (3, 1), (4, 1), (5, 1)] := ⟨by kernel_rfl⟩
instance iS101 : TSize Try.prog 101 10 := ⟨by kernel_rfl⟩
instance iB101 : TBytes Try.prog 101 80 := ⟨by kernel_rfl⟩
instance iZ101 : TZero Try.prog 101 (.agg #[.int .i64 0, .int .i64 0, .int .i64 0, .int .i64 0, .int .i64 0, .int .i64 0, .int .i64 0, .int .i64 0, .int .i64 0, .int .i64 0]) := ⟨by kernel_rfl⟩
instance iA101 : TAgg Try.prog 101 := ⟨by kernel_rfl⟩
instance iF101_0 : TField Try.prog 101 0 0 3 := ⟨by kernel_rfl⟩
instance iF101_1 : TField Try.prog 101 1 1 3 := ⟨by kernel_rfl⟩
instance iF101_2 : TField Try.prog 101 2 2 3 := ⟨by kernel_rfl⟩
instance iF101_3 : TField Try.prog 101 3 3 79 := ⟨by kernel_rfl⟩
instance iF101_4 : TField Try.prog 101 4 9 3 := ⟨by kernel_rfl⟩
instance iP101 : TPlaces Try.prog 101 [(0, 1), (1, 1), (2, 1), (3, 6), (9, 1)] := ⟨by kernel_rfl⟩
instance iS102 : TSize Try.prog 102 10 := ⟨by kernel_rfl⟩
instance iB102 : TBytes Try.prog 102 80 := ⟨by kernel_rfl⟩
instance iZ102 : TZero Try.prog 102 (.agg #[.int .i64 0, .int .i64 0, .int .i64 0, .int .i64 0, .int .i64 0, .int .i64 0, .int .i64 0, .int .i64 0, .int .i64 0, .int .i64 0]) := ⟨by kernel_rfl⟩
instance iA102 : TAgg Try.prog 102 := ⟨by kernel_rfl⟩
instance iF102_0 : TField Try.prog 102 0 0 3 := ⟨by kernel_rfl⟩
instance iF102_1 : TField Try.prog 102 1 1 3 := ⟨by kernel_rfl⟩
instance iF102_2 : TField Try.prog 102 2 2 3 := ⟨by kernel_rfl⟩
instance iF102_3 : TField Try.prog 102 3 3 79 := ⟨by kernel_rfl⟩
instance iF102_4 : TField Try.prog 102 4 9 3 := ⟨by kernel_rfl⟩
instance iP102 : TPlaces Try.prog 102 [(0, 1), (1, 1), (2, 1), (3, 6), (9, 1)] := ⟨by kernel_rfl⟩
instance iC104 : TCell Try.prog 104 := ⟨by kernel_rfl⟩
instance iS104 : TSize Try.prog 104 1 := ⟨by kernel_rfl⟩
instance iS105 : TSize Try.prog 105 1 := ⟨by kernel_rfl⟩
instance iB105 : TBytes Try.prog 105 8 := ⟨by kernel_rfl⟩
instance iZ105 : TZero Try.prog 105 (.map none) := ⟨by kernel_rfl⟩
instance iC105 : TCell Try.prog 105 := ⟨by kernel_rfl⟩
instance iM105 : TMap Try.prog 105 102 4 := ⟨by kernel_rfl⟩
instance iS106 : TSize Try.prog 106 1 := ⟨by kernel_rfl⟩
instance iB106 : TBytes Try.prog 106 24 := ⟨by kernel_rfl⟩
instance iZ106 : TZero Try.prog 106 (.slice none 0 0) := ⟨by kernel_rfl⟩
instance iC106 : TCell Try.prog 106 := ⟨by kernel_rfl⟩
instance iL106 : TSlice Try.prog 106 102 := ⟨by kernel_rfl⟩
instance iC107 : TCell Try.prog 107 := ⟨by kernel_rfl⟩
instance iS107 : TSize Try.prog 107 1 := ⟨by kernel_rfl⟩
instance iC109 : TCell Try.prog 109 := ⟨by kernel_rfl⟩
instance iS109 : TSize Try.prog 109 1 := ⟨by kernel_rfl⟩
instance iC110 : TCell Try.prog 110 := ⟨by kernel_rfl⟩
instance iS110 : TSize Try.prog 110 1 := ⟨by kernel_rfl⟩
instance iC111 : TCell Try.prog 111 := ⟨by kernel_rfl⟩
instance iS111 : TSize Try.prog 111 1 := ⟨by kernel_rfl⟩
instance iC112 : TCell Try.prog 112 := ⟨by kernel_rfl⟩
instance iS112 : TSize Try.prog 112 1 := ⟨by kernel_rfl⟩
instance iC113 : TCell Try.prog 113 := ⟨by kernel_rfl⟩
instance iS113 : TSize Try.prog 113 1 := ⟨by kernel_rfl⟩
instance iS114 : TSize Try.prog 114 1 := ⟨by kernel_rfl⟩
instance iB114 : TBytes Try.prog 114 8 := ⟨by kernel_rfl⟩
instance iZ114 : TZero Try.prog 114 (.map none) := ⟨by kernel_rfl⟩
instance iC114 : TCell Try.prog 114 := ⟨by kernel_rfl⟩
instance iM114 : TMap Try.prog 114 82 4 := ⟨by kernel_rfl⟩
instance iC115 : TCell Try.prog 115 := ⟨by kernel_rfl⟩
instance iS115 : TSize Try.prog 115 1 := ⟨by kernel_rfl⟩
instance iC116 : TCell Try.prog 116 := ⟨by kernel_rfl⟩
instance iS116 : TSize Try.prog 116 1 := ⟨by kernel_rfl⟩
instance iS117 : TSize Try.prog 117 1 := ⟨by kernel_rfl⟩
instance iB117 : TBytes Try.prog 117 8 := ⟨by kernel_rfl⟩
instance iZ117 : TZero Try.prog 117 (.nilFunc) := ⟨by kernel_rfl⟩
instance iC117 : TCell Try.prog 117 := ⟨by kernel_rfl⟩
instance iC118 : TCell Try.prog 118 := ⟨by kernel_rfl⟩
instance iS118 : TSize Try.prog 118 1 := ⟨by kernel_rfl⟩
instance iC119 : TCell Try.prog 119 := ⟨by kernel_rfl⟩
instance iS119 : TSize Try.prog 119 1 := ⟨by kernel_rfl⟩
instance iC120 : TCell Try.prog 120 := ⟨by kernel_rfl⟩
instance iS120 : TSize Try.prog 120 1 := ⟨by kernel_rfl⟩
instance iC121 : TCell Try.prog 121 := ⟨by kernel_rfl⟩
instance iS121 : TSize Try.prog 121 1 := ⟨by kernel_rfl⟩
instance iC122 : TCell Try.prog 122 := ⟨by kernel_rfl⟩
instance iS122 : TSize Try.prog 122 1 := ⟨by kernel_rfl⟩
instance iC123 : TCell Try.prog 123 := ⟨by kernel_rfl⟩
instance iS123 : TSize Try.prog 123 1 := ⟨by kernel_rfl⟩
instance iC124 : TCell Try.prog 124 := ⟨by kernel_rfl⟩
instance iS124 : TSize Try.prog 124 1 := ⟨by kernel_rfl⟩
instance iC125 : TCell Try.prog 125 := ⟨by kernel_rfl⟩
instance iS125 : TSize Try.prog 125 1 := ⟨by kernel_rfl⟩
instance iC126 : TCell Try.prog 126 := ⟨by kernel_rfl⟩
instance iS126 : TSize Try.prog 126 1 := ⟨by kernel_rfl⟩
instance iC127 : TCell Try.prog 127 := ⟨by kernel_rfl⟩
instance iS127 : TSize Try.prog 127 1 := ⟨by kernel_rfl⟩
instance iC128 : TCell Try.prog 128 := ⟨by kernel_rfl⟩
instance iS128 : TSize Try.prog 128 1 := ⟨by kernel_rfl⟩
instance iC129 : TCell Try.prog 129 := ⟨by kernel_rfl⟩
instance iS129 : TSize Try.prog 129 1 := ⟨by kernel_rfl⟩
instance iC130 : TCell Try.prog 130 := ⟨by kernel_rfl⟩
instance iS130 : TSize Try.prog 130 1 := ⟨by kernel_rfl⟩
instance iS131 : TSize Try.prog 131 15 := ⟨by kernel_rfl⟩
instance iB131 : TBytes Try.prog 131 80 := ⟨by kernel_rfl⟩
instance iZ131 : TZero Try.prog 131 (.agg #[.int .i64 0, .int .i64 0, .int .i64 0, .int .i64 0, .int .i64 0, .int .i64 0, .int .i64 0, .int .i64 0, .int .i64 0, .bool false, .bool false, .bool false, .bool false, .bool false, .bool false]) := ⟨by kernel_rfl⟩
instance iA131 : TAgg Try.prog 131 := ⟨by kernel_rfl⟩
instance iF131_0 : TField Try.prog 131 0 0 3 := ⟨by kernel_rfl⟩
instance iF131_1 : TField Try.prog 131 1 1 3 := ⟨by kernel_rfl⟩
instance iF131_2 : TField Try.prog 131 2 2 3 := ⟨by kernel_rfl⟩
instance iF131_3 : TField Try.prog 131 3 3 79 := ⟨by kernel_rfl⟩
instance iF131_4 : TField Try.prog 131 4 9 80 := ⟨by kernel_rfl⟩
instance iP131 : TPlaces Try.prog 131 [(0, 1), (1, 1), (2, 1), (3, 6), (9, 6)] := ⟨by kernel_rfl⟩
instance iS132 : TSize Try.prog 132 15 := ⟨by kernel_rfl⟩
instance iB132 : TBytes Try.prog 132 80 := ⟨by kernel_rfl⟩
instance iZ132 : TZero Try.prog 132 (.agg #[.int .i64 0, .int .i64 0, .int .i64 0, .int .i64 0, .int .i64 0, .int .i64 0, .int .i64 0, .int .i64 0, .int .i64 0, .bool false, .bool false, .bool false, .bool false, .bool false, .bool false]) := ⟨by kernel_rfl⟩
instance iA132 : TAgg Try.prog 132 := ⟨by kernel_rfl⟩
instance iF132_0 : TField Try.prog 132 0 0 3 := ⟨by kernel_rfl⟩
instance iF132_1 : TField Try.prog 132 1 1 3 := ⟨by kernel_rfl⟩
instance iF132_2 : TField Try.prog 132 2 2 3 := ⟨by kernel_rfl⟩
instance iF132_3 : TField Try.prog 132 3 3 79 := ⟨by kernel_rfl⟩
instance iF132_4 : TField Try.prog 132 4 9 80 := ⟨by kernel_rfl⟩
instance iP132 : TPlaces Try.prog 132 [(0, 1), (1, 1), (2, 1), (3, 6), (9, 6)] := ⟨by kernel_rfl⟩
instance iC133 : TCell Try.prog 133 := ⟨by kernel_rfl⟩
instance iS133 : TSize Try.prog 133 1 := ⟨by kernel_rfl⟩
instance iC135 : TCell Try.prog 135 := ⟨by kernel_rfl⟩
instance iS135 : TSize Try.prog 135 1 := ⟨by kernel_rfl⟩
instance iC136 : TCell Try.prog 136 := ⟨by kernel_rfl⟩
instance iS136 : TSize Try.prog 136 1 := ⟨by kernel_rfl⟩
instance iC137 : TCell Try.prog 137 := ⟨by kernel_rfl⟩
instance iS137 : TSize Try.prog 137 1 := ⟨by kernel_rfl⟩
instance iC139 : TCell Try.prog 139 := ⟨by kernel_rfl⟩
instance iS139 : TSize Try.prog 139 1 := ⟨by kernel_rfl⟩
instance iC141 : TCell Try.prog 141 := ⟨by kernel_rfl⟩
instance iS141 : TSize Try.prog 141 1 := ⟨by kernel_rfl⟩
instance iC142 : TCell Try.prog 142 := ⟨by kernel_rfl⟩
instance iS142 : TSize Try.prog 142 1 := ⟨by kernel_rfl⟩
instance iS143 : TSize Try.prog 143 1 := ⟨by kernel_rfl⟩
instance iB143 : TBytes Try.prog 143 8 := ⟨by kernel_rfl⟩
instance iZ143 : TZero Try.prog 143 (.int .u64 0) := ⟨by kernel_rfl⟩
instance iC143 : TCell Try.prog 143 := ⟨by kernel_rfl⟩
instance iI143 : TInt Try.prog 143 .u64 := ⟨by kernel_rfl⟩
instance iC144 : TCell Try.prog 144 := ⟨by kernel_rfl⟩
instance iS144 : TSize Try.prog 144 1 := ⟨by kernel_rfl⟩
instance iC145 : TCell Try.prog 145 := ⟨by kernel_rfl⟩
instance iS145 : TSize Try.prog 145 1 := ⟨by kernel_rfl⟩
instance iC146 : TCell Try.prog 146 := ⟨by kernel_rfl⟩
instance iS146 : TSize Try.prog 146 1 := ⟨by kernel_rfl⟩
instance iC147 : TCell Try.prog 147 := ⟨by kernel_rfl⟩
instance iS147 : TSize Try.prog 147 1 := ⟨by kernel_rfl⟩
instance iC148 : TCell Try.prog 148 := ⟨by kernel_rfl⟩
instance iS148 : TSize Try.prog 148 1 := ⟨by kernel_rfl⟩
instance iC149 : TCell Try.prog 149 := ⟨by kernel_rfl⟩
instance iS149 : TSize Try.prog 149 1 := ⟨by kernel_rfl⟩
instance iC150 : TCell Try.prog 150 := ⟨by kernel_rfl⟩
instance iS150 : TSize Try.prog 150 1 := ⟨by kernel_rfl⟩
instance iS151 : TSize Try.prog 151 1 := ⟨by kernel_rfl⟩
instance iB151 : TBytes Try.prog 151 8 := ⟨by kernel_rfl⟩
instance iZ151 : TZero Try.prog 151 (.int .i64 0) := ⟨by kernel_rfl⟩
instance iC151 : TCell Try.prog 151 := ⟨by kernel_rfl⟩
instance iI151 : TInt Try.prog 151 .i64 := ⟨by kernel_rfl⟩
instance iC153 : TCell Try.prog 153 := ⟨by kernel_rfl⟩
instance iS153 : TSize Try.prog 153 1 := ⟨by kernel_rfl⟩
instance iC154 : TCell Try.prog 154 := ⟨by kernel_rfl⟩
instance iS154 : TSize Try.prog 154 1 := ⟨by kernel_rfl⟩
instance iC155 : TCell Try.prog 155 := ⟨by kernel_rfl⟩
instance iS155 : TSize Try.prog 155 1 := ⟨by kernel_rfl⟩
instance iC156 : TCell Try.prog 156 := ⟨by kernel_rfl⟩
instance iS156 : TSize Try.prog 156 1 := ⟨by kernel_rfl⟩
instance iC157 : TCell Try.prog 157 := ⟨by kernel_rfl⟩
instance iS157 : TSize Try.prog 157 1 := ⟨by kernel_rfl⟩
instance iS158 : TSize Try.prog 158 1 := ⟨by kernel_rfl⟩
instance iB158 : TBytes Try.prog 158 4 := ⟨by kernel_rfl⟩
instance iZ158 : TZero Try.prog 158 (.int .u32 0) := ⟨by kernel_rfl⟩
instance iC158 : TCell Try.prog 158 := ⟨by kernel_rfl⟩
instance iI158 : TInt Try.prog 158 .u32 := ⟨by kernel_rfl⟩
instance iC159 : TCell Try.prog 159 := ⟨by kernel_rfl⟩
instance iS159 : TSize Try.prog 159 1 := ⟨by kernel_rfl⟩
instance iS160 : TSize Try.prog 160 1 := ⟨by kernel_rfl⟩
instance iB160 : TBytes Try.prog 160 8 := ⟨by kernel_rfl⟩
instance iZ160 : TZero Try.prog 160 (.int .u64 0) := ⟨by kernel_rfl⟩
instance iC160 : TCell Try.prog 160 := ⟨by kernel_rfl⟩
instance iI160 : TInt Try.prog 160 .u64 := ⟨by kernel_rfl⟩
instance iS161 : TSize Try.prog 161 1 := ⟨by kernel_rfl⟩
instance iB161 : TBytes Try.prog 161 8 := ⟨by kernel_rfl⟩
instance iZ161 : TZero Try.prog 161 (.int .u64 0) := ⟨by kernel_rfl⟩
instance iC161 : TCell Try.prog 161 := ⟨by kernel_rfl⟩
instance iI161 : TInt Try.prog 161 .u64 := ⟨by kernel_rfl⟩
instance iC162 : TCell Try.prog 162 := ⟨by kernel_rfl⟩
instance iS162 : TSize Try.prog 162 1 := ⟨by kernel_rfl⟩
instance iC163 : TCell Try.prog 163 := ⟨by kernel_rfl⟩
instance iS163 : TSize Try.prog 163 1 := ⟨by kernel_rfl⟩
instance iC164 : TCell Try.prog 164 := ⟨by kernel_rfl⟩
instance iS164 : TSize Try.prog 164 1 := ⟨by kernel_rfl⟩
instance iS165 : TSize Try.prog 165 1 := ⟨by kernel_rfl⟩
instance iB165 : TBytes Try.prog 165 8 := ⟨by kernel_rfl⟩
instance iZ165 : TZero Try.prog 165 (.pointer none) := ⟨by kernel_rfl⟩
instance iC165 : TCell Try.prog 165 := ⟨by kernel_rfl⟩
instance iE165 : TPtr Try.prog 165 3 := ⟨by kernel_rfl⟩
instance iC166 : TCell Try.prog 166 := ⟨by kernel_rfl⟩
instance iS166 : TSize Try.prog 166 1 := ⟨by kernel_rfl⟩
instance iS167 : TSize Try.prog 167 1 := ⟨by kernel_rfl⟩
instance iB167 : TBytes Try.prog 167 8 := ⟨by kernel_rfl⟩
instance iZ167 : TZero Try.prog 167 (.pointer none) := ⟨by kernel_rfl⟩
instance iC167 : TCell Try.prog 167 := ⟨by kernel_rfl⟩
instance iE167 : TPtr Try.prog 167 161 := ⟨by kernel_rfl⟩
instance iC169 : TCell Try.prog 169 := ⟨by kernel_rfl⟩
instance iS169 : TSize Try.prog 169 1 := ⟨by kernel_rfl⟩
instance iC170 : TCell Try.prog 170 := ⟨by kernel_rfl⟩
instance iS170 : TSize Try.prog 170 1 := ⟨by kernel_rfl⟩
instance iS171 : TSize Try.prog 171 4 := ⟨by kernel_rfl⟩
instance iB171 : TBytes Try.prog 171 40 := ⟨by kernel_rfl⟩
instance iZ171 : TZero Try.prog 171 (.agg #[.pointer none, .pointer none, .pointer none, .string ⟨#[]⟩]) := ⟨by kernel_rfl⟩
instance iA171 : TAgg Try.prog 171 := ⟨by kernel_rfl⟩
instance iF171_0 : TField Try.prog 171 0 0 17 := ⟨by kernel_rfl⟩
instance iF171_1 : TField Try.prog 171 1 1 17 := ⟨by kernel_rfl⟩
instance iF171_2 : TField Try.prog 171 2 2 17 := ⟨by kernel_rfl⟩
instance iF171_3 : TField Try.prog 171 3 3 9 := ⟨by kernel_rfl⟩
instance iP171 : TPlaces Try.prog 171 [(0, 1), (1, 1), (2, 1), (3, 1)] := ⟨by kernel_rfl⟩
instance iS172 : TSize Try.prog 172 4 := ⟨by kernel_rfl⟩
instance iB172 : TBytes Try.prog 172 40 := ⟨by kernel_rfl⟩
instance iZ172 : TZero Try.prog 172 (.agg #[.pointer none, .pointer none, .pointer none, .string ⟨#[]⟩]) := ⟨by kernel_rfl⟩
instance iA172 : TAgg Try.prog 172 := ⟨by kernel_rfl⟩
instance iF172_0 : TField Try.prog 172 0 0 17 := ⟨by kernel_rfl⟩
instance iF172_1 : TField Try.prog 172 1 1 17 := ⟨by kernel_rfl⟩
instance iF172_2 : TField Try.prog 172 2 2 17 := ⟨by kernel_rfl⟩
instance iF172_3 : TField Try.prog 172 3 3 9 := ⟨by kernel_rfl⟩
instance iP172 : TPlaces Try.prog 172 [(0, 1), (1, 1), (2, 1), (3, 1)] := ⟨by kernel_rfl⟩
instance iS173 : TSize Try.prog 173 0 := ⟨by kernel_rfl⟩
instance iB173 : TBytes Try.prog 173 0 := ⟨by kernel_rfl⟩
instance iZ173 : TZero Try.prog 173 (.agg #[]) := ⟨by kernel_rfl⟩
instance iA173 : TAgg Try.prog 173 := ⟨by kernel_rfl⟩
instance iR173 : TArray Try.prog 173 0 16 := ⟨by kernel_rfl⟩
instance iS174 : TSize Try.prog 174 0 := ⟨by kernel_rfl⟩
instance iB174 : TBytes Try.prog 174 0 := ⟨by kernel_rfl⟩
instance iZ174 : TZero Try.prog 174 (.agg #[]) := ⟨by kernel_rfl⟩
instance iA174 : TAgg Try.prog 174 := ⟨by kernel_rfl⟩
instance iP174 : TPlaces Try.prog 174 [(0, 0)] := ⟨by kernel_rfl⟩
instance iS175 : TSize Try.prog 175 0 := ⟨by kernel_rfl⟩
instance iB175 : TBytes Try.prog 175 0 := ⟨by kernel_rfl⟩
instance iZ175 : TZero Try.prog 175 (.agg #[]) := ⟨by kernel_rfl⟩
instance iA175 : TAgg Try.prog 175 := ⟨by kernel_rfl⟩
instance iP175 : TPlaces Try.prog 175 [(0, 0)] := ⟨by kernel_rfl⟩
instance iC176 : TCell Try.prog 176 := ⟨by kernel_rfl⟩
instance iS176 : TSize Try.prog 176 1 := ⟨by kernel_rfl⟩
instance iS177 : TSize Try.prog 177 1 := ⟨by kernel_rfl⟩
instance iB177 : TBytes Try.prog 177 1 := ⟨by kernel_rfl⟩
instance iZ177 : TZero Try.prog 177 (.int .u8 0) := ⟨by kernel_rfl⟩
instance iC177 : TCell Try.prog 177 := ⟨by kernel_rfl⟩
instance iI177 : TInt Try.prog 177 .u8 := ⟨by kernel_rfl⟩
instance iS178 : TSize Try.prog 178 1 := ⟨by kernel_rfl⟩
instance iB178 : TBytes Try.prog 178 1 := ⟨by kernel_rfl⟩
instance iZ178 : TZero Try.prog 178 (.int .u8 0) := ⟨by kernel_rfl⟩
instance iC178 : TCell Try.prog 178 := ⟨by kernel_rfl⟩
instance iI178 : TInt Try.prog 178 .u8 := ⟨by kernel_rfl⟩
instance iC179 : TCell Try.prog 179 := ⟨by kernel_rfl⟩
instance iS179 : TSize Try.prog 179 1 := ⟨by kernel_rfl⟩
instance iS180 : TSize Try.prog 180 1 := ⟨by kernel_rfl⟩
instance iB180 : TBytes Try.prog 180 8 := ⟨by kernel_rfl⟩
instance iZ180 : TZero Try.prog 180 (.pointer none) := ⟨by kernel_rfl⟩
instance iC180 : TCell Try.prog 180 := ⟨by kernel_rfl⟩
instance iE180 : TPtr Try.prog 180 5 := ⟨by kernel_rfl⟩
instance iS181 : TSize Try.prog 181 1 := ⟨by kernel_rfl⟩
instance iB181 : TBytes Try.prog 181 4 := ⟨by kernel_rfl⟩
instance iZ181 : TZero Try.prog 181 (.int .i32 0) := ⟨by kernel_rfl⟩
instance iC181 : TCell Try.prog 181 := ⟨by kernel_rfl⟩
instance iI181 : TInt Try.prog 181 .i32 := ⟨by kernel_rfl⟩
instance iS182 : TSize Try.prog 182 1 := ⟨by kernel_rfl⟩
instance iB182 : TBytes Try.prog 182 4 := ⟨by kernel_rfl⟩
instance iZ182 : TZero Try.prog 182 (.int .i32 0) := ⟨by kernel_rfl⟩
instance iC182 : TCell Try.prog 182 := ⟨by kernel_rfl⟩
instance iI182 : TInt Try.prog 182 .i32 := ⟨by kernel_rfl⟩
instance iS183 : TSize Try.prog 183 11 := ⟨by kernel_rfl⟩
instance iB183 : TBytes Try.prog 183 48 := ⟨by kernel_rfl⟩
instance iZ183 : TZero Try.prog 183 (.agg #[.int .u64 0, .int .u64 0, .int .u32 0, .int .u8 0, .int .u8 0, .int .u8 0, .int .u8 0, .nilFunc, .pointer none, .int .i32 0, .int .i32 0]) := ⟨by kernel_rfl⟩
instance iA183 : TAgg Try.prog 183 := ⟨by kernel_rfl⟩
instance iF183_0 : TField Try.prog 183 0 0 12 := ⟨by kernel_rfl⟩
instance iF183_1 : TField Try.prog 183 1 1 12 := ⟨by kernel_rfl⟩
instance iF183_2 : TField Try.prog 183 2 2 158 := ⟨by kernel_rfl⟩
instance iF183_3 : TField Try.prog 183 3 3 177 := ⟨by kernel_rfl⟩
instance iF183_4 : TField Try.prog 183 4 4 5 := ⟨by kernel_rfl⟩
instance iF183_5 : TField Try.prog 183 5 5 5 := ⟨by kernel_rfl⟩
instance iF183_6 : TField Try.prog 183 6 6 178 := ⟨by kernel_rfl⟩
instance iF183_7 : TField Try.prog 183 7 7 179 := ⟨by kernel_rfl⟩
instance iF183_8 : TField Try.prog 183 8 8 180 := ⟨by kernel_rfl⟩
instance iF183_9 : TField Try.prog 183 9 9 181 := ⟨by kernel_rfl⟩
instance iF183_10 : TField Try.prog 183 10 10 182 := ⟨by kernel_rfl⟩
instance iP183 : TPlaces Try.prog 183 [(0, 1), (1, 1), (2, 1), (3, 1), (4, 1), (5, 1), (6, 1), (7, 1), (8, 1), (9, 1), (10, 1)] := ⟨by kernel_rfl⟩
instance iS184 : TSize Try.prog 184 11 := ⟨by kernel_rfl⟩
instance iB184 : TBytes Try.prog 184 48 := ⟨by kernel_rfl⟩
instance iZ184 : TZero Try.prog 184 (.agg #[.int .u64 0, .int .u64 0, .int .u32 0, .int .u8 0, .int .u8 0, .int .u8 0, .int .u8 0, .nilFunc, .pointer none, .int .i32 0, .int .i32 0]) := ⟨by kernel_rfl⟩
instance iA184 : TAgg Try.prog 184 := ⟨by kernel_rfl⟩
instance iF184_0 : TField Try.prog 184 0 0 12 := ⟨by kernel_rfl⟩
instance iF184_1 : TField Try.prog 184 1 1 12 := ⟨by kernel_rfl⟩
instance iF184_2 : TField Try.prog 184 2 2 158 := ⟨by kernel_rfl⟩
instance iF184_3 : TField Try.prog 184 3 3 177 := ⟨by kernel_rfl⟩
instance iF184_4 : TField Try.prog 184 4 4 5 := ⟨by kernel_rfl⟩
instance iF184_5 : TField Try.prog 184 5 5 5 := ⟨by kernel_rfl⟩
instance iF184_6 : TField Try.prog 184 6 6 178 := ⟨by kernel_rfl⟩
instance iF184_7 : TField Try.prog 184 7 7 179 := ⟨by kernel_rfl⟩
instance iF184_8 : TField Try.prog 184 8 8 180 := ⟨by kernel_rfl⟩
instance iF184_9 : TField Try.prog 184 9 9 181 := ⟨by kernel_rfl⟩
instance iF184_10 : TField Try.prog 184 10 10 182 := ⟨by kernel_rfl⟩
instance iP184 : TPlaces Try.prog 184 [(0, 1), (1, 1), (2, 1), (3, 1), (4, 1), (5, 1), (6, 1), (7, 1), (8, 1), (9, 1), (10, 1)] := ⟨by kernel_rfl⟩
instance iS185 : TSize Try.prog 185 1 := ⟨by kernel_rfl⟩
instance iB185 : TBytes Try.prog 185 8 := ⟨by kernel_rfl⟩
instance iZ185 : TZero Try.prog 185 (.pointer none) := ⟨by kernel_rfl⟩
instance iC185 : TCell Try.prog 185 := ⟨by kernel_rfl⟩
instance iN3 : TFn Try.prog 3 := ⟨by kernel_rfl⟩
instance iN4 : TFn Try.prog 4 := ⟨by kernel_rfl⟩
instance iN5 : TFn Try.prog 5 := ⟨by kernel_rfl⟩
instance iN6 : TFn Try.prog 6 := ⟨by kernel_rfl⟩
instance iN7 : TFn Try.prog 7 := ⟨by kernel_rfl⟩
instance iN8 : TFn Try.prog 8 := ⟨by kernel_rfl⟩
instance iN9 : TFn Try.prog 9 := ⟨by kernel_rfl⟩
instance iN10 : TFn Try.prog 10 := ⟨by kernel_rfl⟩
instance iN11 : TFn Try.prog 11 := ⟨by kernel_rfl⟩
instance iN12 : TFn Try.prog 12 := ⟨by kernel_rfl⟩
instance iN13 : TFn Try.prog 13 := ⟨by kernel_rfl⟩
instance iN14 : TFn Try.prog 14 := ⟨by kernel_rfl⟩
instance iN15 : TFn Try.prog 15 := ⟨by kernel_rfl⟩
instance iN16 : TFn Try.prog 16 := ⟨by kernel_rfl⟩
instance iN17 : TFn Try.prog 17 := ⟨by kernel_rfl⟩
instance iN18 : TFn Try.prog 18 := ⟨by kernel_rfl⟩
instance iN19 : TFn Try.prog 19 := ⟨by kernel_rfl⟩
instance iN20 : TFn Try.prog 20 := ⟨by kernel_rfl⟩
instance iN21 : TFn Try.prog 21 := ⟨by kernel_rfl⟩
instance iN22 : TFn Try.prog 22 := ⟨by kernel_rfl⟩
instance iN23 : TFn Try.prog 23 := ⟨by kernel_rfl⟩
instance iN24 : TFn Try.prog 24 := ⟨by kernel_rfl⟩
instance iN25 : TFn Try.prog 25 := ⟨by kernel_rfl⟩
instance iN26 : TFn Try.prog 26 := ⟨by kernel_rfl⟩
instance iN27 : TFn Try.prog 27 := ⟨by kernel_rfl⟩
instance iN28 : TFn Try.prog 28 := ⟨by kernel_rfl⟩
instance iN29 : TFn Try.prog 29 := ⟨by kernel_rfl⟩
instance iN30 : TFn Try.prog 30 := ⟨by kernel_rfl⟩
instance iN31 : TFn Try.prog 31 := ⟨by kernel_rfl⟩
instance iN32 : TFn Try.prog 32 := ⟨by kernel_rfl⟩
instance iN33 : TFn Try.prog 33 := ⟨by kernel_rfl⟩
instance iN34 : TFn Try.prog 34 := ⟨by kernel_rfl⟩
instance iN35 : TFn Try.prog 35 := ⟨by kernel_rfl⟩
instance iN36 : TFn Try.prog 36 := ⟨by kernel_rfl⟩
instance iN37 : TFn Try.prog 37 := ⟨by kernel_rfl⟩
instance iN38 : TFn Try.prog 38 := ⟨by kernel_rfl⟩
instance iN39 : TFn Try.prog 39 := ⟨by kernel_rfl⟩
instance iN40 : TFn Try.prog 40 := ⟨by kernel_rfl⟩
instance iN41 : TFn Try.prog 41 := ⟨by kernel_rfl⟩
instance iN42 : TFn Try.prog 42 := ⟨by kernel_rfl⟩
instance iN43 : TFn Try.prog 43 := ⟨by kernel_rfl⟩
instance iN44 : TFn Try.prog 44 := ⟨by kernel_rfl⟩
instance iN45 : TFn Try.prog 45 := ⟨by kernel_rfl⟩
instance iN46 : TFn Try.prog 46 := ⟨by kernel_rfl⟩
instance iN47 : TFn Try.prog 47 := ⟨by kernel_rfl⟩
instance iN48 : TFn Try.prog 48 := ⟨by kernel_rfl⟩
instance iN49 : TFn Try.prog 49 := ⟨by kernel_rfl⟩
instance iN50 : TFn Try.prog 50 := ⟨by kernel_rfl⟩
instance iN51 : TFn Try.prog 51 := ⟨by kernel_rfl⟩
instance iN52 : TFn Try.prog 52 := ⟨by kernel_rfl⟩
instance iN53 : TFn Try.prog 53 := ⟨by kernel_rfl⟩
instance iN54 : TFn Try.prog 54 := ⟨by kernel_rfl⟩
instance iN55 : TFn Try.prog 55 := ⟨by kernel_rfl⟩
instance iN56 : TFn Try.prog 56 := ⟨by kernel_rfl⟩
instance iN57 : TFn Try.prog 57 := ⟨by kernel_rfl⟩
instance iN58 : TFn Try.prog 58 := ⟨by kernel_rfl⟩
instance iN59 : TFn Try.prog 59 := ⟨by kernel_rfl⟩
instance iN60 : TFn Try.prog 60 := ⟨by kernel_rfl⟩
instance iN61 : TFn Try.prog 61 := ⟨by kernel_rfl⟩
instance iN63 : TFn Try.prog 63 := ⟨by kernel_rfl⟩
instance iN64 : TFn Try.prog 64 := ⟨by kernel_rfl⟩
instance iN65 : TFn Try.prog 65 := ⟨by kernel_rfl⟩
instance iN66 : TFn Try.prog 66 := ⟨by kernel_rfl⟩
instance iN67 : TFn Try.prog 67 := ⟨by kernel_rfl⟩
instance iN68 : TFn Try.prog 68 := ⟨by kernel_rfl⟩
instance iN69 : TFn Try.prog 69 := ⟨by kernel_rfl⟩
instance iN70 : TFn Try.prog 70 := ⟨by kernel_rfl⟩
instance iN71 : TFn Try.prog 71 := ⟨by kernel_rfl⟩
instance iN72 : TFn Try.prog 72 := ⟨by kernel_rfl⟩
instance iN73 : TFn Try.prog 73 := ⟨by kernel_rfl⟩
instance iN74 : TFn Try.prog 74 := ⟨by kernel_rfl⟩
instance iN75 : TFn Try.prog 75 := ⟨by kernel_rfl⟩
instance iN76 : TFn Try.prog 76 := ⟨by kernel_rfl⟩
instance iN77 : TFn Try.prog 77 := ⟨by kernel_rfl⟩
instance iN78 : TFn Try.prog 78 := ⟨by kernel_rfl⟩
instance iN79 : TFn Try.prog 79 := ⟨by kernel_rfl⟩
instance iN80 : TFn Try.prog 80 := ⟨by kernel_rfl⟩
instance iN81 : TFn Try.prog 81 := ⟨by kernel_rfl⟩
instance iN82 : TFn Try.prog 82 := ⟨by kernel_rfl⟩
instance iN83 : TFn Try.prog 83 := ⟨by kernel_rfl⟩
instance iN84 : TFn Try.prog 84 := ⟨by kernel_rfl⟩
instance iN85 : TFn Try.prog 85 := ⟨by kernel_rfl⟩
instance iN86 : TFn Try.prog 86 := ⟨by kernel_rfl⟩
instance iN87 : TFn Try.prog 87 := ⟨by kernel_rfl⟩
instance iN88 : TFn Try.prog 88 := ⟨by kernel_rfl⟩
instance iN89 : TFn Try.prog 89 := ⟨by kernel_rfl⟩
instance iN90 : TFn Try.prog 90 := ⟨by kernel_rfl⟩
instance iN91 : TFn Try.prog 91 := ⟨by kernel_rfl⟩
instance iN92 : TFn Try.prog 92 := ⟨by kernel_rfl⟩
instance iN93 : TFn Try.prog 93 := ⟨by kernel_rfl⟩
instance iN94 : TFn Try.prog 94 := ⟨by kernel_rfl⟩
instance iN95 : TFn Try.prog 95 := ⟨by kernel_rfl⟩
instance iN96 : TFn Try.prog 96 := ⟨by kernel_rfl⟩
instance iN97 : TFn Try.prog 97 := ⟨by kernel_rfl⟩
instance iN98 : TFn Try.prog 98 := ⟨by kernel_rfl⟩
instance iN99 : TFn Try.prog 99 := ⟨by kernel_rfl⟩
instance iN100 : TFn Try.prog 100 := ⟨by kernel_rfl⟩
instance iN101 : TFn Try.prog 101 := ⟨by kernel_rfl⟩
instance iN102 : TFn Try.prog 102 := ⟨by kernel_rfl⟩
instance iN103 : TFn Try.prog 103 := ⟨by kernel_rfl⟩
instance iN104 : TFn Try.prog 104 := ⟨by kernel_rfl⟩
instance iN105 : TFn Try.prog 105 := ⟨by kernel_rfl⟩
instance iN106 : TFn Try.prog 106 := ⟨by kernel_rfl⟩
instance iN107 : TFn Try.prog 107 := ⟨by kernel_rfl⟩
instance iN108 : TFn Try.prog 108 := ⟨by kernel_rfl⟩
instance iN109 : TFn Try.prog 109 := ⟨by kernel_rfl⟩
instance iN110 : TFn Try.prog 110 := ⟨by kernel_rfl⟩
instance iN111 : TFn Try.prog 111 := ⟨by kernel_rfl⟩
instance iN112 : TFn Try.prog 112 := ⟨by kernel_rfl⟩
instance iN113 : TFn Try.prog 113 := ⟨by kernel_rfl⟩
instance iN114 : TFn Try.prog 114 := ⟨by kernel_rfl⟩
instance iN115 : TFn Try.prog 115 := ⟨by kernel_rfl⟩
theorem mixed : Try.prog.follows .mixedOrders = true := by kernel_rfl
end Go.Proofs.Ytoogicafefennaa
/-
  The layer 'Sy', data: a row of elements in memory.
-/
namespace Go.Sy
set_option linter.unusedVariables false
open Go.RowKit
set_option linter.unusedVariables false
set_option linter.unusedSimpArgs false

/-- A slice value. -/
structure Sl where
  a : Option Addr
  n : Nat
  c : Nat
def Sl.v (s : Sl) : Value := .slice s.a s.n s.c

/-- The elements xs, each of sz cells, lie behind the address, in blocks below Be. -/
structure RdS {α : Type} (w : World) (Be sz : Nat) (C : α → Array Value) (A : Option Addr) (n : Nat) (xs : List α) : Prop where
  len : xs.length = n
  bound : n ≤ 9223372036854775807
  elems : ∀ i x, xs[i]? = some x → ∃ ad, A = some ad ∧ ad.block < Be ∧ (C x).size = sz ∧ ∀ j v, (C x)[j]? = some v → w.cell? ((ad.add (i * sz)).add j) = some v

section
variable {α : Type} {w w' : World} {Be Be' sz : Nat} {C : α → Array Value} {A : Option Addr} {n : Nat} {xs : List α}
theorem block_add (a : Addr) (n : Nat) : (a.add n).block = a.block := by unfold Addr.add; split <;> rfl
theorem RdS.keep (h : RdS w Be sz C A n xs) (hk : ∀ p : Addr, p.block < Be → w'.cell? p = w.cell? p) : RdS w' Be sz C A n xs :=
  ⟨h.len, h.bound, fun i x hx => by
    obtain ⟨ad, e, hb, hs, hc⟩ := h.elems i x hx
    exact ⟨ad, e, hb, hs, fun j v hj => (hk _ (by rw [block_add, block_add]; exact hb)).trans (hc j v hj)⟩⟩
theorem RdS.more (h : RdS w Be sz C A n xs) (hB : Be ≤ Be') : RdS w Be' sz C A n xs :=
  ⟨h.len, h.bound, fun i x hx => by
    obtain ⟨ad, e, hb, hs, hc⟩ := h.elems i x hx
    exact ⟨ad, e, by omega, hs, hc⟩⟩
theorem RdS.below (h : RdS w Be sz C A n xs) (hb : Below Be w w') : RdS w' Be sz C A n xs := h.keep fun _ hp => hb.cell hp
/-- In whatever world of the class. -/
theorem RdS.hp {w0 : World} {H : Heap} (h : RdS w0 Be sz C A n xs) (hh : Hp Be w0 H w) : RdS w Be sz C A n xs := h.below hh.belowBe
theorem RdS.hp' {w0 : World} {H : Heap} (h : RdS w0 Be sz C A n xs) (hh : Hp Be w0 H w) : RdS w w.heap.size sz C A n xs := (h.hp hh).more (Nat.le_trans hh.be hh.size)
theorem RdS.to {w1 : World} (h : RdS w w.heap.size sz C A n xs) (hb : Below w.heap.size w w1) : RdS w1 w1.heap.size sz C A n xs := (h.below hb).more hb.size
theorem RdS.at_ (h : RdS w Be sz C A n xs) {i : Nat} (hi : i < n) : ∃ ad x, A = some ad ∧ ad.block < Be ∧ xs[i]? = some x ∧ (C x).size = sz ∧ ∀ j v, (C x)[j]? = some v → w.cell? ((ad.add (i * sz)).add j) = some v := by
  have hl : i < xs.length := by rw [h.len]; exact hi
  obtain ⟨ad, e, hb, hs, hc⟩ := h.elems i xs[i] (List.getElem?_eq_getElem hl)
  exact ⟨ad, xs[i], e, hb, List.getElem?_eq_getElem hl, hs, hc⟩
theorem RdS.none_ : RdS w Be sz C A 0 ([] : List α) := ⟨rfl, by omega, fun i x h => by simp at h⟩
/-- A row of the call's own. -/
theorem RdS.ofBlock {g : Nat} {cs : Array Value} {T : TypeId} {f : Nat × Nat} (hg : w.heap[g]? = some (.cells cs T f)) (hB : g < Be) (hl : xs.length = n) (hn : n ≤ 9223372036854775807) (hs : ∀ x ∈ xs, (C x).size = sz)
    (hc : ∀ i x, xs[i]? = some x → ∀ j v, (C x)[j]? = some v → cs[i * sz + j]? = some v) : RdS w Be sz C (some ⟨g, 0, none⟩) n xs :=
  ⟨hl, hn, fun i x hx => ⟨_, rfl, hB, hs x (List.mem_of_getElem? hx), fun j v hj => by
    rw [addr_add0, addr_add]
    simp only [World.cell?, hg]
    exact hc i x hx j v hj⟩⟩
end
/-- The first places of a slice. -/
theorem RdS.take {α : Type} {w : World} {Be sz : Nat} {C : α → Array Value} {A : Option Addr} {n : Nat} {xs : List α} (h : RdS w Be sz C A n xs) {k : Nat} (hk : k ≤ n) : RdS w Be sz C A k (xs.take k) :=
  ⟨by rw [List.length_take, h.len]; omega, by have := h.bound; omega, fun i x hx => h.elems i x (by rw [List.getElem?_take] at hx; split at hx <;> simp_all)⟩

/-- Where the first element lies for which p holds; -1 if there is none. -/
def idx {α : Type} (xs : List α) (p : α → Bool) : Int := match xs.findIdx? p with | some i => (i : Int) | none => -1
theorem idx_none {α : Type} {xs : List α} {p : α → Bool} {k : Nat} (h : (xs.take k).any p = false) (hk : xs.length ≤ k) : idx xs p = -1 := by
  rw [List.take_of_length_le hk] at h
  unfold idx
  have : xs.findIdx? p = none := by rw [List.findIdx?_eq_none_iff]; intro x hx; have := List.any_eq_false.1 h x hx; simpa using this
  rw [this]
theorem idx_hit {α : Type} {xs : List α} {p : α → Bool} {k : Nat} {x : α} (h : (xs.take k).any p = false) (hx : xs[k]? = some x) (hp : p x = true) : idx xs p = k := by
  obtain ⟨hk, hx'⟩ := List.getElem?_eq_some_iff.1 hx
  unfold idx
  have : xs.findIdx? p = some k := by
    rw [List.findIdx?_eq_some_iff_getElem]
    refine ⟨hk, by rw [hx']; exact hp, fun j hj => ?_⟩
    have := List.any_eq_false.1 h xs[j] (by rw [List.mem_take_iff_getElem]; exact ⟨j, by omega, rfl⟩)
    simpa using this
  rw [this]
theorem any_miss {α : Type} {xs : List α} {p : α → Bool} {k : Nat} {x : α} (h : (xs.take k).any p = false) (hx : xs[k]? = some x) (hp : p x = false) : (xs.take (k + 1)).any p = false := by
  rw [List.take_add_one, hx]
  simp [h, hp]
theorem any_hit {α : Type} {xs : List α} {p : α → Bool} {k : Nat} {x : α} (hx : xs[k]? = some x) (hp : p x = true) : xs.any p = true := List.any_eq_true.2 ⟨x, List.mem_of_getElem? hx, hp⟩
theorem any_full {α : Type} {xs : List α} {p : α → Bool} {k : Nat} (h : (xs.take k).any p = false) (hk : xs.length ≤ k) : xs.any p = false := by rwa [List.take_of_length_le hk] at h
theorem Hp.ownB {Be : Nat} {w0 w w' : World} {H : Heap} {g : Nat} {o : Obj} (hh : Hp Be w0 H w) (hm : (g, o) ∈ H) (hb : Below w.heap.size w w') : w'.heap[g]? = some o := (hb.block g (hh.lt hm)).trans (hh.own _ hm)
theorem old_block {w w' : World} {g : Nat} {o : Obj} (h : w.heap[g]? = some o) (hb : Below w.heap.size w w') : w'.heap[g]? = some o := (hb.block g (Array.getElem?_eq_some_iff.1 h).1).trans h
theorem idx_cases {α : Type} (xs : List α) (p : α → Bool) : (xs.find? p = none ∧ idx xs p = -1) ∨ ∃ (k : Nat) (x : α), xs.find? p = some x ∧ idx xs p = k ∧ xs[k]? = some x ∧ k < xs.length := by
  unfold idx
  cases h : xs.findIdx? p with
  | none => 
    refine .inl ⟨?_, rfl⟩
    rw [List.findIdx?_eq_none_iff] at h
    rw [List.find?_eq_none]
    intro x hx
    simp [h x hx]
  | some k =>
    obtain ⟨hk, hp, hno⟩ := List.findIdx?_eq_some_iff_getElem.1 h
    refine .inr ⟨k, xs[k], ?_, rfl, List.getElem?_eq_getElem hk, hk⟩
    rw [List.find?_eq_some_iff_getElem]
    exact ⟨hp, k, hk, rfl, fun j hj => by simpa using hno j hj⟩
theorem flatMap_get {α β : Type} {f : α → List β} {sz : Nat} : ∀ (xs : List α), (∀ x ∈ xs, (f x).length = sz) → ∀ i x, xs[i]? = some x → ∀ j v, (f x)[j]? = some v → (xs.flatMap f)[i * sz + j]? = some v
  | [], _, i, x, h, _, _, _ => by simp at h
  | y :: ys, hs, 0, x, h, j, v, hj => by
    simp at h; subst h
    have : j < (f y).length := (List.getElem?_eq_some_iff.1 hj).1
    rw [List.flatMap_cons, List.getElem?_append_left (by omega)]
    simpa using hj
  | y :: ys, hs, i + 1, x, h, j, v, hj => by
    have hy := hs y (by simp)
    rw [List.flatMap_cons, List.getElem?_append_right (by rw [hy, Nat.add_mul]; omega), hy, show (i + 1) * sz + j - sz = i * sz + j by rw [Nat.add_mul]; omega]
    exact flatMap_get ys (fun x hx => hs x (by simp [hx])) i x (by simpa using h) j v hj
theorem RdS.ofFlat {α : Type} {w : World} {Be sz : Nat} {C : α → Array Value} {n : Nat} {xs : List α} {g : Nat} {cs : Array Value} {T : TypeId} {f : Nat × Nat} (hg : w.heap[g]? = some (.cells cs T f)) (hB : g < Be) (hl : xs.length = n) (hn : n ≤ 9223372036854775807) (hs : ∀ x ∈ xs, (C x).size = sz)
    (hc : cs.toList = xs.flatMap fun x => (C x).toList) : RdS w Be sz C (some ⟨g, 0, none⟩) n xs :=
  RdS.ofBlock hg hB hl hn hs fun i x hx j v hj => by
    have := flatMap_get (f := fun x => (C x).toList) (sz := sz) xs (fun x hx => by simpa using hs x hx) i x hx j v (by simpa using hj)
    rw [← hc] at this
    simpa using this
theorem Hp.ownI {Be : Nat} {w0 w : World} {H : Heap} {g : Nat} {o : Obj} (hh : Hp Be w0 H w) [h : InH H g o] : w.heap[g]? = some o := hh.own _ h.mem
theorem Hp.ltI {Be : Nat} {w0 w : World} {H : Heap} {g : Nat} {o : Obj} (hh : Hp Be w0 H w) [h : InH H g o] : g < w.heap.size := hh.lt h.mem
theorem take_split {α : Type} {ps : List α} {k : Nat} {x : α} (hx : ps[k]? = some x) : ps = ps.take k ++ x :: ps.drop (k + 1) := by
  obtain ⟨h1, h2⟩ := List.getElem?_eq_some_iff.1 hx
  rw [← h2, List.getElem_cons_drop, List.take_append_drop]
theorem take_succ {α : Type} {ps : List α} {k : Nat} {x : α} (hx : ps[k]? = some x) : ps.take (k + 1) = ps.take k ++ [x] := by
  rw [List.take_add_one, hx]; rfl
section
variable {P : Program} {Be : Nat} {w0 : World} {H : Heap} {G : Bool} {e : Env} {ty : TypeId} {α : Type} {sz : Nat} {C : α → Array Value}
/-- An element, whole. -/
theorem ex_loadelem {t : TypeId} {x : Operand} {ad : Addr} {i n : Nat} {xs : List α} {y : α} (h : Ev G e x (.pointer (some (ad.add (i * sz))))) {A : Option Addr} (hr : RdS w0 Be sz C A n xs) (hA : A = some ad) (hy : xs[i]? = some y) [TAgg P t] [hs : TSize P t sz] : Ex P Be w0 H G e (.load t x) ty (.agg (C y)) := by
  subst hA
  obtain ⟨ad', e', hb, hsz, hc⟩ := hr.elems i y hy
  cases e'
  refine ex_loadn h hsz fun w hh j v hj => ?_
  rw [hh.belowBe.cell (by rw [block_add, block_add]; exact hb)]
  exact hc j v hj
/-- A field of an element. -/
theorem ex_loadfield {t : TypeId} {x : Operand} {ad : Addr} {i k n : Nat} {xs : List α} {y : α} {v : Value} (h : Ev G e x (.pointer (some ((ad.add (i * sz)).add k)))) {A : Option Addr} (hr : RdS w0 Be sz C A n xs) (hA : A = some ad) (hy : xs[i]? = some y) (hv : (C y)[k]? = some v) [TCell P t] : Ex P Be w0 H G e (.load t x) ty v := by
  subst hA
  obtain ⟨ad', e', hb, hsz, hc⟩ := hr.elems i y hy
  cases e'
  refine ex_load1 h fun w hh => ?_
  rw [hh.belowBe.cell (by rw [block_add, block_add]; exact hb)]
  exact hc k v hv
end
/-! Short names for the tactic blocks. -/
section
variable {e : Env} {G G' G'' g : Bool} {t : Nat} {v : Value}
theorem eT (h : look e t = some (true, v)) : Ev G e (.tmp t) v := Ev.tmpT h
theorem eC : Ev G e (.const v) v := Ev.const
theorem eG (h : look e t = some (G, v)) : Ev G e (.tmp t) v := Ev.tmpG h
theorem eL (h : look e t = some (g, v)) : Ev (g && G) e (.tmp t) v := Ev.tmpL h
theorem eLL (h : look e t = some (g, v)) : Ev ((g && G) && G') e (.tmp t) v := Ev.tmpLL h
theorem eLLL (h : look e t = some (g, v)) : Ev (((g && G) && G') && G'') e (.tmp t) v := Ev.tmpLLL h
theorem eF {f : Nat} : Ev G e (.func f) (.func (.func f) #[] #[]) := Ev.func
theorem eGl {f : Nat} : Ev G e (.global f) (.pointer (some ⟨f, 0, none⟩)) := Ev.glob
theorem eN : Evs G e [] [] := Evs.nil
theorem eS {x : Operand} {xs : List Operand} {vs : List Value} (h : Ev G e x v) (hs : Evs G e xs vs) : Evs G e (x :: xs) (v :: vs) := Evs.cons h hs
end
end Go.Sy
/-
  The frame of a law: what the values handed in read as (records, rows, texts, numbers), and that an argument still reads the same after a call that wrote nothing old.
-/
namespace Go.Sy
set_option linter.unusedVariables false
open Go.RowKit Go.ChangeShapes Go.WideShapes Go.ChangeAt
set_option linter.unusedVariables false

theorem cell_lt' {w : World} {a : Addr} {v : Value} (h : w.cell? a = some v) : a.block < w.heap.size := by
  rcases Nat.lt_or_ge a.block w.heap.size with h' | h'
  · exact h'
  · simp [World.cell?, Array.getElem?_eq_none h'] at h

/-- These cells read as a value of type t. -/
def Fo (P : Program) (w : World) (t : TypeId) (cs : List Value) : Prop :=
  ∃ (H : Type) (enc : TypeId × Value → H) (fuel : Nat) (x : DataW H × List MemPlace), DataW.trod enc P w 0 (fun _ => true) true fuel t cs = some x

section
variable {P : Program} {w : World} {t e : TypeId} {cs : List Value}
theorem Fo.ofTrod {H : Type} {enc : TypeId × Value → H} {v : Value} {d : DataW H} {ps : List MemPlace} (h : DataW.Trod enc P w 0 (fun _ => true) true t v d ps) : Fo P w t v.cells.toList := by
  obtain ⟨n, hn⟩ := h
  exact ⟨H, enc, n, _, hn⟩
theorem Fo.string (ht : P.underlying t = some .string) (h : Fo P w t cs) : ∃ s : ByteArray, cs = [.string s] ∧ s.size ≤ maxLen := by
  obtain ⟨H, enc, n, x, h⟩ := h
  obtain ⟨s, h1, _, h2⟩ := DataW.trod_string ht h
  exact ⟨s, h1, h2⟩
theorem Fo.int {k : IntKind} (ht : P.underlying t = some (.int k)) (h : Fo P w t cs) : ∃ n : Int, cs = [.int k n] ∧ (Lit.int k n).wf = true := by
  obtain ⟨H, enc, n, x, h⟩ := h
  obtain ⟨s, h1, _, h2⟩ := DataW.trod_int ht h
  exact ⟨s, h1, h2⟩
theorem Fo.bool (ht : P.underlying t = some .bool) (h : Fo P w t cs) : ∃ b : Bool, cs = [.bool b] := by
  obtain ⟨H, enc, n, x, h⟩ := h
  obtain ⟨s, h1, _⟩ := DataW.trod_bool ht h
  exact ⟨s, h1⟩
theorem Fo.struct {fs : Array Field} (ht : P.underlying t = some (.struct fs)) (h : Fo P w t cs) :
    cs.length = P.cellsOf t ∧ ∀ (i : Nat) (f : Field), fs[i]? = some f → ∀ k, P.cellsOf f.type = k → Fo P w f.type ((cs.drop f.offset).take k) := by
  obtain ⟨H, enc, n, x, h⟩ := h
  obtain ⟨xs, n, _, _, h1, h2, h3⟩ := DataW.trod_struct ht h
  refine ⟨h1, fun i f hf k hk => ?_⟩
  subst hk
  have hi : i < xs.length := by rw [h2]; exact (Array.getElem?_eq_some_iff.1 hf).1
  exact ⟨H, enc, n, _, (h3 i f hf).trans (List.getElem?_eq_getElem hi)⟩
theorem Fo.slice {α : Type} {sz : Nat} {C : α → Array Value} {Q : α → Prop} (ht : P.underlying t = some (.slice e)) (hsz : P.cellsOf e = sz) (hpos : Nat.blt 0 sz = true) (hel : ∀ cs, Fo P w e cs → ∃ x, cs = (C x).toList ∧ Q x) (h : Fo P w t cs) :
    ∃ (A : Option Addr) (n c : Nat) (xs : List α), cs = [.slice A n c] ∧ n ≤ c ∧ c ≤ maxLen ∧ RdS w w.heap.size sz C A n xs ∧ ∀ x ∈ xs, Q x := by
  obtain ⟨H, enc, fuel, x, h⟩ := h
  have hpos' : 0 < sz := by simpa [Nat.blt_eq] using hpos
  rcases Go.Deep.open_slice ht h with ⟨h1, _⟩ | ⟨a, len, cap, m, n, D, Pl, h1, hb, hl, hm, hmm, _, hx⟩
  · exact ⟨none, 0, 0, [], h1, Nat.le_refl _, Nat.zero_le _, RdS.none_, fun x hx => by cases hx⟩
  · have hlm : len ≤ m := by rw [hmm]; simp; omega
    have one : ∀ i, i < len → ∃ y : α, ∃ cs', cs' = (C y).toList ∧ Q y ∧ w.cells? 0 (a.add (i * sz)) sz = some cs' := by
      intro i hi
      obtain ⟨cs', h2, h3⟩ := hx i (by omega)
      obtain ⟨y, hy, hq⟩ := hel cs' ⟨H, enc, n, _, h3⟩
      rw [hsz] at h2
      exact ⟨y, cs', hy, hq, h2⟩
    have all : ∀ k, k ≤ len → ∃ xs : List α, xs.length = k ∧ ∀ i y, xs[i]? = some y → ∃ cs', cs' = (C y).toList ∧ Q y ∧ w.cells? 0 (a.add (i * sz)) sz = some cs' := by
      intro k
      induction k with
      | zero => exact fun _ => ⟨[], rfl, fun i y hy => by simp at hy⟩
      | succ k ih =>
        intro hk
        obtain ⟨xs, hl, hxs⟩ := ih (by omega)
        obtain ⟨y, hy⟩ := one k (by omega)
        refine ⟨xs ++ [y], by simp [hl], fun i z hz => ?_⟩
        by_cases hi : i < xs.length
        · rw [List.getElem?_append_left hi] at hz; exact hxs i z hz
        · have hik : i = k := by
            have := (List.getElem?_eq_some_iff.1 hz).1
            simp at this; omega
          subst hik
          rw [List.getElem?_append_right (by omega), hl] at hz
          simp at hz; subst hz
          exact hy
    obtain ⟨xs, hxl, hxs⟩ := all len (Nat.le_refl _)
    refine ⟨some a, len, cap, xs, h1, hl, hm, ⟨hxl, by unfold maxLen at hm; omega, fun i y hy => ?_⟩, fun y hy => ?_⟩
    · obtain ⟨cs', rfl, hq, hc⟩ := hxs i y hy
      obtain ⟨h5, h6, h7⟩ := World.cells?_some hc
      have hs : (C y).size = sz := by simpa using h6
      refine ⟨a, rfl, ?_, hs, fun j v hj => ?_⟩
      · have h8 := h7 0 hpos'
        rw [List.getElem?_eq_getElem (by omega)] at h8
        have h9 := cell_lt' h8
        rwa [block_add, block_add] at h9
      · obtain ⟨hj1, _⟩ := Array.getElem?_eq_some_iff.1 hj
        rw [h7 j (by omega)]
        simpa using hj
    · obtain ⟨i, hi⟩ := List.getElem?_of_mem hy
      obtain ⟨_, _, hq, _⟩ := hxs i y hi
      exact hq

theorem agg_of {v : Value} {k : Nat} {l : List Value} (hv : ∃ cs, v = .agg cs ∧ cs.size = k) (he : v.cells.toList = l) : v = .agg l.toArray := by
  obtain ⟨cs, rfl, _⟩ := hv
  have he' : cs.toList = l := he
  rw [← he']
theorem slice_of {v : Value} {A : Option Addr} {n c : Nat} (hv : ∃ a len cap, v = .slice a len cap) (he : v.cells.toList = [.slice A n c]) : v = .slice A n c := by
  obtain ⟨a, len, cap, rfl⟩ := hv
  exact (List.cons.inj he).1

/-- After a call that wrote nothing old, all arguments read as before. -/
theorem trodAll_below {H : Type} {enc : TypeId × Value → H} {W W' : World} (hl : laidOutB P = true) (hb : Below W.heap.size W W') :
    ∀ {ts : List TypeId} {vs : List Value} {ds : List (DataW H)} {ps : List MemPlace}, ts.all (fun t => P.readableRec t && decide (t < P.types.size)) = true →
      DataW.TrodAll enc P W 0 (fun _ => true) true ts vs ds ps → DataW.TrodAll enc P W' 0 (fun b => decide (b < W.heap.size)) true ts vs ds ps := by
  intro ts
  induction ts with
  | nil =>
    intro vs ds ps _ h
    obtain ⟨rfl, rfl, rfl⟩ := trodAll_nil h
    rfl
  | cons t ts ih =>
    intro vs ds ps hts h
    simp only [List.all_cons, Bool.and_eq_true, decide_eq_true_eq] at hts
    obtain ⟨v, vs', d, ds', p, q, rfl, rfl, rfl, h0, h1⟩ := trodAll_cons h
    refine trodAll_cons_mk (Below.trod hl hts.1.1 hts.1.2 h0 hb fun x hx => ?_) (ih hts.2 h1)
    obtain ⟨m, hm⟩ := h0
    exact DataW.trod_lt m _ _ _ hm x hx
end
end Go.Sy
/-
  append: onto a new row where there is no room, in place where there is room in an own block.
-/
namespace Go.Sy
set_option linter.unusedVariables false
open Go.RowKit
set_option linter.unusedVariables false
set_option linter.unusedSimpArgs false

/-- The cells that lie behind an address. -/
def CellsAt (w : World) (A : Option Addr) (xs : List Value) : Prop := ∀ (j : Nat) (u : Value), xs[j]? = some u → ∃ a, A = some a ∧ w.cell? (a.add j) = some u
theorem CellsAt.nil {w : World} {A : Option Addr} : CellsAt w A [] := fun j u h => by simp at h
theorem CellsAt.own {w : World} {g : Nat} {cs : Array Value} {T : TypeId} {xs : List Value} (h : w.heap[g]? = some (.cells cs T (0, 0))) (hp : ∀ (j : Nat) (u : Value), xs[j]? = some u → cs[j]? = some u) : CellsAt w (some ⟨g, 0, none⟩) xs :=
  fun j u hj => ⟨_, rfl, by rw [show (⟨g, 0, none⟩ : Addr).add j = ⟨g, j, none⟩ by simp [addr_add]]; simp [World.cell?, h, hp j u hj]⟩
theorem add_add' (a : Addr) (i j : Nat) : (a.add i).add j = a.add (i + j) := by
  unfold Addr.add
  by_cases hi : i = 0 <;> by_cases hj : j = 0 <;> simp [hi, hj, Nat.add_assoc]
theorem CellsAt.rd {α : Type} {w : World} {Be sz : Nat} {C : α → Array Value} {A : Option Addr} {n : Nat} {xs : List α} (h : RdS w Be sz C A n xs) : CellsAt w A (xs.flatMap fun x => (C x).toList) := by
  intro j u hj
  have hall : ∀ x ∈ xs, (C x).size = sz := fun x hx => by
    obtain ⟨i, hi⟩ := List.getElem?_of_mem hx
    obtain ⟨_, _, _, hs, _⟩ := h.elems i x hi
    exact hs
  have key : ∀ (ys : List α) (j : Nat), (∀ x ∈ ys, (C x).size = sz) → (ys.flatMap fun x => (C x).toList)[j]? = some u → ∃ (i k : Nat) (x : α), ys[i]? = some x ∧ (C x)[k]? = some u ∧ j = i * sz + k := by
    intro ys
    induction ys with
    | nil => intro j _ h; simp at h
    | cons y ys ih =>
      intro j hs hj
      simp only [List.flatMap_cons] at hj
      by_cases hlt : j < (C y).toList.length
      · rw [List.getElem?_append_left hlt] at hj
        exact ⟨0, j, y, rfl, by simpa using hj, by omega⟩
      · rw [List.getElem?_append_right (by omega)] at hj
        obtain ⟨i, k, x, h1, h2, h3⟩ := ih _ (fun x hx => hs x (.tail _ hx)) hj
        have := hs y (.head _)
        refine ⟨i + 1, k, x, by simpa using h1, h2, ?_⟩
        simp at hlt h3
        rw [Nat.succ_mul]; omega
  obtain ⟨i, k, x, h1, h2, rfl⟩ := key xs j hall hj
  obtain ⟨a, ha, _, _, hc⟩ := h.elems i x h1
  refine ⟨a, ha, ?_⟩
  have := hc k u h2
  rwa [show (a.add (i * sz)).add k = a.add (i * sz + k) from add_add' _ _ _] at this

/-- What an append takes. -/
def SrcAt (P : Program) (size : Nat) (tx : TypeId) (x : Value) (m : Nat) (news : List Value) (w : World) : Prop := Src P size tx x m news w
theorem SrcAt.slice {P : Program} {size : Nat} {tx e' : TypeId} {B : Option Addr} {m c : Nat} {news : List Value} {w : World} [ht : TSlice P tx e'] (hc : CellsAt w B news) (hl : news.length = m * size) (hp : Nat.blt 0 size = true) (h1 : ∀ u ∈ news, u.oneCell' = true) : SrcAt P size tx (.slice B m c) m news w := by
  have hp' : 0 < size := by simpa [Nat.blt_eq] using hp
  cases B with
  | none =>
    have : news = [] := by
      cases news with
      | nil => rfl
      | cons u r => obtain ⟨a, h, _⟩ := hc 0 u rfl; cases h
    subst this
    have : m = 0 := by
      cases m with
      | zero => rfl
      | succ m => rw [Nat.succ_mul] at hl; simp at hl; omega
    subst this
    exact Src.ofNil w ht.slice c
  | some a =>
    exact Src.ofSlice w ht.slice a m c news hl (fun j u hj => by obtain ⟨b, hb, hcell⟩ := hc j u hj; cases hb; exact hcell) h1
theorem SrcAt.string {P : Program} {tx : TypeId} {s : ByteArray} {w : World} [ht : TStr P tx] : SrcAt P 1 tx (.string s) s.size (byteCells s) w := Src.ofString w ht.str s

def setL (cs : Array Value) : Nat → List Value → Array Value
  | _, [] => cs
  | o, v :: r => setL (cs.setIfInBounds o v) (o + 1) r
theorem setL_size (vs : List Value) : ∀ (cs : Array Value) (o : Nat), (setL cs o vs).size = cs.size := by
  induction vs with
  | nil => intro cs o; rfl
  | cons v r ih => intro cs o; rw [setL, ih]; simp
theorem setL_toList (vs : List Value) : ∀ (cs : Array Value) (o : Nat), o + vs.length ≤ cs.size → (setL cs o vs).toList = cs.toList.take o ++ vs ++ cs.toList.drop (o + vs.length) := by
  induction vs with
  | nil => intro cs o _; simp [setL]
  | cons v r ih =>
    intro cs o h
    simp only [List.length_cons] at h
    rw [setL, ih _ _ (by simp; omega)]
    simp only [Array.toList_setIfInBounds]
    rw [List.take_set, List.drop_set]
    rw [if_pos (by omega)]
    rw [show o + (v :: r).length = o + 1 + r.length by simp; omega]
    have : (List.take (o + 1) cs.toList).set o v = cs.toList.take o ++ [v] := by
      rw [List.take_add_one, List.getElem?_eq_getElem (by simp; omega)]
      simp only [Option.toList]
      rw [List.set_append_right _ _ (by simp; omega)]
      simp only [List.length_take, Array.length_toList]
      rw [show o - min o cs.size = 0 by omega]
      all_goals rfl
    rw [this]
    simp
theorem Hp.setCells {Be : Nat} {w0 : World} {g : Nat} {T : TypeId} : ∀ (vs : List Value) (o : Nat) (cs : Array Value) (w : World) (H H' : Heap), Hp Be w0 H w → Upd H g (.cells cs T (0, 0)) (.cells (setL cs o vs) T (0, 0)) H' → Hp Be w0 H' (w.setCells g o vs)
  | [], o, cs, w, H, H', h, hu => by
    obtain ⟨a, b, rfl, rfl⟩ := hu
    exact h
  | v :: r, o, cs, w, H, H', h, hu => by
    obtain ⟨a, b, rfl, rfl⟩ := hu
    exact Hp.setCells r (o + 1) (cs.setIfInBounds o v) _ (a ++ (g, .cells (cs.setIfInBounds o v) T (0, 0)) :: b) _ (h.setCell ⟨a, b, rfl, rfl⟩) ⟨a, b, rfl, rfl⟩

section
variable {P : Program} {N Be : Nat} {Q : Post} {e : Env} {w0 : World} {H : Heap} {ops : Array Oper} {rest : List Oper} {ty : TypeId} {pos : String} {after : Array Edge} {d : Nat}

theorem fits_of {need old bytes : Nat} (h : old < need) (hb : need * bytes ≤ 140737488355328) : Builtin.nextslicecap need old * bytes ≤ 281474976710656 := growslice_fits h hb

/-- No room: a new row. -/
theorem spl_append_grow {t tx el size bytes : Nat} {z : Value} {x y : Operand} {A : Option Addr} {n cap m : Nat} {yv : Value} {olds news : List Value} [ht : TSlice P t el] [hz : TZero P el z] [hs : TSize P el size] [hby : TBytes P el bytes]
    (hx : Ev true e x (.slice A n cap)) (hy : Ev true e y yv) (ho : ∀ w, Hp Be w0 H w → CellsAt w A olds) (hol : olds.length = n * size) (hn : ∀ w, Hp Be w0 H w → SrcAt P size tx yv m news w)
    (hg : cap < n + m) (hb : (n + m) * bytes ≤ 140737488355328) (hpos : Nat.blt 0 bytes = true) (hp2 : Nat.blt 0 size = true) (hzs : Nat.beq z.cells.size size = true) (hN : Nat.blt d N = true)
    (k : ∀ g cap' tail, w0.heap.size ≤ g → n + m ≤ cap' → (olds ++ news ++ tail).length = cap' * size → Spl P N Be ops Q rest ((d, true, .slice (some ⟨g, 0, none⟩) (n + m) cap') :: e) w0 ((g, .cells (olds ++ news ++ tail).toArray el (0, 0)) :: H)) :
    Spl P N Be ops Q (⟨some d, .call ⟨.builtin .append, #[x, y], #[t, tx]⟩, ty, pos, after, none⟩ :: rest) e w0 H := by
  intro a w hf hh
  have hd : d < N := by simpa [Nat.blt_eq] using hN
  have hpos' : 0 < bytes := by simpa [Nat.blt_eq] using hpos
  have hp2' : 0 < size := by simpa [Nat.blt_eq] using hp2
  refine wpList_plain rfl fun K hK => ?_
  obtain ⟨i, hi⟩ : ∃ i, P.info? el = some i := by
    have := hs.size
    cases h : P.info? el with
    | none => rw [h] at this; cases this
    | some i => exact ⟨i, rfl⟩
  have hiz : i.zero = some z := by have := hz.zero; rw [hi] at this; exact this
  have his : i.size = size := by have := hs.size; rw [hi] at this; simpa using this
  have hib : i.bytes = bytes := by have := hby.bytes; rw [hi] at this; simpa using this
  have hle : n + m ≤ (n + m) * bytes := Nat.le_mul_of_pos_right _ hpos'
  have hold : (Builtin.firstCells i.size n (.slice A n cap)).run P w.drew = .ok olds.toArray w.drew := by
    rw [his]
    have hc := ho w hh
    cases A with
    | none =>
      have : olds = [] := by
        cases olds with
        | nil => rfl
        | cons u r => obtain ⟨a, h, _⟩ := hc 0 u rfl; cases h
      subst this
      have : n = 0 := by
        cases n with
        | zero => rfl
        | succ n => rw [Nat.succ_mul] at hol; simp at hol; omega
      subst this
      exact run_firstCells_none w.drew size 0 0 cap
    | some b => exact run_firstCells_some w.drew size n b n cap olds hol (fun j u hj => by obtain ⟨b', hb', hcell⟩ := hc j u hj; cases hb'; simpa using hcell)
  have hr := run_append_grow_src (P := P) w t tx ty el i z ht.slice hi hiz A n cap olds hold yv m news (by rw [his]; exact hn w hh) hg (by omega) (by rw [hib]; exact fits_of hg hb)
  have hcs : (olds ++ news).toArray ++ Builtin.zeroCells z.cells (grownCap w (n + m) cap el - (n + m)) = (olds ++ news ++ (Builtin.zeroCells z.cells (grownCap w (n + m) cap el - (n + m))).toList).toArray := by
    apply Array.ext'; simp
  rw [hcs] at hr
  unfold Oper.wp
  simp only [execOp, resolve, invoke, builtin, hx N a hf rfl, hy N a hf rfl, hr, Sem.run_bind, Sem.run_pure, Result.andThen_ok, List.map_toArray, List.map_cons, List.map_nil]
  have hge := grownCap_ge w (n + m) cap el
  have hzs' : z.cells.size = size := by simpa using hzs
  have hsum : (olds ++ news ++ (Builtin.zeroCells z.cells (grownCap w (n + m) cap el - (n + m))).toList).length = grownCap w (n + m) cap el * size := by
    simp only [List.length_append, Array.length_toList, size_zeroCells, hzs', hol, (hn w hh).newsLen, ← Nat.add_mul]
    congr 1
    omega
  exact hK _ _ (k _ _ _ hh.size hge hsum _ _ (hf.puttrue hd) (hh.drew.alloc _))

/-- Room in an own block. -/
theorem spl_append_room {t tx el size : Nat} {x y : Operand} {g off n cap m : Nat} {yv : Value} {news : List Value} {cs : Array Value} {T : TypeId} {H' : Heap} [ht : TSlice P t el] [hs : TSize P el size]
    (hx : Ev true e x (.slice (some ⟨g, off, none⟩) n cap)) (hy : Ev true e y yv) (hn : ∀ w, Hp Be w0 H w → SrcAt P size tx yv m news w) (hr : n + m ≤ cap) (hu : Upd H g (.cells cs T (0, 0)) (.cells (setL cs (off + n * size) news) T (0, 0)) H')
    (hfit : off + (n + m) * size ≤ cs.size) (hN : Nat.blt d N = true) (k : Spl P N Be ops Q rest ((d, true, .slice (some ⟨g, off, none⟩) (n + m) cap) :: e) w0 H') :
    Spl P N Be ops Q (⟨some d, .call ⟨.builtin .append, #[x, y], #[t, tx]⟩, ty, pos, after, none⟩ :: rest) e w0 H := by
  intro a w hf hh
  have hd : d < N := by simpa [Nat.blt_eq] using hN
  refine wpList_plain rfl fun K hK => ?_
  obtain ⟨i, hi⟩ : ∃ i, P.info? el = some i := by
    have := hs.size
    cases h : P.info? el with
    | none => rw [h] at this; cases this
    | some i => exact ⟨i, rfl⟩
  have his : i.size = size := by have := hs.size; rw [hi] at this; simpa using this
  have hg : w.heap[g]? = some (.cells cs T (0, 0)) := hh.own _ hu.mem
  have hnl : news.length = m * size := (hn w hh).newsLen
  have hfit' : off + n * size + news.length ≤ cs.size := by rw [hnl]; rw [Nat.add_mul] at hfit; omega
  have hr := run_append_room_src (P := P) w t tx ty el i ht.slice hi g off n cap yv m news (by rw [his]; exact hn w hh) hr
    (fun j hj => by rw [his]; simp only [World.cell?, hg]; simp; omega) (fun j hj => by simp [World.frozen?, hg])
  rw [his] at hr
  unfold Oper.wp
  simp only [execOp, resolve, invoke, builtin, hx N a hf rfl, hy N a hf rfl, hr, Sem.run_bind, Sem.run_pure, Result.andThen_ok, List.map_toArray, List.map_cons, List.map_nil]
  exact hK _ _ (k _ _ (hf.puttrue hd) (Hp.setCells news _ cs w H H' hh hu))
end

/-- A row that grows: nil, or an own block with room behind what is in it. -/
structure RowS where
  g : Option Nat
  cap : Nat
  tail : List Value
def RowS.val (r : RowS) (n : Nat) : Value := .slice (r.g.map fun g => ⟨g, 0, none⟩) n r.cap
def RowS.hp (r : RowS) (xs : List Value) (T : TypeId) : Heap := match r.g with | none => [] | some g => [(g, .cells (xs ++ r.tail).toArray T (0, 0))]
def RowS.ok (r : RowS) (size n : Nat) (xs : List Value) : Prop := match r.g with | none => n = 0 ∧ r.cap = 0 ∧ xs = [] | some _ => n ≤ r.cap ∧ (xs ++ r.tail).length = r.cap * size ∧ xs.length = n * size
def RowS.start : RowS := ⟨none, 0, []⟩
theorem setL_tail {xs news tail : List Value} (h : news.length ≤ tail.length) : setL (xs ++ tail).toArray xs.length news = (xs ++ news ++ tail.drop news.length).toArray := by
  apply Array.ext'
  rw [setL_toList _ _ _ (by simp; omega)]
  simp [List.drop_append]
theorem RdS.ofRow {α : Type} {w : World} {Be sz : Nat} {C : α → Array Value} {n : Nat} {xs : List α} {g : Nat} {tail : List Value} {T : TypeId} {f : Nat × Nat} (hg : w.heap[g]? = some (.cells ((xs.flatMap fun x => (C x).toList) ++ tail).toArray T f)) (hB : g < Be) (hl : xs.length = n) (hn : n ≤ 9223372036854775807) (hs : ∀ x ∈ xs, (C x).size = sz) :
    RdS w Be sz C (some ⟨g, 0, none⟩) n xs :=
  RdS.ofBlock hg hB hl hn hs fun i x hx j v hj => by
    have := flatMap_get (f := fun x => (C x).toList) (sz := sz) xs (fun x hx => by simpa using hs x hx) i x hx j v (by simpa using hj)
    simp only [List.getElem?_toArray]
    rw [List.getElem?_append_left (List.getElem?_eq_some_iff.1 this).1]
    exact this
theorem flat_len {α : Type} {sz : Nat} {C : α → Array Value} {xs : List α} (hs : ∀ x ∈ xs, (C x).size = sz) : (xs.flatMap fun x => (C x).toList).length = xs.length * sz := by
  induction xs with
  | nil => simp
  | cons x xs ih =>
    rw [List.flatMap_cons, List.length_append, ih (fun y hy => hs y (.tail _ hy))]
    have := hs x (.head _)
    simp only [List.length_cons, Array.length_toList, this, Nat.succ_mul]
    omega

/-- One own block taken out of the list. -/
def Rem (H : Heap) (g : Nat) (o : Obj) (H' : Heap) : Prop := ∃ a b, H = a ++ (g, o) :: b ∧ H' = a ++ b
theorem Rem.here {H : Heap} {g : Nat} {o : Obj} : Rem ((g, o) :: H) g o H := ⟨[], H, rfl, rfl⟩
theorem Rem.there {H H' : Heap} {g : Nat} {o : Obj} {p : Nat × Obj} (h : Rem H g o H') : Rem (p :: H) g o (p :: H') := by
  obtain ⟨a, b, h1, h2⟩ := h
  exact ⟨p :: a, b, by simp [h1], by simp [h2]⟩
theorem Spl.perm {P : Program} {N Be : Nat} {Q : Post} {e : Env} {w0 : World} {H H' : Heap} {ops : Array Oper} {l : List Oper} (hp : H.Perm H') (h : Spl P N Be ops Q l e w0 H') : Spl P N Be ops Q l e w0 H :=
  fun a w hf hh => h a w hf (hh.perm hp)
theorem Spl.keep {P : Program} {N Be : Nat} {Q : Post} {e : Env} {w0 : World} {H H' : Heap} {ops : Array Oper} {l : List Oper} (hp : HKeep w0 H' H) (h : Spl P N Be ops Q l e w0 H') : Spl P N Be ops Q l e w0 H :=
  fun a w hf hh => h a w hf (hh.sub hp)
section
variable {P : Program} {N Be : Nat} {Q : Post} {e : Env} {w0 : World} {H : Heap} {ops : Array Oper} {rest : List Oper} {ty : TypeId} {pos : String} {after : Array Edge} {d : Nat}
/-- An own row, appended to: in place or in a new row: one way on. -/
theorem spl_append_own {t tx el size bytes : Nat} {z : Value} {x y : Operand} {g n cap m : Nat} {yv : Value} {xs tail news : List Value} {Hr : Heap} [ht : TSlice P t el] [hz : TZero P el z] [hs : TSize P el size] [hby : TBytes P el bytes]
    (hx : Ev true e x (.slice (some ⟨g, 0, none⟩) n cap)) (hy : Ev true e y yv) (hrem : Rem H g (.cells (xs ++ tail).toArray el (0, 0)) Hr) (hfr : w0.heap.size ≤ g) (hol : xs.length = n * size) (hrow : (xs ++ tail).length = cap * size) (hnc : n ≤ cap)
    (hn : ∀ w, Hp Be w0 H w → SrcAt P size tx yv m news w) (hnl : news.length = m * size) (hb : (n + m) * bytes ≤ 140737488355328) (hpos : Nat.blt 0 bytes = true) (hp2 : Nat.blt 0 size = true) (hzs : Nat.beq z.cells.size size = true) (hN : Nat.blt d N = true)
    (k : ∀ g' cap' tail', w0.heap.size ≤ g' → n + m ≤ cap' → (xs ++ news ++ tail').length = cap' * size → Spl P N Be ops Q rest ((d, true, .slice (some ⟨g', 0, none⟩) (n + m) cap') :: e) w0 ((g', .cells (xs ++ news ++ tail').toArray el (0, 0)) :: Hr)) :
    Spl P N Be ops Q (⟨some d, .call ⟨.builtin .append, #[x, y], #[t, tx]⟩, ty, pos, after, none⟩ :: rest) e w0 H := by
  obtain ⟨a, b, rfl, rfl⟩ := hrem
  by_cases hr : n + m ≤ cap
  · have htl : news.length ≤ tail.length := by
      rw [List.length_append, hol] at hrow
      have : (n + m) * size ≤ cap * size := Nat.mul_le_mul_right _ hr
      rw [Nat.add_mul] at this
      omega
    have hset := setL_tail (xs := xs) htl
    rw [hol, show n * size = 0 + n * size by omega] at hset
    refine spl_append_room (news := news) (m := m) (cs := (xs ++ tail).toArray) (T := el) hx hy hn hr ⟨a, b, rfl, by rw [hset]⟩ (by simp only [List.size_toArray, hrow, Nat.zero_add]; exact Nat.mul_le_mul_right _ hr) hN ?_
    refine Spl.perm List.perm_middle (k g cap (tail.drop news.length) hfr hr ?_)
    rw [← hrow]
    simp only [List.length_append, List.length_drop]
    omega
  · refine spl_append_grow (olds := xs) (news := news) (m := m) hx hy (fun w' hh => CellsAt.own (hh.own (g, .cells (xs ++ tail).toArray el (0, 0)) (by simp)) (fun j u hj => by rw [List.getElem?_toArray, List.getElem?_append_left (List.getElem?_eq_some_iff.1 hj).1]; exact hj)) hol hn (by omega) hb hpos hp2 hzs hN (fun g' cap' tail' h1 h2 h3 => ?_)
    refine Spl.keep ?_ (k g' cap' tail' h1 h2 h3)
    exact ⟨[(g, .cells (xs ++ tail).toArray el (0, 0))], by
      refine (List.Perm.cons _ List.perm_middle).trans ?_
      exact List.Perm.swap _ _ _, fun p hp => by simp at hp; subst hp; exact hfr⟩

/-- A guard that holds; one that does not. -/
theorem spl_guard_t {g : Nat × Bool} {dst : Option Tmp} {op : Op} {G : Bool} (hg : Gd ops e (some g) G) (hG : G = true) (h : Spl P N Be ops Q (⟨dst, op, ty, pos, after, none⟩ :: rest) e w0 H) : Spl P N Be ops Q (⟨dst, op, ty, pos, after, some g⟩ :: rest) e w0 H := by
  subst hG
  intro a w hf hh
  have h1 := h a w hf hh
  simp only [wpList] at h1 ⊢
  rw [hg N a _ hf rfl, if_pos rfl]
  rw [if_pos (by simp [Region.wanted])] at h1
  exact h1
theorem spl_guard_f {g : Nat × Bool} {op : Op} {G : Bool} (hg : Gd ops e (some g) G) (hG : G = false) (hN : Nat.blt d N = true) (h : Spl P N Be ops Q rest ((d, false, .bool false) :: e) w0 H) : Spl P N Be ops Q (⟨some d, op, ty, pos, after, some g⟩ :: rest) e w0 H := by
  subst hG
  intro a w hf hh
  have hd : d < N := by simpa [Nat.blt_eq] using hN
  simp only [wpList]
  rw [hg N a _ hf rfl, if_neg (by simp)]
  exact h _ w (hf.put (g := false) hd) hh
end
theorem RdS.ofTwo {α : Type} {w : World} {Be sz : Nat} {C : α → Array Value} {a b : Nat} {xs ys : List α} {g : Nat} {tail : List Value} {T : TypeId} {f : Nat × Nat} (hg : w.heap[g]? = some (.cells ([] ++ (xs.flatMap fun x => (C x).toList) ++ (ys.flatMap fun x => (C x).toList) ++ tail).toArray T f)) (hB : g < Be) (hx : xs.length = a) (hy : ys.length = b) (hn : 0 + a + b ≤ 9223372036854775807) (hs : ∀ x, (C x).size = sz) :
    RdS w Be sz C (some ⟨g, 0, none⟩) (0 + a + b) (xs ++ ys) :=
  RdS.ofRow (tail := tail) (T := T) (f := f) (by rw [hg]; simp [List.flatMap_append]) hB (by simp [hx, hy]) hn (fun x _ => hs x)
/-- Is it a call? (for the walk: other alternatives are not tried else) -/
theorem spl_call_id {P : Program} {N Be : Nat} {Q : Post} {e : Env} {w0 : World} {H : Heap} {ops : Array Oper} {rest : List Oper} {dst : Option Tmp} {c : Call} {ty : TypeId} {pos : String} {after : Array Edge} {g : Option (Nat × Bool)}
    (h : Spl P N Be ops Q (⟨dst, .call c, ty, pos, after, g⟩ :: rest) e w0 H) : Spl P N Be ops Q (⟨dst, .call c, ty, pos, after, g⟩ :: rest) e w0 H := h
end Go.Sy
/-
  Regions that draw their order, with operations that make or write memory: one walk in an order of our choice serves every order, where each operation that only reads may be taken first, and each other one comes up alone.
-/
namespace Go.Sy
set_option linter.unusedVariables false
open Go.RowKit
set_option linter.unusedVariables false
set_option linter.unusedSimpArgs false

section core
variable {P : Program} {ops : Array Oper} {md : Region.Mode}

/-- Operation i comes up; it leaves in no other way than going on. -/
def opI (P : Program) (ops : Array Oper) (i : Nat) (K : Act → World → Prop) (a : Act) (w : World) : Prop :=
  match ops[i]? with
  | none => K a w
  | some o => if Region.wanted o (yielded ops a.tmps) then o.wp P a w K (fun _ _ _ => False) else K (a.put o.dst undef) w

/-- Every order of what is left; behind each operation below m the world is of the class. -/
def wpI (P : Program) (md : Region.Mode) (ops : Array Oper) (m : Nat) (C : World → Prop) (Q : Act → World → Prop) : Nat → Array Bool → Act → World → Prop
  | 0, listed, a, w => Region.ready md ops listed = [] ∧ Q a w
  | f + 1, listed, a, w => (Region.ready md ops listed = [] → Q a w) ∧ ∀ i ∈ Region.ready md ops listed, opI P ops i (fun a' w' => (i < m → C w') ∧ wpI P md ops m C Q f (listed.setIfInBounds i true) a' w') a w

theorem Oper.wp_mono2 {o : Oper} {a : Act} {w : World} {K K' : Act → World → Prop} {Q' : Exit → Act → World → Prop} (h : ∀ a w, K a w → K' a w) (hh : o.wp P a w K (fun _ _ _ => False)) : o.wp P a w K' Q' := by
  unfold Oper.wp at *
  generalize (execOp a.eval o).run P w = r at *
  cases r with
  | ok n w' =>
    cases n <;> simp only [Oper.upon] at hh ⊢
    case enter f args =>
      refine hh.mono fun e w'' he => ?_
      cases e with
      | returned v => exact h _ _ he
      | panicked c => exact he.elim
      | outgrown => obtain ⟨_, _, hf⟩ := he; exact hf.elim
    case row => exact hh.mono fun _ _ he => h _ _ he
    all_goals first | exact h _ _ hh | exact hh
  | halt x w' => cases x <;> simp only [Oper.upon] at hh

/-- In every world of the class the operation only reads, and yields v. -/
def ReadsAs (P : Program) (ops : Array Oper) (C : World → Prop) (o : Oper) (v : Value) (a : Act) : Prop :=
  (Region.wanted o (yielded ops a.tmps) = true ∧ ∀ w, C w → (execOp a.eval o).run P w = .ok (.value v) w) ∨ (Region.wanted o (yielded ops a.tmps) = false ∧ v = undef)
theorem ReadsAs.of_same {C : World → Prop} {o : Oper} {v : Value} {a a' : Act} (hy : ReadsAs P ops C o v a) (he : execOp a'.eval o = execOp a.eval o)
    (hw : Region.wanted o (yielded ops a'.tmps) = Region.wanted o (yielded ops a.tmps)) : ReadsAs P ops C o v a' := by
  unfold ReadsAs at *
  rw [he, hw]
  exact hy
theorem ReadsAs.opI {C : World → Prop} {i : Nat} {o : Oper} {v : Value} {a : Act} {w : World} {K : Act → World → Prop} (hi : ops[i]? = some o) (hy : ReadsAs P ops C o v a) (hC : C w) (h : K (a.put o.dst v) w) : opI P ops i K a w := by
  unfold Go.Sy.opI
  simp only [hi]
  rcases hy with ⟨hw, hv⟩ | ⟨hw, rfl⟩
  · simp only [hw, if_true, Oper.wp, hv w hC, Oper.upon_value]; exact h
  · simp only [hw, Bool.false_eq_true, if_false]; exact h
theorem put_defers (a : Act) (x y : Option Tmp) (v u : Value) (d : Deferred) (h : ∀ k, x = some k → y ≠ some k) :
    ({ a.put x v with defers := d :: (a.put x v).defers } : Act).put y u = (({ a with defers := d :: a.defers } : Act).put y u).put x v := by
  rw [← Act.put_comm _ v u h]
  cases x <;> rfl
/-- An operation apart from one that only reads: it does the same with the other's value in its place. -/
theorem opI_put {C : World → Prop} {j : Nat} {oi oj : Oper} {v : Value} (hj : ops[j]? = some oj) (hap : oi.apart ops oj = true)
    (hsi : ∀ cs b, oi.op ≠ .select cs b) (hsj : ∀ cs b, oj.op ≠ .select cs b) {K : Act → World → Prop} {a : Act} {w : World}
    (hy : ReadsAs P ops C oi v a) (hd : ∀ (a : Act) (d : Deferred), ReadsAs P ops C oi v a → ReadsAs P ops C oi v { a with defers := d :: a.defers }) (h : opI P ops j K (a.put oi.dst v) w) :
    opI P ops j (fun a' w' => ReadsAs P ops C oi v a' ∧ K (a'.put oi.dst v) w') a w := by
  obtain ⟨h1, h2, h3⟩ := Oper.apart_spec hap
  have keep : ∀ (a : Act), ReadsAs P ops C oi v a → ∀ u, ReadsAs P ops C oi v (a.put oj.dst u) := fun a hy u =>
    hy.of_same (execOp_put oi hsi a oj.dst u h3) (wanted_put oi a oj.dst u h3)
  unfold opI at *
  simp only [hj] at *
  rw [wanted_put oj a oi.dst v h1] at h
  split
  · rename_i hw
    simp only [hw, if_true] at h
    unfold Oper.wp at *
    rw [execOp_put oj hsj a oi.dst v h1] at h
    generalize (execOp a.eval oj).run P w = r at *
    cases r with
    | ok n w' =>
      cases n <;> simp only [Oper.upon] at h ⊢
      case value u => exact ⟨keep a hy u, by rw [← Act.put_comm a v u h2]; exact h⟩
      case skip => exact ⟨keep a hy _, by rw [← Act.put_comm a v undef h2]; exact h⟩
      case defer d => exact ⟨keep _ (hd a d hy) _, by rw [← put_defers _ _ _ _ _ _ h2]; exact h⟩
      case enter f args =>
        refine h.mono fun e w'' he => ?_
        cases e with
        | returned u => exact ⟨keep a hy u, by rw [← Act.put_comm a v u h2]; exact he⟩
        | panicked c => exact he.elim
        | outgrown => obtain ⟨_, _, hf⟩ := he; exact hf.elim
      case row => exact h.mono fun u _ he => ⟨keep a hy u, by rw [← Act.put_comm a v u h2]; exact he⟩
      all_goals exact h
    | halt x w' => cases x <;> simp only [Oper.upon] at h
  · rename_i hw
    simp only [hw] at h
    exact ⟨keep a hy _, by rw [← Act.put_comm a v undef h2]; exact h⟩
theorem reads_defers {C : World → Prop} {o : Oper} {v : Value} (a : Act) (d : Deferred) (h : ReadsAs P ops C o v a) : ReadsAs P ops C o v { a with defers := d :: a.defers } := h

/-- What is listed has all listed that it waits for. -/
def Cl (md : Region.Mode) (ops : Array Oper) (listed : Array Bool) : Prop := ∀ (k : Nat) (o : Oper), ops[k]? = some o → listed.getD k false = true → ∀ e ∈ o.after, Region.binds md e = true → listed.getD e.on false = true
theorem getD_set_self {l : Array Bool} {i : Nat} (h : i < l.size) (b : Bool) : (l.setIfInBounds i true).getD i b = true := by
  simp [Array.getD_eq_getD_getElem?, Array.getElem?_setIfInBounds, h]
theorem getD_set_mono {l : Array Bool} {i k : Nat} (h : l.getD k false = true) : (l.setIfInBounds i true).getD k false = true := by
  by_cases hik : i = k
  · subst hik
    rw [Array.getD_eq_getD_getElem?] at h
    have : i < l.size := by
      rcases Nat.lt_or_ge i l.size with h' | h'
      · exact h'
      · rw [Array.getElem?_eq_none h'] at h; simp at h
    exact getD_set_self this _
  · rwa [getD_set_ne false hik]
theorem Cl.set {listed : Array Bool} {j : Nat} (h : Cl md ops listed) (hj : j ∈ Region.ready md ops listed) : Cl md ops (listed.setIfInBounds j true) := by
  obtain ⟨_, oj, hoj, hall⟩ := mem_ready.1 hj
  intro k o ho hk e he hb
  by_cases hjk : j = k
  · subst hjk
    rw [hoj] at ho; cases ho
    exact getD_set_mono (hall e he hb)
  · rw [getD_set_ne false hjk] at hk
    exact getD_set_mono (h k o ho hk e he hb)
theorem Cl.start {n : Nat} (h : n = ops.size) : Cl md ops (Array.replicate n false) := by
  intro k o _ hk
  rw [Array.getD_eq_getD_getElem?, Array.getElem?_replicate] at hk
  split at hk <;> simp at hk
def waitsB (md : Region.Mode) (ops : Array Oper) (B : Array Bool) (k : Nat) : Bool := match ops[k]? with | some o => o.after.any fun e => Region.binds md e && B.getD e.on false | none => false
theorem waitsB_spec {B : Array Bool} {k : Nat} (h : waitsB md ops B k = true) : ∃ o, ops[k]? = some o ∧ ∃ e ∈ o.after, Region.binds md e = true ∧ B.getD e.on false = true := by
  unfold waitsB at h
  split at h
  · rename_i o ho
    obtain ⟨e, he, hb⟩ := Array.any_eq_true'.1 h
    simp only [Bool.and_eq_true] at hb
    exact ⟨o, ho, e, he, hb.1, hb.2⟩
  · cases h
/-- What is behind something of B. -/
def blkPass (md : Region.Mode) (ops : Array Oper) (B : Array Bool) : Array Bool :=
  (List.range ops.size).foldl (fun B k => if waitsB md ops B k then B.setIfInBounds k true else B) B
theorem blkPass_spec {listed : Array Bool} (hc : Cl md ops listed) {B : Array Bool} (hB : ∀ k, B.getD k false = true → listed.getD k false = false) : ∀ k, (blkPass md ops B).getD k false = true → listed.getD k false = false := by
  unfold blkPass
  generalize List.range ops.size = ks
  induction ks generalizing B with
  | nil => exact hB
  | cons x ks ih =>
    simp only [List.foldl_cons]
    refine ih fun k hk => ?_
    split at hk
    · rename_i hx
      by_cases hxk : x = k
      · subst hxk
        obtain ⟨o, ho, e, he, hb1, hb2⟩ := waitsB_spec hx
        have h1 := hB _ hb2
        cases hl : listed.getD x false with
        | false => rfl
        | true => have := hc x o ho hl e he hb1; rw [this] at h1; cases h1
      · rw [getD_set_ne false hxk] at hk; exact hB k hk
    · exact hB k hk
/-- Every operation from number m on waits for every one below m, at once or through others. -/
def tailB (md : Region.Mode) (ops : Array Oper) (m : Nat) : Bool :=
  Nat.ble ops.size m || (List.range m).all fun i => let B := blkPass md ops (blkPass md ops ((Array.replicate ops.size false).setIfInBounds i true)); (List.range ops.size).all fun j => decide (j < m) || B.getD j false
theorem tailB_spec {m : Nat} (h : tailB md ops m = true) {j i : Nat} {oj : Oper} {listed : Array Bool} (hoj : ops[j]? = some oj) (hjm : ¬ j < m) (him : i < m) (hc : Cl md ops listed) (hj : j ∈ Region.ready md ops listed) (hi : listed.getD i true = false) (hij : j ≠ i) : False := by
  have hjs : j < ops.size := (Array.getElem?_eq_some_iff.1 hoj).1
  unfold tailB at h
  rw [Bool.or_eq_true] at h
  rcases h with h | h
  · have := Nat.le_of_ble_eq_true h; omega
  · have h1 := List.all_eq_true.1 h i (List.mem_range.2 him)
    have h2 := List.all_eq_true.1 h1 j (List.mem_range.2 hjs)
    simp only [Bool.or_eq_true, decide_eq_true_eq, hjm, false_or] at h2
    have hc' := hc.set hj
    have hi' : (listed.setIfInBounds j true).getD i false = false := by
      rw [getD_set_ne false hij]
      rw [Array.getD_eq_getD_getElem?] at hi ⊢
      cases hx : listed[i]? with
      | none => rfl
      | some b => rw [hx] at hi; simpa using hi
    have h0 : ∀ k, ((Array.replicate ops.size false).setIfInBounds i true).getD k false = true → (listed.setIfInBounds j true).getD k false = false := fun k hk => by
      by_cases hik : i = k
      · subst hik; exact hi'
      · rw [getD_set_ne false hik, Array.getD_eq_getD_getElem?, Array.getElem?_replicate] at hk
        split at hk <;> simp at hk
    have h3 := blkPass_spec hc' (blkPass_spec hc' h0) j h2
    have hjl : j < listed.size := by
      have := (mem_ready.1 hj).1
      rw [Array.getD_eq_getD_getElem?] at this
      rcases Nat.lt_or_ge j listed.size with h' | h'
      · exact h'
      · rw [Array.getElem?_eq_none h'] at this; simp at this
    rw [getD_set_self hjl] at h3
    cases h3

theorem wpI_first {C : World → Prop} {Q : Act → World → Prop} {m i : Nat} {oi : Oper} {v : Value} (hi : ops[i]? = some oi) (him : i < m) (htail : tailB md ops m = true) (hsel : ∀ (j : Nat) (o : Oper) cs b, ops[j]? = some o → o.op ≠ .select cs b) :
    ∀ (fuel : Nat) (listed : Array Bool) (a : Act) (w : World),
      (∀ j oj, ops[j]? = some oj → j ≠ i → listed.getD j true = false → (∀ e ∈ oj.after, Region.binds md e = true → e.on ≠ i) → oi.apart ops oj = true) →
      Cl md ops listed → i ∈ Region.ready md ops listed → ReadsAs P ops C oi v a → C w →
      wpI P md ops m C Q fuel (listed.setIfInBounds i true) (a.put oi.dst v) w → wpI P md ops m C Q (fuel + 1) listed a w := by
  intro fuel
  induction fuel with
  | zero =>
    intro listed a w _ _ hr hy hC H
    refine ⟨fun h => (by rw [h] at hr; cases hr), fun j hj => ?_⟩
    by_cases hji : j = i
    · subst hji; exact hy.opI hi hC ⟨fun _ => hC, H⟩
    · have := ready_mono hj hji
      rw [H.1] at this
      cases this
  | succ fuel ih =>
    intro listed a w hfree hcl hr hy hC H
    refine ⟨fun h => (by rw [h] at hr; cases hr), fun j hj => ?_⟩
    by_cases hji : j = i
    · subst hji; exact hy.opI hi hC ⟨fun _ => hC, H⟩
    · have h1 := H.2 j (ready_mono hj hji)
      obtain ⟨hjun, oj, hoj, hall⟩ := mem_ready.1 hj
      have hnot : ∀ e ∈ oj.after, Region.binds md e = true → e.on ≠ i := fun e he hb heq => by
        have h1 := hall e he hb
        have h0 := (mem_ready.1 hr).1
        rw [heq] at h1
        rcases Nat.lt_or_ge i listed.size with h' | h'
        · simp [h'] at h0 h1; rw [h0] at h1; cases h1
        · simp [Array.getElem?_eq_none h'] at h1
      have hjm : j < m := by
        rcases Nat.lt_or_ge j m with h' | h'
        · exact h'
        · exact (tailB_spec htail hoj (by omega) him hcl hj (mem_ready.1 hr).1 hji).elim
      have h2 := opI_put hoj (hfree j oj hoj hji hjun hnot) (fun cs b => hsel i oi cs b hi) (fun cs b => hsel j oj cs b hoj) hy (fun a d => reads_defers a d) h1
      have hfree' : ∀ k ok, ops[k]? = some ok → k ≠ i → (listed.setIfInBounds j true).getD k true = false →
          (∀ e ∈ ok.after, Region.binds md e = true → e.on ≠ i) → oi.apart ops ok = true := fun k ok hk hki hun hno => by
        refine hfree k ok hk hki ?_ hno
        by_cases hjk : j = k
        · subst hjk; exact hjun
        · rw [getD_set_ne true hjk] at hun; exact hun
      have hmono : ∀ {K K' : Act → World → Prop} {a : Act} {w : World}, (∀ a w, K a w → K' a w) → opI P ops j K a w → opI P ops j K' a w := by
        intro K K' a w hk ho
        unfold opI at *
        simp only [hoj] at *
        split
        · rename_i hw; simp only [hw, if_true] at ho; exact Oper.wp_mono2 hk ho
        · rename_i hw; simp only [hw] at ho; exact hk _ _ ho
      refine hmono (fun a' w' h3 => ⟨fun _ => h3.2.1 hjm, ih (listed.setIfInBounds j true) a' w' hfree' (hcl.set hj) (ready_mono hr (Ne.symm hji)) h3.1 (h3.2.1 hjm) ?_⟩) h2
      rw [Array.setIfInBounds_comm _ _ hji]
      exact h3.2.2

theorem wpAny_of_wpI {C : World → Prop} {Q : Act → World → Prop} {m : Nat} {Q' : Exit → Act → World → Prop} (hQ : ∀ a w, Q a w → Q' .normal a w) : ∀ (fuel : Nat) (listed : Array Bool) (a : Act) (w : World),
    wpI P md ops m C Q fuel listed a w → wpAny P md ops Q' fuel listed a w
  | 0, _, _, _, h => ⟨h.1, hQ _ _ h.2⟩
  | fuel + 1, listed, a, w, h => ⟨fun h0 => hQ _ _ (h.1 h0), fun i hi => by
      have h1 := h.2 i hi
      unfold opI at h1
      unfold wpOp
      split
      · rename_i ho; simp only [ho] at h1; exact wpAny_of_wpI hQ fuel _ _ _ h1.2
      · rename_i o ho
        simp only [ho] at h1
        split
        · rename_i hw; simp only [hw, if_true] at h1; exact .inl (Oper.wp_mono2 (fun a' w' h2 => wpAny_of_wpI hQ fuel _ _ _ h2.2) h1)
        · rename_i hw; simp only [hw] at h1; exact wpAny_of_wpI hQ fuel _ _ _ h1.2⟩

def canonB (md : Region.Mode) (ops : Array Oper) (m : Nat) : Array Bool → Bool → List (Nat × Bool) → Bool
  | listed, _, [] => (Region.ready md ops listed).isEmpty
  | listed, bar, (i, true) :: r => (!bar && decide (i < m)) && (Region.ready md ops listed).contains i && Region.free md ops listed i && canonB md ops m (listed.setIfInBounds i true) bar r
  | listed, bar, (i, false) :: r => (Region.ready md ops listed == [i]) && canonB md ops m (listed.setIfInBounds i true) (bar || decide (m ≤ i)) r
/-- The order p is one that serves for all. -/
def drawnB (ops : Array Oper) (m : Nat) (p : List (Nat × Bool)) : Bool :=
  Region.noSelect ops && tailB .any ops m && decide (p.length = ops.size) && canonB .any ops m (Array.replicate ops.size false) false p
end core

section walk
variable {P : Program} {N Be : Nat} {Q : Post} {e : Env} {w0 : World} {H H1 : Heap} {ops : Array Oper} {r : List (Nat × Bool)} {ty : TypeId} {pos : String} {after : Array Edge} {d i m : Nat}

/-- The walk in the order of our choice: (i, true): operation i only reads; (i, false): it comes up alone. H1: what the reading operations read. -/
def wlk (P : Program) (N Be : Nat) (ops : Array Oper) (m : Nat) (Q : Post) (H1 : Heap) : List (Nat × Bool) → Env → World → Heap → Prop
  | [], e, w0, H => Q .normal e w0 H
  | (i, true) :: r, e, w0, H => ∃ (o : Oper) (d : Nat) (G : Bool) (v : Value), ops[i]? = some o ∧ o.dst = some d ∧ d < N ∧ Gd ops e o.guard G ∧ Ex P Be w0 H1 G e o.op o.type v ∧ wlk P N Be ops m Q H1 r ((d, G, v) :: e) w0 H
  | (i, false) :: r, e, w0, H => ∃ o : Oper, ops[i]? = some o ∧ Spl P N Be ops (fun x e' w0' H' => x = .normal ∧ w0' = w0 ∧ (i < m → HKeep w0 H1 H') ∧ wlk P N Be ops m Q H1 r e' w0' H') [o] e w0 H
/-- What is asked behind an operation that comes up alone. -/
def effQ (P : Program) (N Be : Nat) (ops : Array Oper) (m : Nat) (Q : Post) (H1 : Heap) (i : Nat) (r : List (Nat × Bool)) (w0 : World) : Post := fun x e' w0' H' => x = .normal ∧ w0' = w0 ∧ (i < m → HKeep w0 H1 H') ∧ wlk P N Be ops m Q H1 r e' w0' H'

theorem wlk_nil (h : Q .normal e w0 H) : wlk P N Be ops m Q H1 [] e w0 H := h
theorem wlk_read {op : Op} {v : Value} (ho : ops[i]? = some ⟨some d, op, ty, pos, after, none⟩) (hN : Nat.blt d N = true) (hx : Ex P Be w0 H1 true e op ty v) (k : wlk P N Be ops m Q H1 r ((d, true, v) :: e) w0 H) :
    wlk P N Be ops m Q H1 ((i, true) :: r) e w0 H := ⟨_, d, true, v, ho, rfl, by simpa [Nat.blt_eq] using hN, Gd.none, hx, k⟩
theorem wlk_read_g {op : Op} {v : Value} {g : Option (Nat × Bool)} {G : Bool} (ho : ops[i]? = some ⟨some d, op, ty, pos, after, g⟩) (hN : Nat.blt d N = true) (hg : Gd ops e g G) (hx : Ex P Be w0 H1 G e op ty v) (k : wlk P N Be ops m Q H1 r ((d, G, v) :: e) w0 H) :
    wlk P N Be ops m Q H1 ((i, true) :: r) e w0 H := ⟨_, d, G, v, ho, rfl, by simpa [Nat.blt_eq] using hN, hg, hx, k⟩
theorem wlk_eff {dst : Option Tmp} {op : Op} {g : Option (Nat × Bool)} (ho : ops[i]? = some ⟨dst, op, ty, pos, after, g⟩) (h : Spl P N Be ops (effQ P N Be ops m Q H1 i r w0) [⟨dst, op, ty, pos, after, g⟩] e w0 H) : wlk P N Be ops m Q H1 ((i, false) :: r) e w0 H := ⟨_, ho, h⟩
theorem effq (h : i < m → HKeep w0 H1 H) (k : wlk P N Be ops m Q H1 r e w0 H) : effQ P N Be ops m Q H1 i r w0 .normal e w0 H := ⟨rfl, rfl, h, k⟩

theorem wlk_sound (hm' : tailB .any ops m = true) (hs : Region.noSelect ops = true) : ∀ (l : List (Nat × Bool)) (listed : Array Bool) (bar : Bool) (a : Act) (w : World) (e : Env) (H : Heap), canonB .any ops m listed bar l = true →
    Cl .any ops listed → Fr N e a → Hp Be w0 H w → (bar = false → Hp Be w0 H1 w) → wlk P N Be ops m Q H1 l e w0 H → wpI P .any ops m (Hp Be w0 H1) (fun a' w' => lift N Be Q .normal a' w') l.length listed a w := by
  intro l
  induction l with
  | nil =>
    intro listed bar a w e H hB _ hf hh _ h
    exact ⟨by simpa [canonB] using hB, e, w0, H, hf, hh, h⟩
  | cons p r ih =>
    intro listed bar a w e H hB hcl hf hh hC h
    obtain ⟨i, b⟩ := p
    cases b with
    | true =>
      obtain ⟨o, d, G, v, ho, hd, hdN, hg, hx, hk⟩ := h
      simp only [canonB, Bool.and_eq_true, Bool.not_eq_true', decide_eq_true_eq, List.contains_eq_mem] at hB
      obtain ⟨⟨⟨⟨hbar, him⟩, hr⟩, hfree⟩, hB'⟩ := hB
      have hgd := hg N a o hf rfl
      refine wpI_first (v := if G then v else undef) ho him hm' (Region.noSelect_spec hs) r.length listed a w (Region.free_spec ho hfree) hcl hr ?_ (hC hbar) (ih _ bar _ w _ H hB' (hcl.set hr) ?_ hh hC hk)
      · cases hG : G with
        | true => exact .inl ⟨by rw [hgd, hG], fun w' hw' => hx N a w' o rfl rfl hf hw' hG⟩
        | false => exact .inr ⟨by rw [hgd, hG], rfl⟩
      · rw [hd]
        cases hG : G with
        | true => exact hf.puttrue hdN
        | false => exact hf.put hdN
    | false =>
      obtain ⟨o, ho, hk⟩ := h
      simp only [canonB, Bool.and_eq_true, beq_iff_eq] at hB
      obtain ⟨hr, hB'⟩ := hB
      refine ⟨fun h0 => (by rw [hr] at h0; cases h0), fun j hj => ?_⟩
      rw [hr] at hj
      simp only [List.mem_singleton] at hj
      subst hj
      have hcl' := hcl.set (show j ∈ Region.ready .any ops listed by rw [hr]; exact List.mem_singleton.2 rfl)
      have h1 := hk a w hf hh
      unfold opI
      simp only [ho]
      have fin : ∀ a' w', lift N Be (fun x e' w0' H' => x = .normal ∧ w0' = w0 ∧ (j < m → HKeep w0 H1 H') ∧ wlk P N Be ops m Q H1 r e' w0' H') .normal a' w' →
          (j < m → Hp Be w0 H1 w') ∧ wpI P .any ops m (Hp Be w0 H1) (fun a' w' => lift N Be Q .normal a' w') r.length (listed.setIfInBounds j true) a' w' := by
        rintro a' w' ⟨e', w0', H', hf', hh', _, rfl, hkeep, hk'⟩
        refine ⟨fun hjm => hh'.sub (hkeep hjm), ih _ _ a' w' e' H' hB' hcl' hf' hh' (fun hb => ?_) hk'⟩
        simp only [Bool.or_eq_false_iff, decide_eq_false_iff_not] at hb
        exact hh'.sub (hkeep (by omega))
      simp only [wpList] at h1
      split at h1
      · rename_i hw
        simp only [hw, if_true]
        rcases h1 with h1 | ⟨_, h1⟩
        · unfold Oper.wp at *
          generalize (execOp a.eval o).run P w = res at *
          cases res with
          | ok n w' =>
            cases n <;> simp only [Oper.upon] at h1 ⊢
            case enter f args =>
              refine h1.mono fun en w'' he => ?_
              cases en with
              | returned u => exact fin _ _ he
              | panicked c => obtain ⟨_, _, _, _, _, hx, _⟩ := he; cases hx
              | outgrown => obtain ⟨_, _, _, _, _, _, _, hx, _⟩ := he; cases hx
            case row => exact h1.mono fun _ _ he => fin _ _ he
            all_goals first | exact fin _ _ h1 | exact h1
          | halt x w' =>
            cases x <;> simp only [Oper.upon] at h1
            obtain ⟨_, _, _, _, _, hx, _⟩ := h1
            cases hx
        · obtain ⟨_, _, _, _, _, _, _, hx, _⟩ := h1
          cases hx
      · rename_i hw
        simp only [hw]
        exact fin _ _ h1

theorem sp_drawn {id : Nat} {l : List Oper} (p : List (Nat × Bool)) (m : Nat) (H1 : Heap) (hm : P.follows .mixedOrders = true) (hB : drawnB l.toArray m p = true) (hk : HKeep w0 H1 H) (h : wlk P N Be l.toArray m Q H1 p e w0 H) :
    Spc P N Be (.region id l.toArray true) Q e w0 H := by
  intro a w hf hh
  simp only [drawnB, Bool.and_eq_true, decide_eq_true_eq] at hB
  obtain ⟨⟨⟨h1, h2⟩, h3⟩, h4⟩ := hB
  refine wp_region_any hm ?_
  have := wlk_sound h2 h1 p _ false a _ e H h4 (Cl.start rfl) hf hh.drew (fun _ => (hh.drew).sub hk) h
  rw [h3] at this
  exact wpAny_of_wpI (fun _ _ hq => hq) _ _ _ _ this
end walk
end Go.Sy
/-
  Calls that change memory that their caller owns; further operations: bytes, strings, copy, make.
-/
namespace Go.Sy
set_option linter.unusedVariables false
open Go.RowKit
set_option linter.unusedVariables false
set_option linter.unusedSimpArgs false

section
variable {P : Program} {N Be : Nat} {Q : Post} {e : Env} {w0 : World} {H : Heap} {ops : Array Oper} {rest : List Oper} {ty : TypeId} {pos : String} {after : Array Edge} {d : Nat}

/-- A function entered with blocks that it may change. -/
theorem sp_enterM {f : FuncId} {fn : Func} {c : Code} {vs : List Value} {w : World} {R : Ending → World → Prop} (hf : P.funcs[f]? = some fn) (hb : fn.body = some c) (hN : fn.ntmps = N) (hl : Nat.ble vs.length N = true) (hh : Hp Be w0 H w)
    (h : Spc P N Be c (retQ P fn Be R) (envOf 0 vs) w0 H) : Calls P f vs.toArray w R := by
  refine calls_of_wp hf hb (wp_mono (h _ w ?_ hh) ?_)
  · have hl' : vs.length ≤ N := Nat.le_of_ble_eq_true hl
    refine ⟨rfl, by simp [hN]; omega, fun k g v hk => ?_⟩
    obtain ⟨rfl, _, h3⟩ := look_envOf vs 0 k g v hk
    simp only [Nat.sub_zero] at h3
    have hk : k < vs.length := (List.getElem?_eq_some_iff.1 h3).1
    simp [Array.getElem?_append, hk, gv]
    have := (List.getElem?_eq_some_iff.1 h3).2
    simpa using this
  · rintro x a w' ⟨e, w0, H, h1, h2, h3⟩
    cases x with
    | normal => obtain ⟨v, hv, hR⟩ := h3; exact ⟨h1.defers, v, hv _ _ _ fn rfl h1 h2, hR w' h2⟩
    | ret => obtain ⟨v, hv, hR⟩ := h3; exact ⟨h1.defers, v, hv _ _ _ fn rfl h1 h2, hR w' h2⟩
    | exit _ => exact h3.elim
    | goto _ => exact h3.elim
    | panic _ => exact h3.elim
    | outgrown => exact h3.elim

/-- What such a call leaves. -/
def RetX {X : Type} (Be : Nat) (w0 : World) (V : X → Value) (HH : X → Heap) (I : X → Prop) : Ending → World → Prop := fun en w' => ∃ x, en = .returned (V x) ∧ I x ∧ Hp Be w0 (HH x) w'
theorem retX_ok {fn : Func} {rs : Array ResultVar} {e : Env} {H' : Heap} {v : Value} {X : Type} {V : X → Value} {HH : X → Heap} {I : X → Prop} (hr : fn.results = rs) (h : Res rs P Be e w0 H' v) (hv : ∃ x, v = V x ∧ I x ∧ HKeep w0 (HH x) H') : retQ P fn Be (RetX Be w0 V HH I) .ret e w0 H' := by
  subst hr
  obtain ⟨x, rfl, hI, hk⟩ := hv
  exact ⟨_, h, fun w' hh => ⟨x, rfl, hI, hh.sub hk⟩⟩
theorem endX_ok {fn : Func} {rs : Array ResultVar} {e : Env} {H' : Heap} {v : Value} {X : Type} {V : X → Value} {HH : X → Heap} {I : X → Prop} (hr : fn.results = rs) (h : Res rs P Be e w0 H' v) (hv : ∃ x, v = V x ∧ I x ∧ HKeep w0 (HH x) H') : retQ P fn Be (RetX Be w0 V HH I) .normal e w0 H' := by
  subst hr
  obtain ⟨x, rfl, hI, hk⟩ := hv
  exact ⟨_, h, fun w' hh => ⟨x, rfl, hI, hh.sub hk⟩⟩

/-- A part taken out of the list of blocks. -/
def Split (H A R : Heap) : Prop := H.Perm (A ++ R)
theorem Split.here {A R : Heap} : Split (A ++ R) A R := .refl _
theorem Split.one {p : Nat × Obj} {R : Heap} : Split (p :: R) [p] R := Split.here (A := [p])
theorem Split.all {A : Heap} : Split A A [] := by unfold Split; simp
theorem Split.cons {p : Nat × Obj} {A R : Heap} (h : Split H A R) : Split (p :: H) A (p :: R) := (List.Perm.cons p h).trans List.perm_middle.symm
theorem Split.app {B A R : Heap} (h : Split H A R) : Split (B ++ H) A (B ++ R) := by
  refine (h.append_left B).trans ?_
  rw [← List.append_assoc, ← List.append_assoc]
  exact List.perm_append_comm.append_right R
theorem Rem.app {H' B : Heap} {g : Nat} {o : Obj} (h : Rem H g o H') : Rem (B ++ H) g o (B ++ H') := by
  obtain ⟨a, b, rfl, rfl⟩ := h
  exact ⟨B ++ a, b, by simp, by simp⟩
theorem Upd.app {H' B : Heap} {g : Nat} {o o' : Obj} (h : Upd H g o o' H') : Upd (B ++ H) g o o' (B ++ H') := by
  obtain ⟨a, b, rfl, rfl⟩ := h
  exact ⟨B ++ a, b, by simp, by simp⟩
instance (priority := low) InH.appL {g : Nat} {o : Obj} {B : Heap} [h : InH B g o] : InH (B ++ H) g o := ⟨List.mem_append.2 (.inl h.mem)⟩
instance (priority := low) InH.app {g : Nat} {o : Obj} {B : Heap} [h : InH H g o] : InH (B ++ H) g o := ⟨List.mem_append.2 (.inr h.mem)⟩
theorem Rem.perm {H' : Heap} {g : Nat} {o : Obj} (h : Rem H g o H') : H.Perm ((g, o) :: H') := by
  obtain ⟨a, b, rfl, rfl⟩ := h
  exact List.perm_middle
theorem HKeep.pick {H' Hr : Heap} {p : Nat × Obj} (hr : Rem H' p.1 p.2 Hr) (h : HKeep w0 H Hr) : HKeep w0 (p :: H) H' := by
  obtain ⟨D, h1, h2⟩ := h
  exact ⟨D, hr.perm.trans ((h1.cons p).trans List.perm_middle.symm), h2⟩
theorem HKeep.app {H' R A : Heap} (hs : Split H' A R) (h : HKeep w0 H R) : HKeep w0 (A ++ H) H' := by
  obtain ⟨D, h1, h2⟩ := h
  refine ⟨D, hs.trans ((h1.append_left A).trans ?_), h2⟩
  rw [← List.append_assoc, ← List.append_assoc]
  exact List.perm_append_comm.append_right H
theorem HKeep.dropA {H' A : Heap} (hA : ∀ p ∈ A, w0.heap.size ≤ p.1) (h : HKeep w0 H H') : HKeep w0 H (A ++ H') := by
  obtain ⟨D, h1, h2⟩ := h
  exact ⟨A ++ D, by rw [List.append_assoc]; exact h1.append_left A, fun q hq => by (rcases List.mem_append.1 hq with hq | hq <;> first | exact hA q hq | exact h2 q hq)⟩
theorem HKeep.perm {H' : Heap} (h : H'.Perm H) : HKeep w0 H H' := ⟨[], by simpa using h, fun _ h => by cases h⟩
theorem HKeep.trans {A B C : Heap} (h : HKeep w0 A B) (h' : HKeep w0 B C) : HKeep w0 A C := by
  obtain ⟨D, h1, h2⟩ := h
  obtain ⟨D', h3, h4⟩ := h'
  exact ⟨D' ++ D, by rw [List.append_assoc]; exact h3.trans (h1.append_left D'), fun q hq => by (rcases List.mem_append.1 hq with hq | hq <;> first | exact h4 q hq | exact h2 q hq)⟩

/-- A call that changes the part A of the blocks. -/
theorem spl_callM {f : FuncId} {xs : List Operand} {ts : Array TypeId} {vs : List Value} [TFn P f] {X : Type} {V : X → Value} {AA : X → Heap} {I : X → Prop} {A R : Heap} (hN : Nat.blt d N = true) (hx : Evs true e xs vs) (hs : Split H A R)
    (hc : ∀ w, Hp Be w0 (A ++ R) w → Calls P f vs.toArray w (RetX Be w0 V (fun x => AA x ++ R) I))
    (k : ∀ x, I x → Spl P N Be ops Q rest ((d, true, V x) :: e) w0 (AA x ++ R)) : Spl P N Be ops Q (⟨some d, .call ⟨.value (.func f), xs.toArray, ts⟩, ty, pos, after, none⟩ :: rest) e w0 H :=
  spl_callx V (fun _ => w0) (fun x => AA x ++ R) I hN hx (fun w hh => hc w (hh.perm hs)) k
/-- The same behind a guard. -/
theorem Spc.perm {c : Code} {H' : Heap} (hp : H.Perm H') (h : Spc P N Be c Q e w0 H') : Spc P N Be c Q e w0 H := fun a w hf hh => h a w hf (hh.perm hp)
theorem Spc.keep {c : Code} {H' : Heap} (hp : HKeep w0 H' H) (h : Spc P N Be c Q e w0 H') : Spc P N Be c Q e w0 H := fun a w hf hh => h a w hf (hh.sub hp)
theorem ESub.refl : ESub e e := fun _ _ _ h => h

/-- 'make([]T, n)', T of one cell. -/
theorem spl_makeSlice {t el bytes : Nat} {z : Value} {x y : Operand} {k1 k2 : IntKind} {n : Nat} [ht : TSlice P t el] [hs : TSize P el 1] [hz : TZero P el z] [hby : TBytes P el bytes] (hN : Nat.blt d N = true) (hx : Ev true e x (.int k1 n)) (hy : Ev true e y (.int k2 n))
    (hz1 : z.oneCell' = true) (hb : bytes * n ≤ 281474976710656) (h63 : n ≤ 9223372036854775807)
    (k : ∀ g, w0.heap.size ≤ g → Spl P N Be ops Q rest ((d, true, .slice (some ⟨g, 0, none⟩) n n) :: e) w0 ((g, .cells (List.replicate n z).toArray el (0, 0)) :: H)) :
    Spl P N Be ops Q (⟨some d, .makeSlice t x y, ty, pos, after, none⟩ :: rest) e w0 H := by
  intro a w hf hh
  have hd : d < N := by simpa [Nat.blt_eq] using hN
  refine wpList_plain rfl fun K hK => ?_
  obtain ⟨i, hi⟩ : ∃ i, P.info? el = some i := by
    have := hs.size
    cases h : P.info? el with
    | none => rw [h] at this; cases this
    | some i => exact ⟨i, rfl⟩
  have hiz : i.zero = some z := by have := hz.zero; rw [hi] at this; exact this
  have his : i.size = 1 := by have := hs.size; rw [hi] at this; simpa using this
  have hib : i.bytes = bytes := by have := hby.bytes; rw [hi] at this; simpa using this
  have hzc : z.cells = #[z] := by cases z <;> simp_all [Value.oneCell', Value.cells]
  have hm : madeCells z.cells n = (List.replicate n z).toArray := by
    apply Array.ext'
    simp only [madeCells, hzc]
    rw [List.eq_replicate_iff]
    refine ⟨by simp, fun b hb => ?_⟩
    simp at hb
    obtain ⟨j, hj, rfl⟩ := hb
    simp [Nat.mod_one]
  have hr : (execOp a.eval ⟨some d, .makeSlice t x y, ty, pos, after, none⟩).run P w = .ok (.value (.slice (some ⟨w.heap.size, 0, none⟩) n n)) (w.alloc (.cells (List.replicate n z).toArray el)) := by
    have := run_make (P := P) w t el i z ht.slice hi hiz k1 k2 n n (by omega) (by omega) (by rw [hib]; have h := Int.ofNat_le.2 hb; rw [Int.natCast_mul] at h; exact h) (by omega)
    simp only [Int.toNat_natCast, his, Nat.mul_one, hm] at this
    simp only [execOp, hx N a hf rfl, hy N a hf rfl, this, Sem.run_bind, Result.andThen_ok, Sem.run_pure]
  unfold Oper.wp
  rw [hr, Oper.upon_value]
  exact hK _ _ (k _ hh.size _ _ (hf.puttrue hd) (hh.alloc _))

/-- 'copy(s, text)' into an own row. -/
theorem spl_copyS {dT sT el : TypeId} {x y : Operand} {g off n c : Nat} {s : ByteArray} {cs : Array Value} {T : TypeId} {H' : Heap} [ht : TSlice P dT el] [hz : TSize P el 1] (hN : Nat.blt d N = true) (hx : Ev true e x (.slice (some ⟨g, off, none⟩) n c)) (hy : Ev true e y (.string s))
    (hn : s.size ≤ n) (hu : Upd H g (.cells cs T (0, 0)) (.cells (cs.toList.take off ++ byteCells s ++ cs.toList.drop (off + s.size)).toArray T (0, 0)) H') (hfit : off + s.size ≤ cs.size)
    (k : Spl P N Be ops Q rest ((d, true, .int .i64 s.size) :: e) w0 H') :
    Spl P N Be ops Q (⟨some d, .call ⟨.builtin .copy, #[x, y], #[dT, sT]⟩, ty, pos, after, none⟩ :: rest) e w0 H := by
  intro a w hf hh
  have hd : d < N := by simpa [Nat.blt_eq] using hN
  refine wpList_plain rfl fun K hK => ?_
  have hg : w.heap[g]? = some (.cells cs T (0, 0)) := hh.own _ hu.mem
  obtain ⟨i, hi⟩ : ∃ i, P.info? el = some i := by
    have := hz.size
    cases h : P.info? el with
    | none => rw [h] at this; cases this
    | some i => exact ⟨i, rfl⟩
  have his : i.size = 1 := by have := hz.size; rw [hi] at this; simpa using this
  have hlen := byteCells_length s
  have hfc := firstCells_string (P := P) s w
  have hst := run_storeCells_at P g off T (byteCells s) 0 cs w hg (by simpa [hlen] using hfit) (fun v hv => by simp only [byteCells, List.mem_map] at hv; obtain ⟨b, _, rfl⟩ := hv; rfl)
  simp only [Nat.add_zero, hlen] at hst
  have hr : (execOp a.eval ⟨some d, .call ⟨.builtin .copy, #[x, y], #[dT, sT]⟩, ty, pos, after, none⟩).run P w = .ok (.value (.int .i64 s.size)) (w.setRow g (cs.toList.take off ++ byteCells s ++ cs.toList.drop (off + s.size)).toArray) := by
    have hmin : Nat.min s.size n = s.size := Nat.min_eq_left hn
    simp only [execOp, resolve, invoke, builtin, hx N a hf rfl, hy N a hf rfl, Builtin.copy_, run_underlying ht.slice, Builtin.lenOf, Sem.run_bind, Sem.run_pure, Result.andThen_ok, List.map_toArray, List.map_cons, List.map_nil, sizeOf, typeInfo, hi, run_program, his, goInt]
    simp [hmin, hfc, hst, run_underlying ht.slice, hi, his]
  unfold Oper.wp
  rw [hr, Oper.upon_value]
  exact hK _ _ (k _ _ (hf.puttrue hd) (hh.upd hu rfl rfl rfl (by simp [World.setRow]) (fun k _ hk => setRow_other w g k _ hk) (setRow_heap w g cs _ T (0, 0) hg)))
end

section
variable {P : Program} {Be : Nat} {w0 : World} {H : Heap} {G : Bool} {e : Env} {ty : TypeId}

theorem run_equalIn_pn {w : World} {d t el : Nat} (h : P.underlying t = some (.pointer el)) (p : Option Addr) : (Op.equalIn (d + 1) t (.pointer p) (.pointer none)).run P w = .ok p.isNone w := by
  cases p <;> simp [Op.equalIn, run_underlying h]
theorem ex_peql {t t' el : TypeId} {x y : Operand} {p : Option Addr} (h1 : Ev G e x (.pointer p)) (h2 : Ev G e y (.pointer none)) [ht : TPtr P t el] : Ex P Be w0 H G e (.binOp .eql t x y t') ty (.bool p.isNone) := by
  intro N a w o ho _ hf hh hG
  simp only [execOp, ho, h1 N a hf hG, h2 N a hf hG, Sem.run_bind]
  have : (eqGuard .eql t x y (.pointer p) (.pointer none)).run P w = .ok () w := by unfold eqGuard; simp
  rw [this]
  have h3 : (Op.equal t (.pointer p) (.pointer none)).run P w = .ok p.isNone w := run_equalIn_pn ht.ptr p
  have h4 : binOp .eql t (.pointer p) (.pointer none) = (do pure (.bool ((← Op.equal t (.pointer p) (.pointer none))))) := by cases p <;> rfl
  simp only [h4, Sem.run_bind, Sem.run_map, h3, Result.andThen_ok, Sem.run_pure]
theorem ex_pneq {t t' el : TypeId} {x y : Operand} {p : Option Addr} (h1 : Ev G e x (.pointer p)) (h2 : Ev G e y (.pointer none)) [ht : TPtr P t el] : Ex P Be w0 H G e (.binOp .neq t x y t') ty (.bool (!p.isNone)) := by
  intro N a w o ho _ hf hh hG
  simp only [execOp, ho, h1 N a hf hG, h2 N a hf hG, Sem.run_bind]
  have : (eqGuard .neq t x y (.pointer p) (.pointer none)).run P w = .ok () w := by unfold eqGuard; simp
  rw [this]
  have h3 : (Op.equal t (.pointer p) (.pointer none)).run P w = .ok p.isNone w := run_equalIn_pn ht.ptr p
  have h4 : binOp .neq t (.pointer p) (.pointer none) = (do pure (.bool (!(← Op.equal t (.pointer p) (.pointer none))))) := by cases p <;> rfl
  simp only [h4, Sem.run_bind, Sem.run_map, h3, Result.andThen_ok, Sem.run_pure]

theorem ex_minE {x y : Operand} {ts : Array TypeId} {k : IntKind} {m n r : Int} (h1 : Ev G e x (.int k m)) (h2 : Ev G e y (.int k n)) (hr : (if n < m then n else m) = r) : Ex P Be w0 H G e (.call ⟨.builtin .min, #[x, y], ts⟩) ty (.int k r) := by
  subst hr
  exact ex_min h1 h2
theorem ex_maxE {x y : Operand} {ts : Array TypeId} {k : IntKind} {m n r : Int} (h1 : Ev G e x (.int k m)) (h2 : Ev G e y (.int k n)) (hr : (if n > m then n else m) = r) : Ex P Be w0 H G e (.call ⟨.builtin .max, #[x, y], ts⟩) ty (.int k r) := by
  subst hr
  exact ex_max h1 h2
theorem ex_addE {t t' : TypeId} {x y : Operand} {m n r : Int} (hr : m + n = r) (h1 : Ev G e x (.int .i64 m)) (h2 : Ev G e y (.int .i64 n)) (hb : -9223372036854775808 ≤ r ∧ r < 9223372036854775808) : Ex P Be w0 H G e (.binOp .add t x y t') ty (.int .i64 r) := by
  subst hr
  exact ex_addn h1 h2 hb
theorem ex_indexAddrO {t el : TypeId} {x y : Operand} {k : IntKind} {i : Nat} {g off n c sz : Nat} (h : Ev G e x (.slice (some ⟨g, off, none⟩) n c)) (h2 : Ev G e y (.int k i)) (hi : i < n) [ht : TSlice P t el] [hs : TSize P el sz] :
    Ex P Be w0 H G e (.indexAddr t x y) ty (.pointer (some ⟨g, off + i * sz, none⟩)) := by
  have := ex_indexAddr (P := P) (Be := Be) (w0 := w0) (H := H) (ty := ty) (t := t) h h2 rfl hi
  rwa [addr_add] at this
theorem ex_quon {t t' : TypeId} {x y : Operand} {m n : Int} (h1 : Ev G e x (.int .i64 m)) (h2 : Ev G e y (.int .i64 n)) (hn : n ≠ 0) (hb : -9223372036854775808 ≤ m.tdiv n ∧ m.tdiv n < 9223372036854775808) : Ex P Be w0 H G e (.binOp .quo t x y t') ty (.int .i64 (m.tdiv n)) := by
  have := ex_quo (P := P) (Be := Be) (w0 := w0) (H := H) (t := t) (t' := t') (ty := ty) h1 h2 hn
  rwa [wrap64_in hb] at this
/-- The two of natural numbers. -/
theorem ex_quoN {t t' : TypeId} {x y : Operand} {m n : Nat} (h1 : Ev G e x (.int .i64 (m : Int))) (h2 : Ev G e y (.int .i64 (n : Int))) (hn : Nat.blt 0 n = true) (hb : m < 9223372036854775808) : Ex P Be w0 H G e (.binOp .quo t x y t') ty (.int .i64 ((m / n : Nat) : Int)) := by
  have hn' : 0 < n := by simpa [Nat.blt_eq] using hn
  have h3 : m / n ≤ m := Nat.div_le_self _ _
  have h4 : (m : Int).tdiv (n : Int) = ((m / n : Nat) : Int) := rfl
  generalize m / n = q at h3 h4
  rw [← h4]
  exact ex_quon h1 h2 (by omega) (by rw [h4]; omega)
theorem ex_quoE {t t' : TypeId} {x y : Operand} {m n q : Nat} (hq : m / n = q) (h1 : Ev G e x (.int .i64 (m : Int))) (h2 : Ev G e y (.int .i64 (n : Int))) (hn : Nat.blt 0 n = true) (hb : m < 9223372036854775808) : Ex P Be w0 H G e (.binOp .quo t x y t') ty (.int .i64 (q : Int)) := by
  subst hq
  exact ex_quoN h1 h2 hn hb
theorem ex_remN {t t' : TypeId} {x y : Operand} {m n : Nat} (h1 : Ev G e x (.int .i64 (m : Int))) (h2 : Ev G e y (.int .i64 (n : Int))) (hn : Nat.blt 0 n = true) : Ex P Be w0 H G e (.binOp .rem t x y t') ty (.int .i64 ((m % n : Nat) : Int)) := by
  have hn' : 0 < n := by simpa [Nat.blt_eq] using hn
  exact ex_rem h1 h2 (by omega)
/-- Of one integer type to another. -/
theorem ex_conv {t t' : TypeId} {k k' k2 : IntKind} {x : Operand} {n : Int} (h : Ev G e x (.int k n)) [h1 : TInt P t k2] [h2 : TInt P t' k'] : Ex P Be w0 H G e (.convert t t' x) ty (.int k' (k'.wrap n)) := by
  intro N a w o ho _ hf hh hG
  simp [execOp, ho, h N a hf hG, convert, run_underlying h1.int, run_underlying h2.int, Conv.intToInt]
theorem ex_convin {t t' : TypeId} {k k' k2 : IntKind} {x : Operand} {n : Int} (h : Ev G e x (.int k n)) [h1 : TInt P t k2] [h2 : TInt P t' k'] (hw : k'.wrap n = n) : Ex P Be w0 H G e (.convert t t' x) ty (.int k' n) := by
  have := ex_conv (P := P) (Be := Be) (w0 := w0) (H := H) (ty := ty) (t := t) (t' := t') h
  rwa [hw] at this
theorem ex_xor8 {t t' : TypeId} {x y : Operand} {m n : Nat} (h1 : Ev G e x (.int .u8 (m : Int))) (h2 : Ev G e y (.int .u8 (n : Int))) (hm : m < 256) (hn : n < 256) : Ex P Be w0 H G e (.binOp .xor t x y t') ty (.int .u8 ((m ^^^ n : Nat) : Int)) :=
  ex_int h1 h2 fun w => by rw [binOp_xor, intBits_xor, Go.u8_xor_nat m n hm hn]; rfl

/-- 's[a:b]' of a slice with room behind. -/
theorem ex_slice_lh {t el : TypeId} {x y z : Operand} {g off n c sz : Nat} {k k2 : IntKind} {l h : Nat} (h1 : Ev G e x (.slice (some ⟨g, off, none⟩) n c)) (h2 : Ev G e y (.int k (l : Int))) (h3 : Ev G e z (.int k2 (h : Int))) (hb : l ≤ h ∧ h ≤ c ∧ l < c) [ht : TSlice P t el] [hs : TSize P el sz] :
    Ex P Be w0 H G e (.slice t x (some y) (some z) none) ty (.slice (some ⟨g, off + l * sz, none⟩) (h - l) (c - l)) := by
  intro N a w o ho _ hf hh hG
  have he : P.elem t = el := by simp [Program.elem, ht.slice]
  simp only [execOp, ho, h1 N a hf hG, Option.map_none, Option.map_some, h2 N a hf hG, h3 N a hf hG, Instr.sliceAt, Sem.run_bind, run_underlying ht.slice, Result.andThen_ok]
  rw [run_slice_lh w t _ n c (by rw [he]; exact ht.slice) k k2 l h (by omega) (by omega) (by omega), he, hs.run w]
  have h4 : ¬ c = l := by omega
  simp [sliced, h4, addr_add]
theorem ex_sslice {t : TypeId} {x y z : Operand} {s : ByteArray} {k k2 : IntKind} {l h : Int} (h1 : Ev G e x (.string s)) (h2 : Ev G e y (.int k l)) (h3 : Ev G e z (.int k2 h)) (hb : 0 ≤ l ∧ l ≤ h ∧ h ≤ s.size) [ht : TStr P t] : Ex P Be w0 H G e (.slice t x (some y) (some z) none) ty (.string (s.extract l.toNat h.toNat)) := by
  intro N a w o ho _ hf hh hG
  simp only [execOp, ho, h1 N a hf hG, Option.map_none, Option.map_some, h2 N a hf hG, h3 N a hf hG, Instr.sliceAt, Sem.run_bind, run_underlying ht.str, Result.andThen_ok]
  rw [run_slice_string w t s k k2 l h ht.str hb.1 hb.2.1 hb.2.2]
  simp
theorem ex_sslice_h {t : TypeId} {x z : Operand} {s : ByteArray} {k2 : IntKind} {h : Int} (h1 : Ev G e x (.string s)) (h3 : Ev G e z (.int k2 h)) (hb : 0 ≤ h ∧ h ≤ s.size) [ht : TStr P t] : Ex P Be w0 H G e (.slice t x none (some z) none) ty (.string (s.extract 0 h.toNat)) := by
  intro N a w o ho _ hf hh hG
  simp only [execOp, ho, h1 N a hf hG, Option.map_none, Option.map_some, h3 N a hf hG, Instr.sliceAt, Sem.run_bind, run_underlying ht.str, Result.andThen_ok]
  rw [run_slice_string_h w t s ht.str k2 h hb.1 hb.2]
  simp
theorem ex_sslice_l {t : TypeId} {x z : Operand} {s : ByteArray} {k2 : IntKind} {h : Int} (h1 : Ev G e x (.string s)) (h3 : Ev G e z (.int k2 h)) (hb : 0 ≤ h ∧ h ≤ s.size) [ht : TStr P t] : Ex P Be w0 H G e (.slice t x (some z) none none) ty (.string (s.extract h.toNat s.size)) := by
  intro N a w o ho _ hf hh hG
  simp only [execOp, ho, h1 N a hf hG, Option.map_none, Option.map_some, h3 N a hf hG, Instr.sliceAt, Sem.run_bind, run_underlying ht.str, Result.andThen_ok]
  rw [run_slice_string_l w t s ht.str k2 h hb.1 hb.2]
  simp

/-- 'string(b)' where the cells behind b are the bytes of s. -/
theorem ex_bytes_str {t t' el : TypeId} {x : Operand} {g off n c : Nat} {cs : Array Value} {T : TypeId} {f : Nat × Nat} {s : ByteArray} (h : Ev G e x (.slice (some ⟨g, off, none⟩) n c)) (hm : Bk Be w0 H g (.cells cs T f)) (hn : s.size = n) (hs : ∀ j v, (byteCells s)[j]? = some v → cs[off + j]? = some v)
    [h1 : TSlice P t el] [h2 : TInt P el .u8] [h3 : TStr P t'] : Ex P Be w0 H G e (.convert t t' x) ty (.string s) := by
  intro N a w o ho _ hf hh hG
  subst hn
  have := run_convert_bytes_back (P := P) w t t' el ⟨g, off, none⟩ c s.data.toList h1.slice h2.int h3.str (fun j hj => by
    rw [addr_add]
    refine (hm.cell hh _).trans (hs j _ ?_)
    simp only [byteCells, List.getElem?_map, List.getElem?_eq_getElem hj, Option.map_some])
  have hlen : s.data.toList.length = s.size := by simp
  rw [hlen] at this
  simp only [execOp, ho, h N a hf hG, Sem.run_bind, this, Result.andThen_ok, Sem.run_pure]
/-- A part of a block, told. -/
theorem ex_loadpartE {t : TypeId} {x : Operand} {g i n : Nat} {cs cs' : Array Value} {T : TypeId} {f : Nat × Nat} (h : Ev G e x (.pointer (some ⟨g, i, none⟩))) (hm : Bk Be w0 H g (.cells cs T f)) (hn : cs'.size = n) (hc : (cs.toList.drop i).take n = cs'.toList) [TAgg P t] [TSize P t n] : Ex P Be w0 H G e (.load t x) ty (.agg cs') :=
  ex_loadn h hn fun w hh j v hj => by
    rw [addr_add]
    refine (hm.cell hh (i + j)).trans ?_
    have h1 : cs'.toList[j]? = some v := by simpa using hj
    rw [← hc, List.getElem?_take] at h1
    split at h1
    · rw [List.getElem?_drop] at h1; simpa using h1
    · cases h1
/-- Of an element of an own row. -/
theorem ex_loadelemO {α : Type} {C : α → Array Value} {t : TypeId} {x : Operand} {g i sz : Nat} {ad : Addr} {xs : List α} {y : α} {tail : List Value} {T : TypeId} {f : Nat × Nat} (h : Ev G e x (.pointer (some (ad.add (i * sz))))) (hA : ad = ⟨g, 0, none⟩) (hm : Bk Be w0 H g (.cells ((xs.flatMap fun x => (C x).toList) ++ tail).toArray T f))
    (hsz : ∀ x ∈ xs, (C x).size = sz) (hy : xs[i]? = some y) [TAgg P t] [hs : TSize P t sz] : Ex P Be w0 H G e (.load t x) ty (.agg (C y)) := by
  subst hA
  refine ex_loadn h (hsz y (List.mem_of_getElem? hy)) fun w hh j v hj => ?_
  rw [addr_add, addr_add]
  refine (hm.cell hh _).trans ?_
  have := flatMap_get (f := fun x => (C x).toList) (sz := sz) xs (fun x hx => by simpa using hsz x hx) i y hy j v (by simpa using hj)
  simp only [List.getElem?_toArray, Nat.zero_add]
  rw [List.getElem?_append_left (List.getElem?_eq_some_iff.1 this).1]
  exact this
theorem ex_loadfieldO {α : Type} {C : α → Array Value} {t : TypeId} {x : Operand} {g i k sz : Nat} {ad : Addr} {xs : List α} {y : α} {v : Value} {tail : List Value} {T : TypeId} {f : Nat × Nat} (h : Ev G e x (.pointer (some ((ad.add (i * sz)).add k)))) (hA : ad = ⟨g, 0, none⟩) (hm : Bk Be w0 H g (.cells ((xs.flatMap fun x => (C x).toList) ++ tail).toArray T f))
    (hsz : ∀ x ∈ xs, (C x).size = sz) (hy : xs[i]? = some y) (hv : (C y)[k]? = some v) [TCell P t] : Ex P Be w0 H G e (.load t x) ty v := by
  subst hA
  refine ex_load1 h fun w hh => ?_
  rw [addr_add, addr_add]
  refine (hm.cell hh _).trans ?_
  have := flatMap_get (f := fun x => (C x).toList) (sz := sz) xs (fun x hx => by simpa using hsz x hx) i y hy k v (by simpa using hv)
  simp only [List.getElem?_toArray, Nat.zero_add]
  rw [List.getElem?_append_left (List.getElem?_eq_some_iff.1 this).1]
  exact this
end
end Go.Sy
/-
  The layer 'Sy', maps: own maps that are made, read, written; keys that are strings, numbers.
-/
namespace Go.Sy
set_option linter.unusedVariables false
open Go.RowKit
set_option linter.unusedVariables false
set_option linter.unusedSimpArgs false

section
variable {K : Type} [DecidableEq K]
def ent (kv : K → Value) (e : K × Value × Nat) : MapEntry := { key := kv e.1, val := e.2.1, born := e.2.2 }
/-- A map's block. -/
def mobj (kv : K → Value) (es : List (K × Value × Nat)) (c : Nat) : Obj := .map (es.map (ent kv)).toArray c
def findL (k : K) : List (K × Value × Nat) → Nat → Option (Nat × Value)
  | [], _ => none
  | e :: es, i => if k = e.1 then some (i, e.2.1) else findL k es (i + 1)
def getL (k : K) : List (K × Value × Nat) → Option Value
  | [] => none
  | e :: es => if k = e.1 then some e.2.1 else getL k es
def putL (k : K) (v : Value) (c : Nat) : List (K × Value × Nat) → List (K × Value × Nat)
  | [] => [(k, v, c)]
  | e :: es => if k = e.1 then (k, v, e.2.2) :: es else e :: putL k v c es
def delL (k : K) : List (K × Value × Nat) → List (K × Value × Nat)
  | [] => []
  | e :: es => if k = e.1 then es else e :: delL k es
def tick (k : K) (c : Nat) (es : List (K × Value × Nat)) : Nat := if (getL k es).isSome then c else c + 1
theorem findL_spec (k : K) (v : Value) (c : Nat) : ∀ (es : List (K × Value × Nat)) (i : Nat),
    (findL k es i = none ∧ getL k es = none ∧ putL k v c es = es ++ [(k, v, c)] ∧ delL k es = es) ∨
    ∃ j e, findL k es i = some (i + j, e.2.1) ∧ es[j]? = some e ∧ e.1 = k ∧ getL k es = some e.2.1 ∧ putL k v c es = es.set j (k, v, e.2.2) ∧ delL k es = es.eraseIdx j
  | [], i => .inl ⟨rfl, rfl, rfl, rfl⟩
  | e :: es, i => by
    by_cases h : k = e.1
    · exact .inr ⟨0, e, by simp [findL, h], rfl, h.symm, by simp [getL, h], by simp [putL, h], by simp [delL, h]⟩
    · rcases findL_spec k v c es (i + 1) with ⟨h1, h2, h3, h4⟩ | ⟨j, e', h1, h2, h3, h4, h5, h6⟩
      · exact .inl ⟨by simp [findL, h, h1], by simp [getL, h, h2], by simp [putL, h, h3], by simp [delL, h, h4]⟩
      · exact .inr ⟨j + 1, e', by simp [findL, h, h1]; omega, by simpa using h2, h3, by simp [getL, h, h4], by simp [putL, h, h5], by simp [delL, h, h6]⟩
theorem getL_put (k k' : K) (v : Value) (c : Nat) : ∀ es : List (K × Value × Nat), getL k' (putL k v c es) = if k' = k then some v else getL k' es
  | [] => by simp [putL, getL]
  | e :: es => by
    by_cases h : k = e.1
    · by_cases h2 : k' = k
      · simp [putL, getL, h, h2]
      · have h3 : ¬ k' = e.1 := fun q => h2 (q.trans h.symm)
        simp [putL, getL, h, h2, h3]
        try (intro q; exact absurd q h3)
    · by_cases h2 : k' = e.1
      · have h3 : ¬ k' = k := fun q => h (q.symm.trans h2)
        simp [putL, getL, h, h2]
        try (intro q; exact absurd q.symm h)
      · simp [putL, getL, h, h2, getL_put k k' v c es]
/-- A type whose values are keys of maps, by what they stand for. -/
class TKey (P : Program) (t : TypeId) (kv : outParam (K → Value)) : Prop where
  check : ∀ (b : Bool) (k : K) (w : World), (Instr.checkKey b 10000 t (kv k)).run P w = .ok () w
  find : ∀ (k : K) (es : List (K × Value × Nat)) (w : World), (Instr.findKey t (kv k) (es.map (ent kv))).run P w = .ok (findL k es 0) w
  same : ∀ k, Instr.sameBits 10000 (kv k) (kv k) = true
end
instance TKey.str {P : Program} {t : TypeId} [ht : TStr P t] : TKey P t (K := ByteArray) .string where
  check b k w := MapKept.run_checkKey ht.str (k := .string k) (by simp [MapKept.IsKey]) b 9999
  find k es w := by
    refine MapKept.run_findKey ht.str ?_
    generalize 0 = i
    induction es generalizing i with
    | nil => rfl
    | cons e es ih =>
      simp only [List.map_cons, Instr.findNow, ent, Instr.sameNow, findL]
      have hbq : (k == e.1) = decide (k = e.1) := by rw [Bool.eq_iff_iff, MapKept.bytes_beq, decide_eq_true_iff]
      rw [hbq]
      by_cases h : k = e.1
      · rw [if_pos h, decide_eq_true h]
      · rw [if_neg h, decide_eq_false h]
        exact ih (i + 1)
  same k := by
    have : (k == k) = true := (MapKept.bytes_beq k k).2 rfl
    simp [Instr.sameBits, this]
instance TKey.int {P : Program} {t : TypeId} {q : IntKind} [ht : TInt P t q] : TKey P t (K := Int) (.int q) where
  check b k w := MapKept.run_checkKey ht.int (k := .int q k) (by simp [MapKept.IsKey]) b 9999
  find k es w := by
    refine MapKept.run_findKey ht.int ?_
    generalize 0 = i
    induction es generalizing i with
    | nil => rfl
    | cons e es ih =>
      simp only [List.map_cons, Instr.findNow, ent, Instr.sameNow, findL]
      by_cases h : k = e.1
      · rw [if_pos h, h]; simp
      · rw [if_neg h]
        have : (k == e.1) = false := by simpa using h
        simp only [if_true, this]
        exact ih (i + 1)
  same k := by simp [Instr.sameBits]

section
variable {P : Program} {Be : Nat} {w0 : World} {H : Heap} {G : Bool} {e : Env} {ty : TypeId} {K : Type} [DecidableEq K]
theorem run_lookupM {t tk te : TypeId} {z : Value} {kv : K → Value} {g c : Nat} {es : List (K × Value × Nat)} (k : K) (ok : Bool) {w : World} [ht : TMap P t tk te] [hk : TKey P tk kv] [hz : TZero P te z] (hb : w.heap[g]? = some (mobj kv es c)) :
    (Instr.lookup t (.map (some g)) (kv k) ok).run P w = .ok (if ok then .tuple #[(getL k es).getD z, .bool (getL k es).isSome] else (getL k es).getD z) w := by
  have h1 := hk.find k es w
  have h2 := hk.check (es.map (ent kv)).toArray.isEmpty k w
  simp only [Instr.lookup, Sem.run_bind, run_underlying ht.map, Result.andThen_ok, MapKept.run_getObj_map (hb : w.heap[g]? = some (.map _ _)), Sem.run_pure, h2, h1]
  rcases findL_spec k (.bool true) 0 es 0 with ⟨q1, q2, -, -⟩ | ⟨j, e, q1, -, -, q2, -, -⟩
  · rw [q1, q2]
    simp only [Sem.run_bind, hz.run w, Result.andThen_ok, Sem.run_pure]
    rfl
  · rw [q1, q2]
    simp only [Sem.run_pure, Result.andThen_ok]
    rfl
theorem ex_lookup {t tk te : TypeId} {z : Value} {x y : Operand} {kv : K → Value} {g c : Nat} {es : List (K × Value × Nat)} {k : K} {v : Value} [ht : TMap P t tk te] [hk : TKey P tk kv] [hz : TZero P te z] (hv : (getL k es).getD z = v) (h : Ev G e x (.map (some g))) (h2 : Ev G e y (kv k)) (hm : Bk Be w0 H g (mobj kv es c)) :
    Ex P Be w0 H G e (.lookup t x y false) ty v := by
  subst hv
  intro N a w o ho _ hf hh hG
  simp only [execOp, ho, h N a hf hG, h2 N a hf hG, Sem.run_bind, run_lookupM (ht := ht) (hk := hk) (hz := hz) k false (hm w hh), Result.andThen_ok, Sem.run_pure]
  rfl
theorem ex_lookupOk {t tk te : TypeId} {z : Value} {x y : Operand} {kv : K → Value} {g c : Nat} {es : List (K × Value × Nat)} {k : K} {v : Value} {b : Bool} [ht : TMap P t tk te] [hk : TKey P tk kv] [hz : TZero P te z] (hv : (getL k es).getD z = v) (hb : (getL k es).isSome = b) (h : Ev G e x (.map (some g))) (h2 : Ev G e y (kv k)) (hm : Bk Be w0 H g (mobj kv es c)) :
    Ex P Be w0 H G e (.lookup t x y true) ty (.tuple #[v, .bool b]) := by
  subst hv
  subst hb
  intro N a w o ho _ hf hh hG
  simp only [execOp, ho, h N a hf hG, h2 N a hf hG, Sem.run_bind, run_lookupM (ht := ht) (hk := hk) (hz := hz) k true (hm w hh), Result.andThen_ok, Sem.run_pure]
  rfl
end
theorem Hp.setObj {Be : Nat} {w0 w : World} {H H' : Heap} {g : Nat} {o o' : Obj} (h : Hp Be w0 H w) (hu : Upd H g o o' H') : Hp Be w0 H' { w with heap := w.heap.setIfInBounds g o' } :=
  h.upd hu rfl rfl rfl (by simp) (fun k _ hk => (MapKept.heap_set (h.own _ hu.mem)).2 k hk) (MapKept.heap_set (h.own _ hu.mem)).1
section
variable {P : Program} {N Be : Nat} {Q : Post} {e : Env} {w0 : World} {H : Heap} {ops : Array Oper} {rest : List Oper} {ty : TypeId} {pos : String} {after : Array Edge} {d : Nat} {K : Type} [DecidableEq K]
theorem spl_makeMap {t : TypeId} (hN : Nat.blt d N = true)
    (k : ∀ g, w0.heap.size ≤ g → Spl P N Be ops Q rest ((d, true, .map (some g)) :: e) w0 ((g, .map #[] 0) :: H)) :
    Spl P N Be ops Q (⟨some d, .makeMap t none, ty, pos, after, none⟩ :: rest) e w0 H := by
  intro a w hf hh
  have hd : d < N := by simpa [Nat.blt_eq] using hN
  refine wpList_plain rfl fun K hK => ?_
  have hr : (execOp a.eval ⟨some d, .makeMap t none, ty, pos, after, none⟩).run P w = .ok (.value (.map (some w.heap.size))) (w.alloc (.map #[] 0)) := rfl
  unfold Oper.wp
  rw [hr, Oper.upon_value]
  exact hK _ _ (k _ hh.size _ _ (hf.puttrue hd) (hh.alloc _))
theorem run_mapUpdateM {t tk te : TypeId} {kv : K → Value} {g c : Nat} {es : List (K × Value × Nat)} (k : K) (v : Value) {w : World} [ht : TMap P t tk te] [hk : TKey P tk kv] (hb : w.heap[g]? = some (mobj kv es c)) :
    (Instr.mapUpdate t (.map (some g)) (kv k) v).run P w = .ok () { w with heap := w.heap.setIfInBounds g (mobj kv (putL k v c es) (tick k c es)) } := by
  have h1 := hk.find k es w
  have h2 := hk.check false k w
  have hb' : w.heap[g]? = some (.map (es.map (ent kv)).toArray c) := hb
  simp only [Instr.mapUpdate, Sem.run_bind, run_underlying ht.map, Result.andThen_ok, MapKept.run_getObj_map hb', h2, h1]
  rcases findL_spec k v c es 0 with ⟨q1, q2, q3, -⟩ | ⟨j, e, q1, qj, qe, q2, q3, -⟩
  · rw [q1]
    simp only
    rw [MapKept.run_setObj_map _ hb']
    have : (es.map (ent kv)).toArray.push { key := kv k, val := v, born := c } = ((putL k v c es).map (ent kv)).toArray := by
      rw [q3]; simp [ent]
    rw [this]
    unfold mobj tick
    rw [q2]
    all_goals rfl
  · rw [q1]
    simp only [Nat.zero_add]
    have hj : j < es.length := (List.getElem?_eq_some_iff.1 qj).1
    have hkey : (((es.map (ent kv)).toArray[j]?).map (·.key)).getD (kv k) = kv k := by
      simp only [List.getElem?_toArray, List.getElem?_map, qj, Option.map_some, ent, qe, Option.getD_some]
    have hst : (Instr.keyThatStays (kv k) (kv k)).run P w = .ok (kv k) w := by simp [Instr.keyThatStays, hk.same k]
    rw [hkey]
    simp only [Sem.run_bind, hst, Result.andThen_ok]
    rw [MapKept.run_setObj_map _ hb']
    have : ((es.map (ent kv)).toArray.modify j fun e => { e with key := kv k, val := v }) = ((putL k v c es).map (ent kv)).toArray := by
      rw [q3]
      apply Array.ext'
      simp only [Array.toList_modify, List.map_set, ent]
      apply List.ext_getElem?
      intro i
      simp only [List.getElem?_modify, List.getElem?_set, List.getElem?_map, List.length_map]
      by_cases hij : j = i
      · subst hij
        have hge : es[j] = e := by rw [List.getElem?_eq_getElem hj] at qj; exact Option.some.inj qj
        simp [hj]
        rw [hge]; rfl
      · simp [hij]
    rw [this]
    unfold mobj tick
    rw [q2]
    all_goals rfl
theorem spl_mapUpdate {t tk te : TypeId} {x y z : Operand} {kv : K → Value} {g c : Nat} {es : List (K × Value × Nat)} {k : K} {v : Value} {H' : Heap} [ht : TMap P t tk te] [hk : TKey P tk kv] (h : Ev true e x (.map (some g))) (h2 : Ev true e y (kv k)) (h3 : Ev true e z v)
    (hu : Upd H g (mobj kv es c) (mobj kv (putL k v c es) (tick k c es)) H') (kk : Spl P N Be ops Q rest e w0 H') :
    Spl P N Be ops Q (⟨none, .mapUpdate t x y z, ty, pos, after, none⟩ :: rest) e w0 H := by
  intro a w hf hh
  refine wpList_plain rfl fun K hK => ?_
  have hr : (execOp a.eval ⟨none, .mapUpdate t x y z, ty, pos, after, none⟩).run P w = .ok .skip { w with heap := w.heap.setIfInBounds g (mobj kv (putL k v c es) (tick k c es)) } := by
    simp only [execOp, h N a hf rfl, h2 N a hf rfl, h3 N a hf rfl, Sem.run_bind, run_mapUpdateM (ht := ht) (hk := hk) k v (hh.own _ hu.mem), Result.andThen_ok, Sem.run_pure]
  unfold Oper.wp
  rw [hr, Oper.upon_skip]
  exact hK _ _ (kk _ _ hf.putnone (hh.setObj hu))
theorem spl_insert {t tk te : TypeId} {x y z : Operand} {kv : K → Value} {g c : Nat} {es : List (K × Value × Nat)} {k : K} {v : Value} {H' : Heap} [ht : TMap P t tk te] [hk : TKey P tk kv] (h : Ev true e x (.map (some g))) (h2 : Ev true e y (kv k)) (h3 : Ev true e z v)
    (hu : Upd H g (mobj kv es c) (mobj kv (putL k v c es) (tick k c es)) H') (kk : Spl P N Be ops Q rest e w0 H') :
    Spl P N Be ops Q (⟨none, .insert t x y z, ty, pos, after, none⟩ :: rest) e w0 H := by
  intro a w hf hh
  refine wpList_plain rfl fun K hK => ?_
  have hr : (execOp a.eval ⟨none, .insert t x y z, ty, pos, after, none⟩).run P w = .ok .skip { w with heap := w.heap.setIfInBounds g (mobj kv (putL k v c es) (tick k c es)) } := by
    simp only [execOp, h N a hf rfl, h2 N a hf rfl, h3 N a hf rfl, Sem.run_bind, run_mapUpdateM (ht := ht) (hk := hk) k v (hh.own _ hu.mem), Result.andThen_ok, Sem.run_pure]
  unfold Oper.wp
  rw [hr, Oper.upon_skip]
  exact hK _ _ (kk _ _ hf.putnone (hh.setObj hu))
end
section
variable {P : Program} {N Be : Nat} {Q : Post} {e : Env} {w0 : World} {H : Heap} {ops : Array Oper} {rest : List Oper} {ty : TypeId} {pos : String} {after : Array Edge} {d : Nat}
/-- A guarded call of a function value. -/
theorem spl_callv_g {c : Operand} {f : FuncId} {first cap : List Value} {xs : List Operand} {ts : Array TypeId} {vs : List Value} {v : Value} {g : Option (Nat × Bool)} {G : Bool} [TFn P f] (hN : Nat.blt d N = true) (hg : Gd ops e g G) (hcv : Ev G e c (.func (.func f) first.toArray cap.toArray)) (hx : Evs G e xs vs)
    (hc : G = true → ∀ w, Hp Be w0 H w → Calls P f (first ++ vs ++ cap).toArray w (Ret w v))
    (k : Spl P N Be ops Q rest ((d, G, v) :: e) w0 H) : Spl P N Be ops Q (⟨some d, .call ⟨.value c, xs.toArray, ts⟩, ty, pos, after, g⟩ :: rest) e w0 H := by
  intro a w hf hh
  have hd : d < N := by simpa [Nat.blt_eq] using hN
  refine wpList_step fun K hK => ?_
  rw [hg N a _ hf rfl]
  cases hG : G with
  | true =>
    rw [if_pos rfl]
    unfold Oper.wp
    rw [exec_call (f := f) rfl (hcv N a hf hG) (hx N a hf hG), Oper.upon_enter]
    simp only [List.append_toArray]
    refine (hc hG w hh).mono ?_
    rintro en w' ⟨rfl, hb⟩
    refine hK _ _ (k _ _ ?_ (hh.below hb))
    rw [hG]; exact hf.puttrue hd
  | false =>
    rw [if_neg (by simp)]
    refine hK _ _ (k _ _ ?_ hh)
    rw [hG]; exact hf.put (g := false) hd
end
end Go.Sy
