/-
  The frame of a law: what the values handed in read as (records, rows, texts, numbers), and that an argument still reads the same after a call that wrote nothing old.
-/
import Derived.Test.YtoogicafefennaaSd
import Derived.ProofKit
import Derived.OpenShut
import Derived.ShutString
import Derived.ChangeOld
import Derived.Carry
import Derived.Deep.Slices
namespace Go.Sy
open Go.RowKit Go.ChangeShapes Go.WideShapes Go.ChangeAt
set_option linter.unusedVariables false

theorem cell_lt' {w : World} {a : Addr} {v : Value} (h : w.cell? a = some v) : a.block < w.heap.size := by
  rcases Nat.lt_or_ge a.block w.heap.size with h' | h'
  · exact h'
  · simp [World.cell?, Array.getElem?_eq_none h'] at h

/-- These cells read as a value of type t. -/
def Fo (P : Program) (w : World) (t : TypeId) (cs : List Value) : Prop :=
  ∃ (H : Type) (enc : TypeId × Value → H) (fuel : Nat) (x : DataW H × List MemPlace), DataW.trod enc P w 0 (fun _ => true) true fuel t cs = some x

section
variable {P : Program} {w : World} {t e : TypeId} {cs : List Value}
theorem Fo.ofTrod {H : Type} {enc : TypeId × Value → H} {v : Value} {d : DataW H} {ps : List MemPlace} (h : DataW.Trod enc P w 0 (fun _ => true) true t v d ps) : Fo P w t v.cells.toList := by
  obtain ⟨n, hn⟩ := h
  exact ⟨H, enc, n, _, hn⟩
theorem Fo.string (ht : P.underlying t = some .string) (h : Fo P w t cs) : ∃ s : ByteArray, cs = [.string s] ∧ s.size ≤ maxLen := by
  obtain ⟨H, enc, n, x, h⟩ := h
  obtain ⟨s, h1, _, h2⟩ := DataW.trod_string ht h
  exact ⟨s, h1, h2⟩
theorem Fo.int {k : IntKind} (ht : P.underlying t = some (.int k)) (h : Fo P w t cs) : ∃ n : Int, cs = [.int k n] ∧ (Lit.int k n).wf = true := by
  obtain ⟨H, enc, n, x, h⟩ := h
  obtain ⟨s, h1, _, h2⟩ := DataW.trod_int ht h
  exact ⟨s, h1, h2⟩
theorem Fo.bool (ht : P.underlying t = some .bool) (h : Fo P w t cs) : ∃ b : Bool, cs = [.bool b] := by
  obtain ⟨H, enc, n, x, h⟩ := h
  obtain ⟨s, h1, _⟩ := DataW.trod_bool ht h
  exact ⟨s, h1⟩
theorem Fo.struct {fs : Array Field} (ht : P.underlying t = some (.struct fs)) (h : Fo P w t cs) :
    cs.length = P.cellsOf t ∧ ∀ (i : Nat) (f : Field), fs[i]? = some f → ∀ k, P.cellsOf f.type = k → Fo P w f.type ((cs.drop f.offset).take k) := by
  obtain ⟨H, enc, n, x, h⟩ := h
  obtain ⟨xs, n, _, _, h1, h2, h3⟩ := DataW.trod_struct ht h
  refine ⟨h1, fun i f hf k hk => ?_⟩
  subst hk
  have hi : i < xs.length := by rw [h2]; exact (Array.getElem?_eq_some_iff.1 hf).1
  exact ⟨H, enc, n, _, (h3 i f hf).trans (List.getElem?_eq_getElem hi)⟩
theorem Fo.slice {α : Type} {sz : Nat} {C : α → Array Value} {Q : α → Prop} (ht : P.underlying t = some (.slice e)) (hsz : P.cellsOf e = sz) (hpos : Nat.blt 0 sz = true) (hel : ∀ cs, Fo P w e cs → ∃ x, cs = (C x).toList ∧ Q x) (h : Fo P w t cs) :
    ∃ (A : Option Addr) (n c : Nat) (xs : List α), cs = [.slice A n c] ∧ n ≤ c ∧ c ≤ maxLen ∧ RdS w w.heap.size sz C A n xs ∧ ∀ x ∈ xs, Q x := by
  obtain ⟨H, enc, fuel, x, h⟩ := h
  have hpos' : 0 < sz := by simpa [Nat.blt_eq] using hpos
  rcases Go.Deep.open_slice ht h with ⟨h1, _⟩ | ⟨a, len, cap, m, n, D, Pl, h1, hb, hl, hm, hmm, _, hx⟩
  · exact ⟨none, 0, 0, [], h1, Nat.le_refl _, Nat.zero_le _, RdS.none_, fun x hx => by cases hx⟩
  · have hlm : len ≤ m := by rw [hmm]; simp; omega
    have one : ∀ i, i < len → ∃ y : α, ∃ cs', cs' = (C y).toList ∧ Q y ∧ w.cells? 0 (a.add (i * sz)) sz = some cs' := by
      intro i hi
      obtain ⟨cs', h2, h3⟩ := hx i (by omega)
      obtain ⟨y, hy, hq⟩ := hel cs' ⟨H, enc, n, _, h3⟩
      rw [hsz] at h2
      exact ⟨y, cs', hy, hq, h2⟩
    have all : ∀ k, k ≤ len → ∃ xs : List α, xs.length = k ∧ ∀ i y, xs[i]? = some y → ∃ cs', cs' = (C y).toList ∧ Q y ∧ w.cells? 0 (a.add (i * sz)) sz = some cs' := by
      intro k
      induction k with
      | zero => exact fun _ => ⟨[], rfl, fun i y hy => by simp at hy⟩
      | succ k ih =>
        intro hk
        obtain ⟨xs, hl, hxs⟩ := ih (by omega)
        obtain ⟨y, hy⟩ := one k (by omega)
        refine ⟨xs ++ [y], by simp [hl], fun i z hz => ?_⟩
        by_cases hi : i < xs.length
        · rw [List.getElem?_append_left hi] at hz; exact hxs i z hz
        · have hik : i = k := by
            have := (List.getElem?_eq_some_iff.1 hz).1
            simp at this; omega
          subst hik
          rw [List.getElem?_append_right (by omega), hl] at hz
          simp at hz; subst hz
          exact hy
    obtain ⟨xs, hxl, hxs⟩ := all len (Nat.le_refl _)
    refine ⟨some a, len, cap, xs, h1, hl, hm, ⟨hxl, by unfold maxLen at hm; omega, fun i y hy => ?_⟩, fun y hy => ?_⟩
    · obtain ⟨cs', rfl, hq, hc⟩ := hxs i y hy
      obtain ⟨h5, h6, h7⟩ := World.cells?_some hc
      have hs : (C y).size = sz := by simpa using h6
      refine ⟨a, rfl, ?_, hs, fun j v hj => ?_⟩
      · have h8 := h7 0 hpos'
        rw [List.getElem?_eq_getElem (by omega)] at h8
        have h9 := cell_lt' h8
        rwa [block_add, block_add] at h9
      · obtain ⟨hj1, _⟩ := Array.getElem?_eq_some_iff.1 hj
        rw [h7 j (by omega)]
        simpa using hj
    · obtain ⟨i, hi⟩ := List.getElem?_of_mem hy
      obtain ⟨_, _, hq, _⟩ := hxs i y hi
      exact hq

theorem agg_of {v : Value} {k : Nat} {l : List Value} (hv : ∃ cs, v = .agg cs ∧ cs.size = k) (he : v.cells.toList = l) : v = .agg l.toArray := by
  obtain ⟨cs, rfl, _⟩ := hv
  have he' : cs.toList = l := he
  rw [← he']
theorem slice_of {v : Value} {A : Option Addr} {n c : Nat} (hv : ∃ a len cap, v = .slice a len cap) (he : v.cells.toList = [.slice A n c]) : v = .slice A n c := by
  obtain ⟨a, len, cap, rfl⟩ := hv
  exact (List.cons.inj he).1

/-- After a call that wrote nothing old, all arguments read as before. -/
theorem trodAll_below {H : Type} {enc : TypeId × Value → H} {W W' : World} (hl : laidOutB P = true) (hb : Below W.heap.size W W') :
    ∀ {ts : List TypeId} {vs : List Value} {ds : List (DataW H)} {ps : List MemPlace}, ts.all (fun t => P.readableRec t && decide (t < P.types.size)) = true →
      DataW.TrodAll enc P W 0 (fun _ => true) true ts vs ds ps → DataW.TrodAll enc P W' 0 (fun b => decide (b < W.heap.size)) true ts vs ds ps := by
  intro ts
  induction ts with
  | nil =>
    intro vs ds ps _ h
    obtain ⟨rfl, rfl, rfl⟩ := trodAll_nil h
    rfl
  | cons t ts ih =>
    intro vs ds ps hts h
    simp only [List.all_cons, Bool.and_eq_true, decide_eq_true_eq] at hts
    obtain ⟨v, vs', d, ds', p, q, rfl, rfl, rfl, h0, h1⟩ := trodAll_cons h
    refine trodAll_cons_mk (Below.trod hl hts.1.1 hts.1.2 h0 hb fun x hx => ?_) (ih hts.2 h1)
    obtain ⟨m, hm⟩ := h0
    exact DataW.trod_lt m _ _ _ hm x hx
end
end Go.Sy
