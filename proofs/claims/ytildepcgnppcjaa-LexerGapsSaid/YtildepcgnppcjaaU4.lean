/-
  Rules for reading the tokens that Lex hands back, and for comparing them.
-/
import Derived.Test.YtildepcgnppcjaaU3
namespace Go.Proofs.Ytildepcgnppcjaa
open Go.RowKit Go.Sy
set_option linter.unusedVariables false
set_option linter.unusedSimpArgs false
theorem mem_hp {p : Nat × Obj} {A R : Heap} (h : p ∈ A) : p ∈ A ++ R := List.mem_append_left _ h
section
variable {Be : Nat} {w0 : World} {H : Heap} {G : Bool} {e : Env} {ty t' : TypeId} {x y : Operand} {s t : Tk}
theorem ex_tkneq (h1 : Ev G e x (.agg (tkC s))) (h2 : Ev G e y (.agg (tkC t))) : Ex Try.prog Be w0 H G e (.binOp .neq 31 x y t') ty (.bool (!tkEq s t)) := by
  intro N a w o ho _ hf hh hG
  have hm : Try.prog.eqGuardType Try.prog.depth 31 = false := by kernel_rfl
  simp only [execOp, ho, h1 N a hf hG, h2 N a hf hG, Sem.run_bind, run_eqGuard_agg w _ _ _ _ _ _ hm, Result.andThen_ok, run_neq_struct, tkEq_run s t w, Sem.run_pure]
theorem ex_tkneF (h1 : Ev G e x (.agg (tkC s))) (h2 : Ev G e y (.agg (tkC t))) (h : s = t) : Ex Try.prog Be w0 H G e (.binOp .neq 31 x y t') ty (.bool false) := by
  have := ex_tkneq (Be := Be) (w0 := w0) (H := H) (ty := ty) (t' := t') h1 h2
  rwa [h, tkEq_refl] at this
theorem ex_tkeqB {b : Bool} (h : tkEq s t = b) (h1 : Ev G e x (.agg (tkC s))) (h2 : Ev G e y (.agg (tkC t))) : Ex Try.prog Be w0 H G e (.binOp .eql 31 x y t') ty (.bool b) := by
  have := ex_tkeql (Be := Be) (w0 := w0) (H := H) (ty := ty) (t' := t') h1 h2
  rwa [h] at this
/-- A token of a row. -/
theorem ex_tkload {t : TypeId} {i : Nat} {l : List Tk} {g cap : Nat} {tl : List Value} (h : Ev G e x (.pointer (some ((⟨g, 0, none⟩ : Addr).add (i * 3))))) (hx : (RowS.mk (some g) cap tl).ok 3 l.length (flatT l)) (hn : l.length ≤ 9223372036854775807)
    (hs : (g, Obj.cells (flatT l ++ tl).toArray 31 (0, 0)) ∈ H) {y : Tk} (hy : l[i]? = some y) [TAgg Try.prog t] [hz : TSize Try.prog t 3] : Ex Try.prog Be w0 H G e (.load t x) ty (.agg (tkC y)) :=
  ex_loadelemH (ad := ⟨g, 0, none⟩) h (fun w hh => row_rd (x := ⟨some g, cap, tl⟩) hx hn (fun p hp => by cases hp with | head => exact hs | tail _ h => cases h) w hh) rfl rfl hy
end
section
variable {P : Program} {Be : Nat} {w0 : World} {H : Heap} {G : Bool} {e : Env} {ty t t' : TypeId} {x y z : Operand} {k : IntKind} {m n : Int}
/-! Tests whose answer is known. -/
theorem ex_eqlF (h : m ≠ n) (h1 : Ev G e x (.int k m)) (h2 : Ev G e y (.int k n)) : Ex P Be w0 H G e (.binOp .eql t x y t') ty (.bool false) := by
  have := ex_eql (P := P) (Be := Be) (w0 := w0) (H := H) (ty := ty) (t := t) (t' := t') h1 h2
  rwa [decide_eq_false h] at this
theorem ex_eqlT (h : m = n) (h1 : Ev G e x (.int k m)) (h2 : Ev G e y (.int k n)) : Ex P Be w0 H G e (.binOp .eql t x y t') ty (.bool true) := by
  have := ex_eql (P := P) (Be := Be) (w0 := w0) (H := H) (ty := ty) (t := t) (t' := t') h1 h2
  rwa [decide_eq_true h] at this
theorem ex_neqT (h : m ≠ n) (h1 : Ev G e x (.int k m)) (h2 : Ev G e y (.int k n)) : Ex P Be w0 H G e (.binOp .neq t x y t') ty (.bool true) := by
  have := ex_neq (P := P) (Be := Be) (w0 := w0) (H := H) (ty := ty) (t := t) (t' := t') h1 h2
  rwa [decide_eq_false h] at this
theorem ex_neqF (h : m = n) (h1 : Ev G e x (.int k m)) (h2 : Ev G e y (.int k n)) : Ex P Be w0 H G e (.binOp .neq t x y t') ty (.bool false) := by
  have := ex_neq (P := P) (Be := Be) (w0 := w0) (H := H) (ty := ty) (t := t) (t' := t') h1 h2
  rwa [decide_eq_true h] at this
theorem ex_geqT (h : m ≥ n) (h1 : Ev G e x (.int k m)) (h2 : Ev G e y (.int k n)) : Ex P Be w0 H G e (.binOp .geq t x y t') ty (.bool true) := by
  have := ex_geq (P := P) (Be := Be) (w0 := w0) (H := H) (ty := ty) (t := t) (t' := t') h1 h2
  rwa [decide_eq_true (show n ≤ m from h)] at this
theorem ex_remE {m n q : Nat} (hq : m % n = q) (hn : n ≠ 0) (h1 : Ev G e x (.int k (m : Int))) (h2 : Ev G e y (.int k (n : Int))) : Ex P Be w0 H G e (.binOp .rem t x y t') ty (.int k (q : Int)) := by
  have := ex_rem (P := P) (Be := Be) (w0 := w0) (H := H) (ty := ty) (t := t) (t' := t') h1 h2 (by omega)
  rwa [show (m : Int).tmod (n : Int) = (q : Int) from by rw [← hq]; rfl] at this
theorem ex_ssliceE {s r : ByteArray} {k k2 : IntKind} {l h : Int} (hr : s.extract l.toNat h.toNat = r) (hb : 0 ≤ l ∧ l ≤ h ∧ h ≤ s.size) (h1 : Ev G e x (.string s)) (h2 : Ev G e y (.int k l)) (h3 : Ev G e z (.int k2 h)) [ht : TStr P t] : Ex P Be w0 H G e (.slice t x (some y) (some z) none) ty (.string r) := by
  have := ex_sslice (P := P) (Be := Be) (w0 := w0) (H := H) (ty := ty) (t := t) h1 h2 h3 hb
  rwa [hr] at this
end
theorem rd_drop {α : Type} {w : World} {Be sz n c l : Nat} {C : α → Array Value} {A : Option Addr} {xs : List α} (h : RdS w Be sz C A n xs) (hl : l ≤ n) (hc : n ≤ c) : RdS w Be sz C (if c = l then A else A.map (·.add (l * sz))) (n - l) (xs.drop l) :=
  ⟨by rw [List.length_drop, h.len], by have := h.bound; omega, fun i x hx => by
    rw [List.getElem?_drop] at hx
    have hi := (List.getElem?_eq_some_iff.1 hx).1
    rw [h.len] at hi
    obtain ⟨ad, e, hb, hs, hcc⟩ := h.elems _ x hx
    subst e
    refine ⟨ad.add (l * sz), by rw [if_neg (by omega)]; rfl, by rw [block_add]; exact hb, hs, fun j v hj => ?_⟩
    rw [show (ad.add (l * sz)).add (i * sz) = ad.add ((l + i) * sz) by rw [add_add', Nat.add_mul]]
    exact hcc j v hj⟩
theorem ex_slice_l {P : Program} {Be : Nat} {w0 : World} {H : Heap} {G : Bool} {e : Env} {ty t el : TypeId} {x y : Operand} {A : Option Addr} {n c sz l : Nat} {k : IntKind} (hb : l ≤ n) (h1 : Ev G e x (.slice A n c)) (h2 : Ev G e y (.int k (l : Int))) [ht : TSlice P t el] [hs : TSize P el sz] :
    Ex P Be w0 H G e (.slice t x (some y) none none) ty (.slice (if c = l then A else A.map (·.add (l * sz))) (n - l) (c - l)) := by
  intro N a w o ho _ hf hh hG
  have he : P.elem t = el := by simp [Program.elem, ht.slice]
  simp only [execOp, ho, h1 N a hf hG, Option.map_none, Option.map_some, h2 N a hf hG, Instr.sliceAt, Sem.run_bind, run_underlying ht.slice, Result.andThen_ok]
  rw [run_slice_l w t _ n c (by rw [he]; exact ht.slice) k l (by omega) (by omega), he, hs.run w]
  simp [sliced]
/-- What Lex hands back, read. -/
theorem row_rdB {w w' : World} {x : RowS} {l : List Tk} (hok : x.ok 3 l.length (flatT l)) (hn : l.length ≤ 9223372036854775807) {Be : Nat} {H : Heap} (hs : ∀ p ∈ x.hp (flatT l) 31, p ∈ H) (hh : Hp Be w H w') : RdS w' w'.heap.size 3 tkC (x.g.map fun g => ⟨g, 0, none⟩) l.length l := row_rd hok hn hs w' hh
theorem row_cap {x : RowS} {l : List Tk} (hok : x.ok 3 l.length (flatT l)) : l.length ≤ x.cap := by
  rcases x with ⟨_ | g, cap, tl⟩
  · obtain ⟨h, -, -⟩ := hok; omega
  · exact hok.1
theorem ex_lss_dead {P : Program} {Be : Nat} {w0 : World} {H : Heap} {G : Bool} {e : Env} {ty t t' : TypeId} {x y : Operand} (h : G = false) : Ex P Be w0 H G e (.binOp .lss t x y t') ty (.bool false) := fun _ _ _ _ _ _ _ _ hG => by rw [h] at hG; cases hG
theorem ex_gtrT {P : Program} {Be : Nat} {w0 : World} {H : Heap} {G : Bool} {e : Env} {ty t t' : TypeId} {x y : Operand} {k : IntKind} {m n : Int} (h : n < m) (h1 : Ev G e x (.int k m)) (h2 : Ev G e y (.int k n)) : Ex P Be w0 H G e (.binOp .gtr t x y t') ty (.bool true) := by
  have := ex_gtr (P := P) (Be := Be) (w0 := w0) (H := H) (ty := ty) (t := t) (t' := t') h1 h2
  rwa [decide_eq_true h] at this
end Go.Proofs.Ytildepcgnppcjaa
