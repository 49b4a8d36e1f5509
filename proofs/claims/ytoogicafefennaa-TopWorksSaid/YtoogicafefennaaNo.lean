/-
  The map of the tasks that end at an hour, in memory.
-/
import Derived.Test.YtoogicafefennaaNm
namespace Go.Proofs.Ytoogicafefennaa
open Go.RowKit Go.Sy
set_option linter.unusedVariables false
set_option linter.unusedSimpArgs false
structure Ent where
  h : Nat
  ts : List Nat
  r : RowS
  born : Nat
def entK (e : Ent) : Int × Value × Nat := ((e.h : Int), e.r.val e.ts.length, e.born)
def entP (e : Ent) : Nat × List Nat := (e.h, e.ts)
def entH (e : Ent) : Heap := e.r.hp (e.ts.map iv) 3
def rowsH (es : List Ent) : Heap := es.flatMap entH
def getE (h : Nat) : List Ent → List Nat × RowS
  | [] => ([], RowS.start)
  | e :: r => if h = e.h then (e.ts, e.r) else getE h r
def delE (h : Nat) : List Ent → List Ent
  | [] => []
  | e :: r => if h = e.h then r else e :: delE h r
def putE (h : Nat) (ts : List Nat) (r : RowS) (c : Nat) : List Ent → List Ent
  | [] => [⟨h, ts, r, c⟩]
  | e :: q => if h = e.h then ⟨h, ts, r, e.born⟩ :: q else e :: putE h ts r c q
theorem ieq {a b : Nat} : ((a : Int) = (b : Int)) ↔ a = b := by omega
theorem getE_K (h : Nat) : ∀ es : List Ent, (getL (h : Int) (es.map entK)).getD (.slice none 0 0) = (getE h es).2.val (getE h es).1.length
  | [] => rfl
  | e :: r => by
    simp only [List.map_cons, getL, getE, entK]
    by_cases hh : h = e.h
    · rw [if_pos (ieq.2 hh), if_pos hh]; rfl
    · rw [if_neg (fun q => hh (ieq.1 q)), if_neg hh]; exact getE_K h r
theorem getE_P (h : Nat) : ∀ es : List Ent, eGet h (es.map entP) = (getE h es).1
  | [] => rfl
  | e :: r => by
    simp only [List.map_cons, eGet, getE, entP]
    by_cases hh : h = e.h
    · rw [if_pos hh, if_pos hh]
    · rw [if_neg hh, if_neg hh]; exact getE_P h r
theorem delE_K (h : Nat) : ∀ es : List Ent, delL (h : Int) (es.map entK) = (delE h es).map entK
  | [] => rfl
  | e :: r => by
    simp only [List.map_cons, delL, delE, entK]
    by_cases hh : h = e.h
    · rw [if_pos (ieq.2 hh), if_pos hh]
    · rw [if_neg (fun q => hh (ieq.1 q)), if_neg hh, List.map_cons, ← delE_K h r]; rfl
theorem delE_P (h : Nat) : ∀ es : List Ent, eDel h (es.map entP) = (delE h es).map entP
  | [] => rfl
  | e :: r => by
    simp only [List.map_cons, eDel, delE, entP]
    by_cases hh : h = e.h
    · rw [if_pos hh, if_pos hh]
    · rw [if_neg hh, if_neg hh, List.map_cons, ← delE_P h r]; rfl
theorem putE_K (h : Nat) (ts : List Nat) (r : RowS) (c : Nat) : ∀ es : List Ent, putL (h : Int) (r.val ts.length) c (es.map entK) = (putE h ts r c es).map entK
  | [] => rfl
  | e :: q => by
    simp only [List.map_cons, putL, putE, entK]
    by_cases hh : h = e.h
    · rw [if_pos (ieq.2 hh), if_pos hh]; rfl
    · rw [if_neg (fun q => hh (ieq.1 q)), if_neg hh, List.map_cons, ← putE_K h ts r c q]; rfl
theorem putE_P (h i : Nat) (r : RowS) (c : Nat) : ∀ es : List Ent, ePut h i (es.map entP) = (putE h ((getE h es).1 ++ [i]) r c es).map entP
  | [] => rfl
  | e :: q => by
    simp only [List.map_cons, ePut, putE, getE, entP]
    by_cases hh : h = e.h
    · rw [if_pos hh, if_pos hh, if_pos hh]; rfl
    · rw [if_neg hh, if_neg hh, if_neg hh, List.map_cons, ← putE_P h i r c q]; rfl
theorem rowsH_get (h : Nat) : ∀ es : List Ent, (rowsH es).Perm ((getE h es).2.hp ((getE h es).1.map iv) 3 ++ rowsH (delE h es))
  | [] => List.Perm.refl _
  | e :: r => by
    simp only [getE, delE]
    by_cases hh : h = e.h
    · rw [if_pos hh, if_pos hh]; exact List.Perm.refl _
    · rw [if_neg hh, if_neg hh]
      have ih := rowsH_get h r
      show (entH e ++ rowsH r).Perm (_ ++ (entH e ++ rowsH (delE h r)))
      refine (ih.append_left _).trans ?_
      rw [← List.append_assoc, ← List.append_assoc]
      exact List.perm_append_comm.append_right _
theorem rowsH_put (h : Nat) (ts : List Nat) (r : RowS) (c : Nat) : ∀ es : List Ent, (rowsH (putE h ts r c es)).Perm (r.hp (ts.map iv) 3 ++ rowsH (delE h es))
  | [] => List.Perm.refl _
  | e :: q => by
    simp only [putE, delE]
    by_cases hh : h = e.h
    · rw [if_pos hh, if_pos hh]; exact List.Perm.refl _
    · rw [if_neg hh, if_neg hh]
      have ih := rowsH_put h ts r c q
      show (entH e ++ rowsH (putE h ts r c q)).Perm (_ ++ (entH e ++ rowsH (delE h q)))
      refine (ih.append_left _).trans ?_
      rw [← List.append_assoc, ← List.append_assoc]
      exact List.perm_append_comm.append_right _
/-- The rows are as they should be, and new. -/
def EntsOk (b : Nat) (es : List Ent) : Prop := ∀ e ∈ es, e.r.ok 1 e.ts.length (e.ts.map iv) ∧ e.r.fresh b
theorem EntsOk.get {b : Nat} : ∀ {es : List Ent} (h : Nat), EntsOk b es → (getE h es).2.ok 1 (getE h es).1.length ((getE h es).1.map iv) ∧ (getE h es).2.fresh b
  | [], _, _ => ⟨RowS.ok_start, RowS.fresh_start⟩
  | e :: r, h, hok => by
    simp only [getE]
    split
    · exact hok e (.head _)
    · exact EntsOk.get h fun x hx => hok x (.tail _ hx)
theorem delE_sub (h : Nat) : ∀ (es : List Ent), ∀ x ∈ delE h es, x ∈ es
  | [], x, hx => hx
  | e :: r, x, hx => by
    simp only [delE] at hx
    split at hx
    · exact .tail _ hx
    · rcases List.mem_cons.1 hx with rfl | q
      · exact .head _
      · exact .tail _ (delE_sub h r x q)
theorem EntsOk.del {b h : Nat} {es : List Ent} (hok : EntsOk b es) : EntsOk b (delE h es) := fun e he => hok e (delE_sub h es e he)
theorem EntsOk.put {b h c : Nat} {ts : List Nat} {r : RowS} (h1 : r.ok 1 ts.length (ts.map iv)) (h2 : r.fresh b) : ∀ {es : List Ent}, EntsOk b es → EntsOk b (putE h ts r c es)
  | [], _ => fun e he => by
    rcases List.mem_cons.1 he with rfl | q
    · exact ⟨h1, h2⟩
    · cases q
  | e :: q, hok => by
    simp only [putE]
    split
    · intro x hx
      rcases List.mem_cons.1 hx with rfl | hx
      · exact ⟨h1, h2⟩
      · exact hok x (.tail _ hx)
    · intro x hx
      rcases List.mem_cons.1 hx with rfl | hx
      · exact hok _ (.head _)
      · exact EntsOk.put h1 h2 (fun y hy => hok y (.tail _ hy)) x hx
theorem EntsOk.drop {w : World} {es : List Ent} (hok : EntsOk w.heap.size es) : ∀ p ∈ rowsH es, w.heap.size ≤ p.1 := by
  intro p hp
  obtain ⟨e, he, hpe⟩ := List.mem_flatMap.1 hp
  exact RowS.drop (hok e he).2 p hpe
theorem HKeep.permH {w0 : World} {H H2 H' : Heap} (hp : H.Perm H2) (h : HKeep w0 H2 H') : HKeep w0 H H' := by
  obtain ⟨D, h1, h2⟩ := h
  exact ⟨D, h1.trans (hp.symm.append_left D), h2⟩
theorem Perm.tailH {A B C : Heap} (h : B.Perm C) : (A ++ B).Perm (A ++ C) := h.append_left A
theorem mobj_nilI : (Obj.map #[] 0) = mobj (K := Int) (Value.int .i64) [] 0 := rfl
section
variable {P : Program} {Be : Nat} {w0 : World} {H : Heap} {G : Bool} {e : Env} {ty : TypeId}
/-- 's[1:]' of an own row of elements of one cell. -/
theorem ex_tail1 {t el : TypeId} {x y : Operand} {g off n c : Nat} {k : IntKind} (h1 : Ev G e x (.slice (some ⟨g, off, none⟩) n c)) (h2 : Ev G e y (.int k 1)) (hb : 1 ≤ n ∧ n ≤ c) [ht : TSlice P t el] [hs : TSize P el 1] :
    Ex P Be w0 H G e (.slice t x (some y) none none) ty (.slice (some ⟨g, if c = 1 then off else off + 1, none⟩) (n - 1) (c - 1)) := by
  have h2' : Ev G e y (.int k ((1 : Nat) : Int)) := h2
  by_cases hc : c = 1
  · rw [if_pos hc]; exact ex_slice_l0 h1 h2' hb hc
  · rw [if_neg hc]; exact ex_slice_l1 h1 h2' hb (by omega)
end
theorem OwnS.tail {off n c : Nat} {cs : Array Value} {x : Nat} {xs : List Nat} (h : OwnS off n c cs (x :: xs)) : OwnS (if c = 1 then off else off + 1) (n - 1) (c - 1) cs xs := by
  have hl := h.len
  have hr := h.room
  have hf := h.fit
  simp only [List.length_cons] at hl
  refine ⟨by omega, ?_, by omega, fun j y hj => ?_⟩
  · split <;> omega
  · have hj2 := (List.getElem?_eq_some_iff.1 hj).1
    rw [if_neg (by omega), show off + 1 + j = off + (j + 1) by omega]
    exact h.cell (j + 1) y (by simpa using hj)
theorem Split.of {H A R : Heap} (h : H.Perm (A ++ R)) : Split H A R := h
theorem Split.rem {H H1 A R : Heap} {g : Nat} {o : Obj} (h : Rem H g o H1) (h2 : Split H1 A R) : Split H ((g, o) :: A) R := by
  have h1 := h.perm
  exact h1.trans (List.Perm.cons _ h2)
structure Halt (p : Prop) : Prop where
  out : p
theorem halt_at {P : Program} {N Be : Nat} {Q : Post} {e : Env} {w0 : World} {H : Heap} {c1 c2 : Code} (j : Nat) (v : Value) (hj : Go.Sy.look e j = some (true, v)) (h : Halt (Spc P N Be (.seq c1 c2) Q e w0 H)) : Spc P N Be (.seq c1 c2) Q e w0 H := h.out
end Go.Proofs.Ytoogicafefennaa
