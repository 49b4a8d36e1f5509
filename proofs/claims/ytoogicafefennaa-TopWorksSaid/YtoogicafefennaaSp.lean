/-
  The layer 'Sy', maps: own maps that are made, read, written; keys that are strings, numbers.
-/
import Derived.Test.YtoogicafefennaaSm
import Derived.Carry
import Derived.MapKept
namespace Go.Sy
open Go.RowKit
set_option linter.unusedVariables false
set_option linter.unusedSimpArgs false

section
variable {K : Type} [DecidableEq K]
def ent (kv : K → Value) (e : K × Value × Nat) : MapEntry := { key := kv e.1, val := e.2.1, born := e.2.2 }
/-- A map's block. -/
def mobj (kv : K → Value) (es : List (K × Value × Nat)) (c : Nat) : Obj := .map (es.map (ent kv)).toArray c
def findL (k : K) : List (K × Value × Nat) → Nat → Option (Nat × Value)
  | [], _ => none
  | e :: es, i => if k = e.1 then some (i, e.2.1) else findL k es (i + 1)
def getL (k : K) : List (K × Value × Nat) → Option Value
  | [] => none
  | e :: es => if k = e.1 then some e.2.1 else getL k es
def putL (k : K) (v : Value) (c : Nat) : List (K × Value × Nat) → List (K × Value × Nat)
  | [] => [(k, v, c)]
  | e :: es => if k = e.1 then (k, v, e.2.2) :: es else e :: putL k v c es
def delL (k : K) : List (K × Value × Nat) → List (K × Value × Nat)
  | [] => []
  | e :: es => if k = e.1 then es else e :: delL k es
def tick (k : K) (c : Nat) (es : List (K × Value × Nat)) : Nat := if (getL k es).isSome then c else c + 1
theorem findL_spec (k : K) (v : Value) (c : Nat) : ∀ (es : List (K × Value × Nat)) (i : Nat),
    (findL k es i = none ∧ getL k es = none ∧ putL k v c es = es ++ [(k, v, c)] ∧ delL k es = es) ∨
    ∃ j e, findL k es i = some (i + j, e.2.1) ∧ es[j]? = some e ∧ e.1 = k ∧ getL k es = some e.2.1 ∧ putL k v c es = es.set j (k, v, e.2.2) ∧ delL k es = es.eraseIdx j
  | [], i => .inl ⟨rfl, rfl, rfl, rfl⟩
  | e :: es, i => by
    by_cases h : k = e.1
    · exact .inr ⟨0, e, by simp [findL, h], rfl, h.symm, by simp [getL, h], by simp [putL, h], by simp [delL, h]⟩
    · rcases findL_spec k v c es (i + 1) with ⟨h1, h2, h3, h4⟩ | ⟨j, e', h1, h2, h3, h4, h5, h6⟩
      · exact .inl ⟨by simp [findL, h, h1], by simp [getL, h, h2], by simp [putL, h, h3], by simp [delL, h, h4]⟩
      · exact .inr ⟨j + 1, e', by simp [findL, h, h1]; omega, by simpa using h2, h3, by simp [getL, h, h4], by simp [putL, h, h5], by simp [delL, h, h6]⟩
theorem getL_put (k k' : K) (v : Value) (c : Nat) : ∀ es : List (K × Value × Nat), getL k' (putL k v c es) = if k' = k then some v else getL k' es
  | [] => by simp [putL, getL]
  | e :: es => by
    by_cases h : k = e.1
    · by_cases h2 : k' = k
      · simp [putL, getL, h, h2]
      · have h3 : ¬ k' = e.1 := fun q => h2 (q.trans h.symm)
        simp [putL, getL, h, h2, h3]
        try (intro q; exact absurd q h3)
    · by_cases h2 : k' = e.1
      · have h3 : ¬ k' = k := fun q => h (q.symm.trans h2)
        simp [putL, getL, h, h2]
        try (intro q; exact absurd q.symm h)
      · simp [putL, getL, h, h2, getL_put k k' v c es]
/-- A type whose values are keys of maps, by what they stand for. -/
class TKey (P : Program) (t : TypeId) (kv : outParam (K → Value)) : Prop where
  check : ∀ (b : Bool) (k : K) (w : World), (Instr.checkKey b 10000 t (kv k)).run P w = .ok () w
  find : ∀ (k : K) (es : List (K × Value × Nat)) (w : World), (Instr.findKey t (kv k) (es.map (ent kv))).run P w = .ok (findL k es 0) w
  same : ∀ k, Instr.sameBits 10000 (kv k) (kv k) = true
end
instance TKey.str {P : Program} {t : TypeId} [ht : TStr P t] : TKey P t (K := ByteArray) .string where
  check b k w := MapKept.run_checkKey ht.str (k := .string k) (by simp [MapKept.IsKey]) b 9999
  find k es w := by
    refine MapKept.run_findKey ht.str ?_
    generalize 0 = i
    induction es generalizing i with
    | nil => rfl
    | cons e es ih =>
      simp only [List.map_cons, Instr.findNow, ent, Instr.sameNow, findL]
      have hbq : (k == e.1) = decide (k = e.1) := by rw [Bool.eq_iff_iff, MapKept.bytes_beq, decide_eq_true_iff]
      rw [hbq]
      by_cases h : k = e.1
      · rw [if_pos h, decide_eq_true h]
      · rw [if_neg h, decide_eq_false h]
        exact ih (i + 1)
  same k := by
    have : (k == k) = true := (MapKept.bytes_beq k k).2 rfl
    simp [Instr.sameBits, this]
instance TKey.int {P : Program} {t : TypeId} {q : IntKind} [ht : TInt P t q] : TKey P t (K := Int) (.int q) where
  check b k w := MapKept.run_checkKey ht.int (k := .int q k) (by simp [MapKept.IsKey]) b 9999
  find k es w := by
    refine MapKept.run_findKey ht.int ?_
    generalize 0 = i
    induction es generalizing i with
    | nil => rfl
    | cons e es ih =>
      simp only [List.map_cons, Instr.findNow, ent, Instr.sameNow, findL]
      by_cases h : k = e.1
      · rw [if_pos h, h]; simp
      · rw [if_neg h]
        have : (k == e.1) = false := by simpa using h
        simp only [if_true, this]
        exact ih (i + 1)
  same k := by simp [Instr.sameBits]

section
variable {P : Program} {Be : Nat} {w0 : World} {H : Heap} {G : Bool} {e : Env} {ty : TypeId} {K : Type} [DecidableEq K]
theorem run_lookupM {t tk te : TypeId} {z : Value} {kv : K → Value} {g c : Nat} {es : List (K × Value × Nat)} (k : K) (ok : Bool) {w : World} [ht : TMap P t tk te] [hk : TKey P tk kv] [hz : TZero P te z] (hb : w.heap[g]? = some (mobj kv es c)) :
    (Instr.lookup t (.map (some g)) (kv k) ok).run P w = .ok (if ok then .tuple #[(getL k es).getD z, .bool (getL k es).isSome] else (getL k es).getD z) w := by
  have h1 := hk.find k es w
  have h2 := hk.check (es.map (ent kv)).toArray.isEmpty k w
  simp only [Instr.lookup, Sem.run_bind, run_underlying ht.map, Result.andThen_ok, MapKept.run_getObj_map (hb : w.heap[g]? = some (.map _ _)), Sem.run_pure, h2, h1]
  rcases findL_spec k (.bool true) 0 es 0 with ⟨q1, q2, -, -⟩ | ⟨j, e, q1, -, -, q2, -, -⟩
  · rw [q1, q2]
    simp only [Sem.run_bind, hz.run w, Result.andThen_ok, Sem.run_pure]
    rfl
  · rw [q1, q2]
    simp only [Sem.run_pure, Result.andThen_ok]
    rfl
theorem ex_lookup {t tk te : TypeId} {z : Value} {x y : Operand} {kv : K → Value} {g c : Nat} {es : List (K × Value × Nat)} {k : K} {v : Value} [ht : TMap P t tk te] [hk : TKey P tk kv] [hz : TZero P te z] (hv : (getL k es).getD z = v) (h : Ev G e x (.map (some g))) (h2 : Ev G e y (kv k)) (hm : Bk Be w0 H g (mobj kv es c)) :
    Ex P Be w0 H G e (.lookup t x y false) ty v := by
  subst hv
  intro N a w o ho _ hf hh hG
  simp only [execOp, ho, h N a hf hG, h2 N a hf hG, Sem.run_bind, run_lookupM (ht := ht) (hk := hk) (hz := hz) k false (hm w hh), Result.andThen_ok, Sem.run_pure]
  rfl
theorem ex_lookupOk {t tk te : TypeId} {z : Value} {x y : Operand} {kv : K → Value} {g c : Nat} {es : List (K × Value × Nat)} {k : K} {v : Value} {b : Bool} [ht : TMap P t tk te] [hk : TKey P tk kv] [hz : TZero P te z] (hv : (getL k es).getD z = v) (hb : (getL k es).isSome = b) (h : Ev G e x (.map (some g))) (h2 : Ev G e y (kv k)) (hm : Bk Be w0 H g (mobj kv es c)) :
    Ex P Be w0 H G e (.lookup t x y true) ty (.tuple #[v, .bool b]) := by
  subst hv
  subst hb
  intro N a w o ho _ hf hh hG
  simp only [execOp, ho, h N a hf hG, h2 N a hf hG, Sem.run_bind, run_lookupM (ht := ht) (hk := hk) (hz := hz) k true (hm w hh), Result.andThen_ok, Sem.run_pure]
  rfl
end
theorem Hp.setObj {Be : Nat} {w0 w : World} {H H' : Heap} {g : Nat} {o o' : Obj} (h : Hp Be w0 H w) (hu : Upd H g o o' H') : Hp Be w0 H' { w with heap := w.heap.setIfInBounds g o' } :=
  h.upd hu rfl rfl rfl (by simp) (fun k _ hk => (MapKept.heap_set (h.own _ hu.mem)).2 k hk) (MapKept.heap_set (h.own _ hu.mem)).1
section
variable {P : Program} {N Be : Nat} {Q : Post} {e : Env} {w0 : World} {H : Heap} {ops : Array Oper} {rest : List Oper} {ty : TypeId} {pos : String} {after : Array Edge} {d : Nat} {K : Type} [DecidableEq K]
theorem spl_makeMap {t : TypeId} (hN : Nat.blt d N = true)
    (k : ∀ g, w0.heap.size ≤ g → Spl P N Be ops Q rest ((d, true, .map (some g)) :: e) w0 ((g, .map #[] 0) :: H)) :
    Spl P N Be ops Q (⟨some d, .makeMap t none, ty, pos, after, none⟩ :: rest) e w0 H := by
  intro a w hf hh
  have hd : d < N := by simpa [Nat.blt_eq] using hN
  refine wpList_plain rfl fun K hK => ?_
  have hr : (execOp a.eval ⟨some d, .makeMap t none, ty, pos, after, none⟩).run P w = .ok (.value (.map (some w.heap.size))) (w.alloc (.map #[] 0)) := rfl
  unfold Oper.wp
  rw [hr, Oper.upon_value]
  exact hK _ _ (k _ hh.size _ _ (hf.puttrue hd) (hh.alloc _))
theorem run_mapUpdateM {t tk te : TypeId} {kv : K → Value} {g c : Nat} {es : List (K × Value × Nat)} (k : K) (v : Value) {w : World} [ht : TMap P t tk te] [hk : TKey P tk kv] (hb : w.heap[g]? = some (mobj kv es c)) :
    (Instr.mapUpdate t (.map (some g)) (kv k) v).run P w = .ok () { w with heap := w.heap.setIfInBounds g (mobj kv (putL k v c es) (tick k c es)) } := by
  have h1 := hk.find k es w
  have h2 := hk.check false k w
  have hb' : w.heap[g]? = some (.map (es.map (ent kv)).toArray c) := hb
  simp only [Instr.mapUpdate, Sem.run_bind, run_underlying ht.map, Result.andThen_ok, MapKept.run_getObj_map hb', h2, h1]
  rcases findL_spec k v c es 0 with ⟨q1, q2, q3, -⟩ | ⟨j, e, q1, qj, qe, q2, q3, -⟩
  · rw [q1]
    simp only
    rw [MapKept.run_setObj_map _ hb']
    have : (es.map (ent kv)).toArray.push { key := kv k, val := v, born := c } = ((putL k v c es).map (ent kv)).toArray := by
      rw [q3]; simp [ent]
    rw [this]
    unfold mobj tick
    rw [q2]
    rfl
  · rw [q1]
    simp only [Nat.zero_add]
    have hj : j < es.length := (List.getElem?_eq_some_iff.1 qj).1
    have hkey : (((es.map (ent kv)).toArray[j]?).map (·.key)).getD (kv k) = kv k := by
      simp only [List.getElem?_toArray, List.getElem?_map, qj, Option.map_some, ent, qe, Option.getD_some]
    have hst : (Instr.keyThatStays (kv k) (kv k)).run P w = .ok (kv k) w := by simp [Instr.keyThatStays, hk.same k]
    rw [hkey]
    simp only [Sem.run_bind, hst, Result.andThen_ok]
    rw [MapKept.run_setObj_map _ hb']
    have : ((es.map (ent kv)).toArray.modify j fun e => { e with key := kv k, val := v }) = ((putL k v c es).map (ent kv)).toArray := by
      rw [q3]
      apply Array.ext'
      simp only [Array.toList_modify, List.map_set, ent]
      apply List.ext_getElem?
      intro i
      simp only [List.getElem?_modify, List.getElem?_set, List.getElem?_map, List.length_map]
      by_cases hij : j = i
      · subst hij
        have hge : es[j] = e := by rw [List.getElem?_eq_getElem hj] at qj; exact Option.some.inj qj
        simp [hj]
        rw [hge]; rfl
      · simp [hij]
    rw [this]
    unfold mobj tick
    rw [q2]
    rfl
theorem spl_mapUpdate {t tk te : TypeId} {x y z : Operand} {kv : K → Value} {g c : Nat} {es : List (K × Value × Nat)} {k : K} {v : Value} {H' : Heap} [ht : TMap P t tk te] [hk : TKey P tk kv] (h : Ev true e x (.map (some g))) (h2 : Ev true e y (kv k)) (h3 : Ev true e z v)
    (hu : Upd H g (mobj kv es c) (mobj kv (putL k v c es) (tick k c es)) H') (kk : Spl P N Be ops Q rest e w0 H') :
    Spl P N Be ops Q (⟨none, .mapUpdate t x y z, ty, pos, after, none⟩ :: rest) e w0 H := by
  intro a w hf hh
  refine wpList_plain rfl fun K hK => ?_
  have hr : (execOp a.eval ⟨none, .mapUpdate t x y z, ty, pos, after, none⟩).run P w = .ok .skip { w with heap := w.heap.setIfInBounds g (mobj kv (putL k v c es) (tick k c es)) } := by
    simp only [execOp, h N a hf rfl, h2 N a hf rfl, h3 N a hf rfl, Sem.run_bind, run_mapUpdateM (ht := ht) (hk := hk) k v (hh.own _ hu.mem), Result.andThen_ok, Sem.run_pure]
  unfold Oper.wp
  rw [hr, Oper.upon_skip]
  exact hK _ _ (kk _ _ hf.putnone (hh.setObj hu))
theorem spl_insert {t tk te : TypeId} {x y z : Operand} {kv : K → Value} {g c : Nat} {es : List (K × Value × Nat)} {k : K} {v : Value} {H' : Heap} [ht : TMap P t tk te] [hk : TKey P tk kv] (h : Ev true e x (.map (some g))) (h2 : Ev true e y (kv k)) (h3 : Ev true e z v)
    (hu : Upd H g (mobj kv es c) (mobj kv (putL k v c es) (tick k c es)) H') (kk : Spl P N Be ops Q rest e w0 H') :
    Spl P N Be ops Q (⟨none, .insert t x y z, ty, pos, after, none⟩ :: rest) e w0 H := by
  intro a w hf hh
  refine wpList_plain rfl fun K hK => ?_
  have hr : (execOp a.eval ⟨none, .insert t x y z, ty, pos, after, none⟩).run P w = .ok .skip { w with heap := w.heap.setIfInBounds g (mobj kv (putL k v c es) (tick k c es)) } := by
    simp only [execOp, h N a hf rfl, h2 N a hf rfl, h3 N a hf rfl, Sem.run_bind, run_mapUpdateM (ht := ht) (hk := hk) k v (hh.own _ hu.mem), Result.andThen_ok, Sem.run_pure]
  unfold Oper.wp
  rw [hr, Oper.upon_skip]
  exact hK _ _ (kk _ _ hf.putnone (hh.setObj hu))
end
section
variable {P : Program} {N Be : Nat} {Q : Post} {e : Env} {w0 : World} {H : Heap} {ops : Array Oper} {rest : List Oper} {ty : TypeId} {pos : String} {after : Array Edge} {d : Nat}
/-- A guarded call of a function value. -/
theorem spl_callv_g {c : Operand} {f : FuncId} {first cap : List Value} {xs : List Operand} {ts : Array TypeId} {vs : List Value} {v : Value} {g : Option (Nat × Bool)} {G : Bool} [TFn P f] (hN : Nat.blt d N = true) (hg : Gd ops e g G) (hcv : Ev G e c (.func (.func f) first.toArray cap.toArray)) (hx : Evs G e xs vs)
    (hc : G = true → ∀ w, Hp Be w0 H w → Calls P f (first ++ vs ++ cap).toArray w (Ret w v))
    (k : Spl P N Be ops Q rest ((d, G, v) :: e) w0 H) : Spl P N Be ops Q (⟨some d, .call ⟨.value c, xs.toArray, ts⟩, ty, pos, after, g⟩ :: rest) e w0 H := by
  intro a w hf hh
  have hd : d < N := by simpa [Nat.blt_eq] using hN
  refine wpList_step fun K hK => ?_
  rw [hg N a _ hf rfl]
  cases hG : G with
  | true =>
    rw [if_pos rfl]
    unfold Oper.wp
    rw [exec_call (f := f) rfl (hcv N a hf hG) (hx N a hf hG), Oper.upon_enter]
    simp only [List.append_toArray]
    refine (hc hG w hh).mono ?_
    rintro en w' ⟨rfl, hb⟩
    refine hK _ _ (k _ _ ?_ (hh.below hb))
    rw [hG]; exact hf.puttrue hd
  | false =>
    rw [if_neg (by simp)]
    refine hK _ _ (k _ _ ?_ hh)
    rw [hG]; exact hf.put (g := false) hd
end
end Go.Sy
