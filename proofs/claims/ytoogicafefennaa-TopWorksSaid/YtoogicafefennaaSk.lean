/-
  Further operations: elements of one cell, copies between rows, room made by append, capacities, arrays by value, maps with an entry less.
-/
import Derived.Test.YtoogicafefennaaSp
import Derived.Test.YtoogicafefennaaSw
import Derived.Test.YtoogicafefennaaSx
import Derived.Lib.AppendZerosOnto
import Derived.Lib.Overlaps
namespace Go.Sy
open Go.RowKit
set_option linter.unusedVariables false
set_option linter.unusedSimpArgs false
theorem HKeep.dropAll {w0 : World} {A : Heap} (hA : ∀ p ∈ A, w0.heap.size ≤ p.1) : HKeep w0 [] A := by
  have := HKeep.dropA hA (HKeep.nil (w0 := w0))
  rwa [List.append_nil] at this
theorem RowS.fresh_of {r : RowS} {xs : List Value} {T : TypeId} {b : Nat} (h : ∀ p ∈ r.hp xs T, b ≤ p.1) : r.fresh b := by
  rcases r with ⟨_ | g, cap, tail⟩
  · intro g hg; cases hg
  · intro g' hg
    cases hg
    exact h (g, .cells (xs ++ tail).toArray T (0, 0)) (List.mem_singleton.2 rfl)
section
variable {P : Program} {Be : Nat} {w0 : World} {H : Heap} {G : Bool} {e : Env} {ty : TypeId}
/-- The address of an element of one cell. -/
theorem ex_indexAddr1 {t el : TypeId} {x y : Operand} {k : IntKind} {i : Nat} {g off n c : Nat} (h : Ev G e x (.slice (some ⟨g, off, none⟩) n c)) (h2 : Ev G e y (.int k i)) (hi : i < n) [ht : TSlice P t el] [hs : TSize P el 1] :
    Ex P Be w0 H G e (.indexAddr t x y) ty (.pointer (some ⟨g, off + i, none⟩)) := by
  have := ex_indexAddrO (P := P) (Be := Be) (w0 := w0) (H := H) (ty := ty) (t := t) (sz := 1) h h2 hi
  rwa [Nat.mul_one] at this
theorem ex_indexAddr0 {t el : TypeId} {x y : Operand} {k : IntKind} {i : Nat} {g n c : Nat} (h : Ev G e x (.slice (some ⟨g, 0, none⟩) n c)) (h2 : Ev G e y (.int k i)) (hi : i < n) [ht : TSlice P t el] [hs : TSize P el 1] :
    Ex P Be w0 H G e (.indexAddr t x y) ty (.pointer (some ⟨g, i, none⟩)) := by
  have := ex_indexAddr1 (P := P) (Be := Be) (w0 := w0) (H := H) (ty := ty) (t := t) h h2 hi
  rwa [Nat.zero_add] at this
theorem ex_cap {x : Operand} {A : Option Addr} {n c : Nat} {t el : TypeId} (h : Ev G e x (.slice A n c)) [ht : TSlice P t el] : Ex P Be w0 H G e (.call ⟨.builtin .cap, #[x], #[t]⟩) ty (.int .i64 c) := by
  intro N a w o ho _ hf hh hG
  simp [execOp, ho, h N a hf hG, resolve, invoke, builtin, Builtin.cap_, run_underlying ht.slice, goInt]
end
section
variable {P : Program} {N Be : Nat} {Q : Post} {e : Env} {w0 : World} {H : Heap} {ops : Array Oper} {rest : List Oper} {ty : TypeId} {pos : String} {after : Array Edge} {d : Nat}
/-- A store of one cell, told. -/
theorem spl_store1E {t : TypeId} {x y : Operand} {g i : Nat} {cs cs' : Array Value} {T : TypeId} {v : Value} {H' : Heap} (hcs : cs.setIfInBounds i v = cs') (hx : Ev true e x (.pointer (some ⟨g, i, none⟩))) (hy : Ev true e y v) (hv : v.oneCell' = true) [hs : TSize P t 1]
    (hu : Upd H g (.cells cs T (0, 0)) (.cells cs' T (0, 0)) H') (hi : i < cs.size) (k : Spl P N Be ops Q rest e w0 H') :
    Spl P N Be ops Q (⟨none, .store t x y, ty, pos, after, none⟩ :: rest) e w0 H := by
  subst hcs
  exact spl_store1 hx hy hv hu (by simpa [Nat.blt_eq] using hi) k
/-- 'copy(a, b)' of elements of one cell into an own row. -/
theorem spl_copyC {dT sT el : TypeId} {x y : Operand} {g off n c m c2 : Nat} {A : Option Addr} {cs cs' : Array Value} {T : TypeId} {vs : List Value} {H' : Heap} [ht : TSlice P dT el] [hz : TSize P el 1] (hN : Nat.blt d N = true) (hx : Ev true e x (.slice (some ⟨g, off, none⟩) n c)) (hy : Ev true e y (.slice A m c2))
    (hsrc : ∀ w, Hp Be w0 H w → CellsAt w A vs) (hl : vs.length = Nat.min m n) (hpos : 0 < vs.length) (h1 : ∀ v ∈ vs, v.oneCell' = true) (hcs : setL cs off vs = cs') (hu : Upd H g (.cells cs T (0, 0)) (.cells cs' T (0, 0)) H') (hfit : off + vs.length ≤ cs.size)
    (k : Spl P N Be ops Q rest ((d, true, .int .i64 vs.length) :: e) w0 H') :
    Spl P N Be ops Q (⟨some d, .call ⟨.builtin .copy, #[x, y], #[dT, sT]⟩, ty, pos, after, none⟩ :: rest) e w0 H := by
  subst hcs
  intro a w hf hh
  have hd : d < N := by simpa [Nat.blt_eq] using hN
  refine wpList_plain rfl fun K hK => ?_
  have hg : w.heap[g]? = some (.cells cs T (0, 0)) := hh.own _ hu.mem
  have hs := hsrc w hh
  obtain ⟨b, rfl⟩ : ∃ b, A = some b := by
    obtain ⟨b, hb, _⟩ := hs 0 vs[0] (List.getElem?_eq_getElem hpos)
    exact ⟨b, hb⟩
  have hr0 := run_copy_cells (P := P) w dT sT ty el g off n c b m c2 vs ht.slice hz.size hl (fun j v hj => by obtain ⟨b', hb', hc⟩ := hs j v hj; cases hb'; exact hc)
    (fun j hj => by simp only [World.cell?, hg]; simp; omega) (fun j hj => by simp [World.frozen?, hg]) h1
  have hr : (execOp a.eval ⟨some d, .call ⟨.builtin .copy, #[x, y], #[dT, sT]⟩, ty, pos, after, none⟩).run P w = .ok (.value (.int .i64 vs.length)) (w.setCells g off vs) := by
    simp only [execOp, resolve, invoke, builtin, hx N a hf rfl, hy N a hf rfl, hr0, Sem.run_bind, Sem.run_pure, Result.andThen_ok, List.map_toArray, List.map_cons, List.map_nil]
    rfl
  unfold Oper.wp
  rw [hr, Oper.upon_value]
  exact hK _ _ (k _ _ (hf.puttrue hd) (Hp.setCells vs off cs w H H' hh hu))
end
section
variable {P : Program} {Be : Nat} {w0 : World} {H : Heap} {G : Bool} {e : Env} {ty t t' : TypeId} {x y z : Operand} {k : IntKind} {m n : Int}
/-! Tests whose answer is known. -/
theorem ex_eqlF (h : m ≠ n) (h1 : Ev G e x (.int k m)) (h2 : Ev G e y (.int k n)) : Ex P Be w0 H G e (.binOp .eql t x y t') ty (.bool false) := by
  have := ex_eql (P := P) (Be := Be) (w0 := w0) (H := H) (ty := ty) (t := t) (t' := t') h1 h2
  rwa [decide_eq_false h] at this
theorem ex_eqlT (h : m = n) (h1 : Ev G e x (.int k m)) (h2 : Ev G e y (.int k n)) : Ex P Be w0 H G e (.binOp .eql t x y t') ty (.bool true) := by
  have := ex_eql (P := P) (Be := Be) (w0 := w0) (H := H) (ty := ty) (t := t) (t' := t') h1 h2
  rwa [decide_eq_true h] at this
theorem ex_neqT (h : m ≠ n) (h1 : Ev G e x (.int k m)) (h2 : Ev G e y (.int k n)) : Ex P Be w0 H G e (.binOp .neq t x y t') ty (.bool true) := by
  have := ex_neq (P := P) (Be := Be) (w0 := w0) (H := H) (ty := ty) (t := t) (t' := t') h1 h2
  rwa [decide_eq_false h] at this
theorem ex_neqF (h : m = n) (h1 : Ev G e x (.int k m)) (h2 : Ev G e y (.int k n)) : Ex P Be w0 H G e (.binOp .neq t x y t') ty (.bool false) := by
  have := ex_neq (P := P) (Be := Be) (w0 := w0) (H := H) (ty := ty) (t := t) (t' := t') h1 h2
  rwa [decide_eq_true h] at this
theorem ex_geqT (h : n ≤ m) (h1 : Ev G e x (.int k m)) (h2 : Ev G e y (.int k n)) : Ex P Be w0 H G e (.binOp .geq t x y t') ty (.bool true) := by
  have := ex_geq (P := P) (Be := Be) (w0 := w0) (H := H) (ty := ty) (t := t) (t' := t') h1 h2
  rwa [decide_eq_true h] at this
theorem ex_geqF (h : ¬ n ≤ m) (h1 : Ev G e x (.int k m)) (h2 : Ev G e y (.int k n)) : Ex P Be w0 H G e (.binOp .geq t x y t') ty (.bool false) := by
  have := ex_geq (P := P) (Be := Be) (w0 := w0) (H := H) (ty := ty) (t := t) (t' := t') h1 h2
  rwa [decide_eq_false h] at this
theorem ex_gtrT (h : n < m) (h1 : Ev G e x (.int k m)) (h2 : Ev G e y (.int k n)) : Ex P Be w0 H G e (.binOp .gtr t x y t') ty (.bool true) := by
  have := ex_gtr (P := P) (Be := Be) (w0 := w0) (H := H) (ty := ty) (t := t) (t' := t') h1 h2
  rwa [decide_eq_true h] at this
theorem ex_gtrF (h : ¬ n < m) (h1 : Ev G e x (.int k m)) (h2 : Ev G e y (.int k n)) : Ex P Be w0 H G e (.binOp .gtr t x y t') ty (.bool false) := by
  have := ex_gtr (P := P) (Be := Be) (w0 := w0) (H := H) (ty := ty) (t := t) (t' := t') h1 h2
  rwa [decide_eq_false h] at this
theorem ex_lssT (h : m < n) (h1 : Ev G e x (.int k m)) (h2 : Ev G e y (.int k n)) : Ex P Be w0 H G e (.binOp .lss t x y t') ty (.bool true) := by
  have := ex_lss (P := P) (Be := Be) (w0 := w0) (H := H) (ty := ty) (t := t) (t' := t') h1 h2
  rwa [decide_eq_true h] at this
theorem ex_lssF (h : ¬ m < n) (h1 : Ev G e x (.int k m)) (h2 : Ev G e y (.int k n)) : Ex P Be w0 H G e (.binOp .lss t x y t') ty (.bool false) := by
  have := ex_lss (P := P) (Be := Be) (w0 := w0) (H := H) (ty := ty) (t := t) (t' := t') h1 h2
  rwa [decide_eq_false h] at this
theorem ex_notE {b c : Bool} (hb : (!b) = c) (h : Ev G e x (.bool b)) : Ex P Be w0 H G e (.unOp .not t x) ty (.bool c) := by
  subst hb
  exact ex_not h
theorem ex_off {op : Op} (hG : G = false) : Ex P Be w0 H G e op ty (.bool false) := by
  intro N a w o _ _ _ _ h
  rw [hG] at h; cases h
theorem ex_buildE {z : Value} {pl : List (Nat × Nat)} {ps : List (Nat × Operand)} {vs : List Value} {r : Array Value} [hz : TZero P t z] [hp : TPlaces P t pl] (h : Evs G e (ps.map (·.2)) vs) (hok : fillOk pl z.cells.toList.length (zipI ps vs) = true) (hr : (fillL pl z.cells.toList (zipI ps vs)).toArray = r) :
    Ex P Be w0 H G e (.build t ps.toArray) ty (.agg r) := by
  subst hr
  exact ex_build h hok
theorem ex_addK {r : Int} (hr : m + n = r) (h1 : Ev G e x (.int .i64 m)) (h2 : Ev G e y (.int .i64 n)) (hb : -9223372036854775808 ≤ r ∧ r < 9223372036854775808) : Ex P Be w0 H G e (.binOp .add t x y t') ty (.int .i64 r) := ex_addE hr h1 h2 hb
theorem ex_subE {r : Int} (hr : m - n = r) (h1 : Ev G e x (.int .i64 m)) (h2 : Ev G e y (.int .i64 n)) (hb : -9223372036854775808 ≤ r ∧ r < 9223372036854775808) : Ex P Be w0 H G e (.binOp .sub t x y t') ty (.int .i64 r) := by
  subst hr
  exact ex_subn h1 h2 hb
theorem ex_remE {a b q : Nat} (hq : a % b = q) (hn : b ≠ 0) (h1 : Ev G e x (.int k (a : Int))) (h2 : Ev G e y (.int k (b : Int))) : Ex P Be w0 H G e (.binOp .rem t x y t') ty (.int k (q : Int)) := by
  have := ex_rem (P := P) (Be := Be) (w0 := w0) (H := H) (ty := ty) (t := t) (t' := t') h1 h2 (by omega)
  rwa [show (a : Int).tmod (b : Int) = (q : Int) from by rw [← hq]; rfl] at this
/-- Half of a natural number, by a shift. -/
theorem ex_half {a q : Nat} (hq : a / 2 = q) (h1 : Ev G e x (.int .u64 (a : Int))) (h2 : Ev G e y (.int .u64 1)) : Ex P Be w0 H G e (.binOp .shr t x y t') ty (.int .u64 (q : Int)) :=
  ex_int h1 h2 fun w => by
    rw [binOp_shr, shift_shr .u64 .u64 _ _ (by decide) (by decide), ← hq]
    rfl
/-- An element of an array that is held by value. -/
theorem ex_indexArr {el sz : Nat} {cs : Array Value} {i : Nat} {v : Value} (h1 : Ev G e x (.agg cs)) (h2 : Ev G e y (.int k (i : Int))) [ht : TArray P t sz el] [hs : TSize P el 1] [hc : TCell P el] (hi : i < sz) (hv : cs[i]? = some v) : Ex P Be w0 H G e (.index t x y) ty v := by
  intro N a w o ho _ hf hh hG
  have hp : (part el cs (i * 1)).run P w = .ok v w := by
    simp [part, TCell.run w (P := P) (t := el), hv]
  have hin : 0 ≤ (i : Int) ∧ (i : Int) < (sz : Int) := by omega
  simp only [execOp, ho, h1 N a hf hG, h2 N a hf hG, Instr.index, asIntOf, Sem.run_bind, Sem.run_pure, Result.andThen_ok, run_underlying ht.array, Sem.run_ite, if_pos hin, hs.run w, Int.toNat_natCast, hp]
end
section
variable {P : Program} {Be : Nat} {w0 : World} {H : Heap} {G : Bool} {e : Env} {ty : TypeId} {α : Type} {sz : Nat} {C : α → Array Value}
theorem ex_loadelemH {t : TypeId} {x : Operand} {ad : Addr} {i n : Nat} {xs : List α} {y : α} (h : Ev G e x (.pointer (some (ad.add (i * sz))))) {A : Option Addr} (hr : ∀ w, Hp Be w0 H w → RdS w w.heap.size sz C A n xs) (hA : A = some ad) (hsz : (C y).size = sz) (hy : xs[i]? = some y) [TAgg P t] [hs : TSize P t sz] : Ex P Be w0 H G e (.load t x) ty (.agg (C y)) := by
  subst hA
  refine ex_loadn h hsz fun w hh j v hj => ?_
  obtain ⟨ad', e', hb, hsz, hc⟩ := (hr w hh).elems i y hy
  cases e'
  exact hc j v hj
theorem ex_loadfieldH {t : TypeId} {x : Operand} {ad : Addr} {i k n : Nat} {xs : List α} {y : α} {v : Value} (h : Ev G e x (.pointer (some ((ad.add (i * sz)).add k)))) {A : Option Addr} (hr : ∀ w, Hp Be w0 H w → RdS w w.heap.size sz C A n xs) (hA : A = some ad) (hy : xs[i]? = some y) (hv : (C y)[k]? = some v) [TCell P t] : Ex P Be w0 H G e (.load t x) ty v := by
  subst hA
  refine ex_load1 h fun w hh => ?_
  obtain ⟨ad', e', hb, hsz, hc⟩ := (hr w hh).elems i y hy
  cases e'
  exact hc k v hv
/-- 's[l:]' of an own row of elements of one cell, 's[:h]'. -/
theorem ex_slice_l1 {t el : TypeId} {x y : Operand} {g off n c l : Nat} {k : IntKind} (h1 : Ev G e x (.slice (some ⟨g, off, none⟩) n c)) (h2 : Ev G e y (.int k (l : Int))) (hb : l ≤ n ∧ n ≤ c) (hc : l < c) [ht : TSlice P t el] [hs : TSize P el 1] :
    Ex P Be w0 H G e (.slice t x (some y) none none) ty (.slice (some ⟨g, off + l, none⟩) (n - l) (c - l)) := by
  intro N a w o ho _ hf hh hG
  have he : P.elem t = el := by simp [Program.elem, ht.slice]
  simp only [execOp, ho, h1 N a hf hG, Option.map_none, Option.map_some, h2 N a hf hG, Instr.sliceAt, Sem.run_bind, run_underlying ht.slice, Result.andThen_ok]
  rw [run_slice_l w t _ n c (by rw [he]; exact ht.slice) k l (by omega) (by omega), he, hs.run w]
  have h4 : ¬ c = l := by omega
  simp [sliced, h4, addr_add]
theorem ex_slice_l0 {t el : TypeId} {x y : Operand} {A : Option Addr} {n c l : Nat} {k : IntKind} (h1 : Ev G e x (.slice A n c)) (h2 : Ev G e y (.int k (l : Int))) (hb : l ≤ n ∧ n ≤ c) (hc : c = l) [ht : TSlice P t el] [hs : TSize P el 1] :
    Ex P Be w0 H G e (.slice t x (some y) none none) ty (.slice A (n - l) (c - l)) := by
  intro N a w o ho _ hf hh hG
  have he : P.elem t = el := by simp [Program.elem, ht.slice]
  simp only [execOp, ho, h1 N a hf hG, Option.map_none, Option.map_some, h2 N a hf hG, Instr.sliceAt, Sem.run_bind, run_underlying ht.slice, Result.andThen_ok]
  rw [run_slice_l w t _ n c (by rw [he]; exact ht.slice) k l (by omega) (by omega), he, hs.run w]
  simp [sliced, hc]
/-- A function without a Go body: its result at once, in the worlds of the class. -/
theorem ex_externH {f : FuncId} {xs : List Operand} {ts : Array TypeId} {vs : List Value} {v : Value} (h : Evs G e xs vs) (hr : ∀ w, Hp Be w0 H w → (callFunc f vs.toArray).run P w = .ok (.value v) w) : Ex P Be w0 H G e (.call ⟨.value (.func f), xs.toArray, ts⟩) ty v := by
  intro N a w o ho _ hf hh hG
  have h1 := h N a hf hG
  have hc : a.eval (.func f) = .func (.func f) #[] #[] := rfl
  simp only [execOp, ho, resolve, Deferred.ofValue, hc, Sem.run_bind, Sem.run_pure, Result.andThen_ok, invoke]
  have h2 : Array.map a.eval xs.toArray = vs.toArray := by simp [h1]
  rw [h2]
  have h3 := hr w hh
  simpa using h3
end
section
variable {P : Program} {N Be : Nat} {Q : Post} {e : Env} {w0 : World} {H : Heap} {ops : Array Oper} {rest : List Oper} {ty : TypeId} {pos : String} {after : Array Edge} {d : Nat} {K : Type} [DecidableEq K]
theorem run_deleteM {t tk te tk2 ty : TypeId} {kv : K → Value} {g c : Nat} {es : List (K × Value × Nat)} (k : K) {w : World} [ht : TMap P t tk te] [hk : TKey P tk kv] (hb : w.heap[g]? = some (mobj kv es c)) :
    (Builtin.delete_ #[t, tk2] ty #[.map (some g), kv k]).run P w = .ok (.tuple #[]) { w with heap := w.heap.setIfInBounds g (mobj kv (delL k es) c) } := by
  have h1 := hk.find k es w
  have h2 := hk.check (es.map (ent kv)).toArray.isEmpty k w
  have hb' : w.heap[g]? = some (.map (es.map (ent kv)).toArray c) := hb
  have hq := findL_spec k (.bool true) c es 0
  have hd : (Builtin.delete_ #[t, tk2] ty #[.map (some g), kv k]).run P w = ((match findL k es 0 with | some (i, _) => setObj g (.map ((es.map (ent kv)).toArray.eraseIdxIfInBounds i) c) | none => setObj g (.map (es.map (ent kv)).toArray c)).run P w).andThen fun _ w' => .ok (.tuple #[]) w' := by
    simp only [Builtin.delete_, List.getElem?_toArray, List.getElem?_cons_zero, List.getElem?_cons_succ, Sem.run_bind, run_underlying ht.map, Result.andThen_ok, MapKept.run_getObj_map hb', h2, h1]
    cases findL k es 0 <;> simp only [Sem.run_bind, Sem.run_pure]
  rw [hd]
  rcases hq with ⟨q1, -, -, q4⟩ | ⟨j, e', q1, qj, -, -, -, q4⟩
  · rw [q1, q4]
    simp only
    rw [MapKept.run_setObj_map _ hb', Result.andThen_ok]
    rfl
  · rw [q1, q4]
    simp only [Nat.zero_add]
    rw [MapKept.run_setObj_map _ hb', Result.andThen_ok]
    have hj : j < es.length := (List.getElem?_eq_some_iff.1 qj).1
    have : (es.map (ent kv)).toArray.eraseIdxIfInBounds j = ((es.eraseIdx j).map (ent kv)).toArray := by
      apply Array.ext'
      have hj' : j < (es.map (ent kv)).toArray.size := by simpa using hj
      unfold Array.eraseIdxIfInBounds
      rw [dif_pos hj', Array.toList_eraseIdx]
      simp only [List.eraseIdx_eq_take_drop_succ, List.map_append, List.map_take, List.map_drop]
    rw [this]
    rfl
theorem spl_delete {t tk te tk2 : TypeId} {x y : Operand} {kv : K → Value} {g c : Nat} {es : List (K × Value × Nat)} {k : K} {H' : Heap} [ht : TMap P t tk te] [hk : TKey P tk kv] (h : Ev true e x (.map (some g))) (h2 : Ev true e y (kv k))
    (hu : Upd H g (mobj kv es c) (mobj kv (delL k es) c) H') (kk : Spl P N Be ops Q rest e w0 H') :
    Spl P N Be ops Q (⟨none, .call ⟨.builtin .delete, #[x, y], #[t, tk2]⟩, ty, pos, after, none⟩ :: rest) e w0 H := by
  intro a w hf hh
  refine wpList_plain rfl fun K hK => ?_
  have hr : (execOp a.eval ⟨none, .call ⟨.builtin .delete, #[x, y], #[t, tk2]⟩, ty, pos, after, none⟩).run P w = .ok (.value (.tuple #[])) { w with heap := w.heap.setIfInBounds g (mobj kv (delL k es) c) } := by
    simp only [execOp, resolve, invoke, builtin, h N a hf rfl, h2 N a hf rfl, run_deleteM (ht := ht) (hk := hk) k (hh.own _ hu.mem), Sem.run_bind, Sem.run_pure, Result.andThen_ok, List.map_toArray, List.map_cons, List.map_nil]
  unfold Oper.wp
  rw [hr, Oper.upon_value]
  exact hK _ _ (kk _ _ hf.putnone (hh.setObj hu))
end
/-- 'append(s, make([]T, m)...)' where there is no room. -/
theorem spl_append_zeros {P : Program} {N Be : Nat} {Q : Post} {e : Env} {w0 : World} {H : Heap} {ops : Array Oper} {rest : List Oper} {ty : TypeId} {pos : String} {after : Array Edge} {d : Nat} {t tx el bytes : Nat} {kn kq : IntKind} {z : Value} {x y : Operand} {g off n cap m : Nat} {olds : List Value} [ht : TSlice P t el] [htx : TInt P tx kn] [hz : TZero P el z] [hs : TSize P el 1] [hby : TBytes P el bytes]
    (hx : Ev true e x (.slice (some ⟨g, off, none⟩) n cap)) (hy : Ev true e y (.int kq (m : Int))) (ho : ∀ w, Hp Be w0 H w → CellsAt w (some ⟨g, off, none⟩) olds) (hol : olds.length = n) (h0 : 0 < m)
    (hg : cap < n + m) (hb : (n + m) * bytes ≤ 140737488355328) (hpos : Nat.blt 0 bytes = true) (hzs : z.cells = #[z]) (hN : Nat.blt d N = true)
    (k : ∀ g' cap' tail, w0.heap.size ≤ g' → n + m ≤ cap' → (olds ++ List.replicate m z ++ tail).length = cap' → Spl P N Be ops Q rest ((d, true, .slice (some ⟨g', 0, none⟩) (n + m) cap') :: e) w0 ((g', .cells (olds ++ List.replicate m z ++ tail).toArray el (0, 0)) :: H)) :
    Spl P N Be ops Q (⟨some d, .call ⟨.builtin .append, #[x, y], #[t, tx]⟩, ty, pos, after, none⟩ :: rest) e w0 H := by
  intro a w hf hh
  have hd : d < N := by simpa [Nat.blt_eq] using hN
  have hpos' : 0 < bytes := by simpa [Nat.blt_eq] using hpos
  refine wpList_plain rfl fun K hK => ?_
  obtain ⟨i, hi⟩ : ∃ i, P.info? el = some i := by
    have := hs.size
    cases h : P.info? el with
    | none => rw [h] at this; cases this
    | some i => exact ⟨i, rfl⟩
  have hiz : i.zero = some z := by have := hz.zero; rw [hi] at this; exact this
  have his : i.size = 1 := by have := hs.size; rw [hi] at this; simpa using this
  have hib : i.bytes = bytes := by have := hby.bytes; rw [hi] at this; simpa using this
  have hle : n + m ≤ (n + m) * bytes := Nat.le_mul_of_pos_right _ hpos'
  have hmle : m * bytes ≤ (n + m) * bytes := Nat.mul_le_mul_right _ (by omega)
  have hold : (Builtin.firstCells i.size n (.slice (some ⟨g, off, none⟩) n cap)).run P w.drew = .ok olds.toArray w.drew := by
    rw [his]
    have hc := ho w hh
    exact run_firstCells_some w.drew 1 n ⟨g, off, none⟩ n cap olds (by omega) (fun j u hj => by obtain ⟨b', hb', hcell⟩ := hc j u hj; cases hb'; simpa using hcell)
  have hr := Lib.run_append_grow_zeros (P := P) w t tx ty el i z kq kn ht.slice htx.int hi hiz (some ⟨g, off, none⟩) n cap olds hold m h0 (by omega) hg (by omega) (by rw [hib]; omega) (by rw [hib]; exact fits_of hg hb)
  have hzc : ∀ q : Nat, (Builtin.zeroCells z.cells q).toList = List.replicate q z := by
    intro q
    rw [hzs, List.eq_replicate_iff]
    refine ⟨by rw [Array.length_toList, size_zeroCells]; simp, fun b hb => ?_⟩
    obtain ⟨j, hj, rfl⟩ := List.getElem_of_mem hb
    simp [Builtin.zeroCells, Nat.mod_one]
  have hcs : olds.toArray ++ Builtin.zeroCells z.cells m ++ Builtin.zeroCells z.cells (grownCap w (n + m) cap el - (n + m)) = (olds ++ List.replicate m z ++ (Builtin.zeroCells z.cells (grownCap w (n + m) cap el - (n + m))).toList).toArray := by
    apply Array.ext'; simp [hzc]
  rw [hcs] at hr
  unfold Oper.wp
  simp only [execOp, resolve, invoke, builtin, hx N a hf rfl, hy N a hf rfl, hr, Sem.run_bind, Sem.run_pure, Result.andThen_ok, List.map_toArray, List.map_cons, List.map_nil]
  have hge := grownCap_ge w (n + m) cap el
  have hsum : (olds ++ List.replicate m z ++ (Builtin.zeroCells z.cells (grownCap w (n + m) cap el - (n + m))).toList).length = grownCap w (n + m) cap el := by
    rw [hzc]
    simp only [List.length_append, List.length_replicate, hol]
    omega
  exact hK _ _ (k _ _ _ hh.size hge hsum _ _ (hf.puttrue hd) (hh.drew.alloc _))
end Go.Sy
