/-
  Calls that change memory that their caller owns; further operations: bytes, strings, copy, make.
-/
import Derived.Test.YtoogicafefennaaSl
import Derived.Test.YtoogicafefennaaSa
import Derived.Test.YtoogicafefennaaSr
import Derived.Laws.BytesArg
import Derived.Laws.IdiomStrings
import Derived.Laws.MakeOwn
import Derived.Laws.Strings2
import Derived.Laws.BitsAllLaws
namespace Go.Sy
open Go.RowKit
set_option linter.unusedVariables false
set_option linter.unusedSimpArgs false

section
variable {P : Program} {N Be : Nat} {Q : Post} {e : Env} {w0 : World} {H : Heap} {ops : Array Oper} {rest : List Oper} {ty : TypeId} {pos : String} {after : Array Edge} {d : Nat}

/-- A function entered with blocks that it may change. -/
theorem sp_enterM {f : FuncId} {fn : Func} {c : Code} {vs : List Value} {w : World} {R : Ending → World → Prop} (hf : P.funcs[f]? = some fn) (hb : fn.body = some c) (hN : fn.ntmps = N) (hl : Nat.ble vs.length N = true) (hh : Hp Be w0 H w)
    (h : Spc P N Be c (retQ P fn Be R) (envOf 0 vs) w0 H) : Calls P f vs.toArray w R := by
  refine calls_of_wp hf hb (wp_mono (h _ w ?_ hh) ?_)
  · have hl' : vs.length ≤ N := Nat.le_of_ble_eq_true hl
    refine ⟨rfl, by simp [hN]; omega, fun k g v hk => ?_⟩
    obtain ⟨rfl, _, h3⟩ := look_envOf vs 0 k g v hk
    simp only [Nat.sub_zero] at h3
    have hk : k < vs.length := (List.getElem?_eq_some_iff.1 h3).1
    simp [Array.getElem?_append, hk, gv]
    have := (List.getElem?_eq_some_iff.1 h3).2
    simpa using this
  · rintro x a w' ⟨e, w0, H, h1, h2, h3⟩
    cases x with
    | normal => obtain ⟨v, hv, hR⟩ := h3; exact ⟨h1.defers, v, hv _ _ _ fn rfl h1 h2, hR w' h2⟩
    | ret => obtain ⟨v, hv, hR⟩ := h3; exact ⟨h1.defers, v, hv _ _ _ fn rfl h1 h2, hR w' h2⟩
    | exit _ => exact h3.elim
    | goto _ => exact h3.elim
    | panic _ => exact h3.elim
    | outgrown => exact h3.elim

/-- What such a call leaves. -/
def RetX {X : Type} (Be : Nat) (w0 : World) (V : X → Value) (HH : X → Heap) (I : X → Prop) : Ending → World → Prop := fun en w' => ∃ x, en = .returned (V x) ∧ I x ∧ Hp Be w0 (HH x) w'
theorem retX_ok {fn : Func} {rs : Array ResultVar} {e : Env} {H' : Heap} {v : Value} {X : Type} {V : X → Value} {HH : X → Heap} {I : X → Prop} (hr : fn.results = rs) (h : Res rs P Be e w0 H' v) (hv : ∃ x, v = V x ∧ I x ∧ HKeep w0 (HH x) H') : retQ P fn Be (RetX Be w0 V HH I) .ret e w0 H' := by
  subst hr
  obtain ⟨x, rfl, hI, hk⟩ := hv
  exact ⟨_, h, fun w' hh => ⟨x, rfl, hI, hh.sub hk⟩⟩
theorem endX_ok {fn : Func} {rs : Array ResultVar} {e : Env} {H' : Heap} {v : Value} {X : Type} {V : X → Value} {HH : X → Heap} {I : X → Prop} (hr : fn.results = rs) (h : Res rs P Be e w0 H' v) (hv : ∃ x, v = V x ∧ I x ∧ HKeep w0 (HH x) H') : retQ P fn Be (RetX Be w0 V HH I) .normal e w0 H' := by
  subst hr
  obtain ⟨x, rfl, hI, hk⟩ := hv
  exact ⟨_, h, fun w' hh => ⟨x, rfl, hI, hh.sub hk⟩⟩

/-- A part taken out of the list of blocks. -/
def Split (H A R : Heap) : Prop := H.Perm (A ++ R)
theorem Split.here {A R : Heap} : Split (A ++ R) A R := .refl _
theorem Split.one {p : Nat × Obj} {R : Heap} : Split (p :: R) [p] R := Split.here (A := [p])
theorem Split.all {A : Heap} : Split A A [] := by unfold Split; simp
theorem Split.cons {p : Nat × Obj} {A R : Heap} (h : Split H A R) : Split (p :: H) A (p :: R) := (List.Perm.cons p h).trans List.perm_middle.symm
theorem Split.app {B A R : Heap} (h : Split H A R) : Split (B ++ H) A (B ++ R) := by
  refine (h.append_left B).trans ?_
  rw [← List.append_assoc, ← List.append_assoc]
  exact List.perm_append_comm.append_right R
theorem Rem.app {H' B : Heap} {g : Nat} {o : Obj} (h : Rem H g o H') : Rem (B ++ H) g o (B ++ H') := by
  obtain ⟨a, b, rfl, rfl⟩ := h
  exact ⟨B ++ a, b, by simp, by simp⟩
theorem Upd.app {H' B : Heap} {g : Nat} {o o' : Obj} (h : Upd H g o o' H') : Upd (B ++ H) g o o' (B ++ H') := by
  obtain ⟨a, b, rfl, rfl⟩ := h
  exact ⟨B ++ a, b, by simp, by simp⟩
instance (priority := low) InH.appL {g : Nat} {o : Obj} {B : Heap} [h : InH B g o] : InH (B ++ H) g o := ⟨List.mem_append.2 (.inl h.mem)⟩
instance (priority := low) InH.app {g : Nat} {o : Obj} {B : Heap} [h : InH H g o] : InH (B ++ H) g o := ⟨List.mem_append.2 (.inr h.mem)⟩
theorem Rem.perm {H' : Heap} {g : Nat} {o : Obj} (h : Rem H g o H') : H.Perm ((g, o) :: H') := by
  obtain ⟨a, b, rfl, rfl⟩ := h
  exact List.perm_middle
theorem HKeep.pick {H' Hr : Heap} {p : Nat × Obj} (hr : Rem H' p.1 p.2 Hr) (h : HKeep w0 H Hr) : HKeep w0 (p :: H) H' := by
  obtain ⟨D, h1, h2⟩ := h
  exact ⟨D, hr.perm.trans ((h1.cons p).trans List.perm_middle.symm), h2⟩
theorem HKeep.app {H' R A : Heap} (hs : Split H' A R) (h : HKeep w0 H R) : HKeep w0 (A ++ H) H' := by
  obtain ⟨D, h1, h2⟩ := h
  refine ⟨D, hs.trans ((h1.append_left A).trans ?_), h2⟩
  rw [← List.append_assoc, ← List.append_assoc]
  exact List.perm_append_comm.append_right H
theorem HKeep.dropA {H' A : Heap} (hA : ∀ p ∈ A, w0.heap.size ≤ p.1) (h : HKeep w0 H H') : HKeep w0 H (A ++ H') := by
  obtain ⟨D, h1, h2⟩ := h
  exact ⟨A ++ D, by rw [List.append_assoc]; exact h1.append_left A, fun q hq => by (rcases List.mem_append.1 hq with hq | hq <;> first | exact hA q hq | exact h2 q hq)⟩
theorem HKeep.perm {H' : Heap} (h : H'.Perm H) : HKeep w0 H H' := ⟨[], by simpa using h, fun _ h => by cases h⟩
theorem HKeep.trans {A B C : Heap} (h : HKeep w0 A B) (h' : HKeep w0 B C) : HKeep w0 A C := by
  obtain ⟨D, h1, h2⟩ := h
  obtain ⟨D', h3, h4⟩ := h'
  exact ⟨D' ++ D, by rw [List.append_assoc]; exact h3.trans (h1.append_left D'), fun q hq => by (rcases List.mem_append.1 hq with hq | hq <;> first | exact h4 q hq | exact h2 q hq)⟩

/-- A call that changes the part A of the blocks. -/
theorem spl_callM {f : FuncId} {xs : List Operand} {ts : Array TypeId} {vs : List Value} [TFn P f] {X : Type} {V : X → Value} {AA : X → Heap} {I : X → Prop} {A R : Heap} (hN : Nat.blt d N = true) (hx : Evs true e xs vs) (hs : Split H A R)
    (hc : ∀ w, Hp Be w0 (A ++ R) w → Calls P f vs.toArray w (RetX Be w0 V (fun x => AA x ++ R) I))
    (k : ∀ x, I x → Spl P N Be ops Q rest ((d, true, V x) :: e) w0 (AA x ++ R)) : Spl P N Be ops Q (⟨some d, .call ⟨.value (.func f), xs.toArray, ts⟩, ty, pos, after, none⟩ :: rest) e w0 H :=
  spl_callx V (fun _ => w0) (fun x => AA x ++ R) I hN hx (fun w hh => hc w (hh.perm hs)) k
/-- The same behind a guard. -/
theorem Spc.perm {c : Code} {H' : Heap} (hp : H.Perm H') (h : Spc P N Be c Q e w0 H') : Spc P N Be c Q e w0 H := fun a w hf hh => h a w hf (hh.perm hp)
theorem Spc.keep {c : Code} {H' : Heap} (hp : HKeep w0 H' H) (h : Spc P N Be c Q e w0 H') : Spc P N Be c Q e w0 H := fun a w hf hh => h a w hf (hh.sub hp)
theorem ESub.refl : ESub e e := fun _ _ _ h => h

/-- 'make([]T, n)', T of one cell. -/
theorem spl_makeSlice {t el bytes : Nat} {z : Value} {x y : Operand} {k1 k2 : IntKind} {n : Nat} [ht : TSlice P t el] [hs : TSize P el 1] [hz : TZero P el z] [hby : TBytes P el bytes] (hN : Nat.blt d N = true) (hx : Ev true e x (.int k1 n)) (hy : Ev true e y (.int k2 n))
    (hz1 : z.oneCell' = true) (hb : bytes * n ≤ 281474976710656) (h63 : n ≤ 9223372036854775807)
    (k : ∀ g, w0.heap.size ≤ g → Spl P N Be ops Q rest ((d, true, .slice (some ⟨g, 0, none⟩) n n) :: e) w0 ((g, .cells (List.replicate n z).toArray el (0, 0)) :: H)) :
    Spl P N Be ops Q (⟨some d, .makeSlice t x y, ty, pos, after, none⟩ :: rest) e w0 H := by
  intro a w hf hh
  have hd : d < N := by simpa [Nat.blt_eq] using hN
  refine wpList_plain rfl fun K hK => ?_
  obtain ⟨i, hi⟩ : ∃ i, P.info? el = some i := by
    have := hs.size
    cases h : P.info? el with
    | none => rw [h] at this; cases this
    | some i => exact ⟨i, rfl⟩
  have hiz : i.zero = some z := by have := hz.zero; rw [hi] at this; exact this
  have his : i.size = 1 := by have := hs.size; rw [hi] at this; simpa using this
  have hib : i.bytes = bytes := by have := hby.bytes; rw [hi] at this; simpa using this
  have hzc : z.cells = #[z] := by cases z <;> simp_all [Value.oneCell', Value.cells]
  have hm : madeCells z.cells n = (List.replicate n z).toArray := by
    apply Array.ext'
    simp only [madeCells, hzc]
    rw [List.eq_replicate_iff]
    refine ⟨by simp, fun b hb => ?_⟩
    simp at hb
    obtain ⟨j, hj, rfl⟩ := hb
    simp [Nat.mod_one]
  have hr : (execOp a.eval ⟨some d, .makeSlice t x y, ty, pos, after, none⟩).run P w = .ok (.value (.slice (some ⟨w.heap.size, 0, none⟩) n n)) (w.alloc (.cells (List.replicate n z).toArray el)) := by
    have := run_make (P := P) w t el i z ht.slice hi hiz k1 k2 n n (by omega) (by omega) (by rw [hib]; have h := Int.ofNat_le.2 hb; rw [Int.natCast_mul] at h; exact h) (by omega)
    simp only [Int.toNat_natCast, his, Nat.mul_one, hm] at this
    simp only [execOp, hx N a hf rfl, hy N a hf rfl, this, Sem.run_bind, Result.andThen_ok, Sem.run_pure]
  unfold Oper.wp
  rw [hr, Oper.upon_value]
  exact hK _ _ (k _ hh.size _ _ (hf.puttrue hd) (hh.alloc _))

/-- 'copy(s, text)' into an own row. -/
theorem spl_copyS {dT sT el : TypeId} {x y : Operand} {g off n c : Nat} {s : ByteArray} {cs : Array Value} {T : TypeId} {H' : Heap} [ht : TSlice P dT el] [hz : TSize P el 1] (hN : Nat.blt d N = true) (hx : Ev true e x (.slice (some ⟨g, off, none⟩) n c)) (hy : Ev true e y (.string s))
    (hn : s.size ≤ n) (hu : Upd H g (.cells cs T (0, 0)) (.cells (cs.toList.take off ++ byteCells s ++ cs.toList.drop (off + s.size)).toArray T (0, 0)) H') (hfit : off + s.size ≤ cs.size)
    (k : Spl P N Be ops Q rest ((d, true, .int .i64 s.size) :: e) w0 H') :
    Spl P N Be ops Q (⟨some d, .call ⟨.builtin .copy, #[x, y], #[dT, sT]⟩, ty, pos, after, none⟩ :: rest) e w0 H := by
  intro a w hf hh
  have hd : d < N := by simpa [Nat.blt_eq] using hN
  refine wpList_plain rfl fun K hK => ?_
  have hg : w.heap[g]? = some (.cells cs T (0, 0)) := hh.own _ hu.mem
  obtain ⟨i, hi⟩ : ∃ i, P.info? el = some i := by
    have := hz.size
    cases h : P.info? el with
    | none => rw [h] at this; cases this
    | some i => exact ⟨i, rfl⟩
  have his : i.size = 1 := by have := hz.size; rw [hi] at this; simpa using this
  have hlen := byteCells_length s
  have hfc := firstCells_string (P := P) s w
  have hst := run_storeCells_at P g off T (byteCells s) 0 cs w hg (by simpa [hlen] using hfit) (fun v hv => by simp only [byteCells, List.mem_map] at hv; obtain ⟨b, _, rfl⟩ := hv; rfl)
  simp only [Nat.add_zero, hlen] at hst
  have hr : (execOp a.eval ⟨some d, .call ⟨.builtin .copy, #[x, y], #[dT, sT]⟩, ty, pos, after, none⟩).run P w = .ok (.value (.int .i64 s.size)) (w.setRow g (cs.toList.take off ++ byteCells s ++ cs.toList.drop (off + s.size)).toArray) := by
    have hmin : Nat.min s.size n = s.size := Nat.min_eq_left hn
    simp only [execOp, resolve, invoke, builtin, hx N a hf rfl, hy N a hf rfl, Builtin.copy_, run_underlying ht.slice, Builtin.lenOf, Sem.run_bind, Sem.run_pure, Result.andThen_ok, List.map_toArray, List.map_cons, List.map_nil, sizeOf, typeInfo, hi, run_program, his, goInt]
    simp [hmin, hfc, hst, run_underlying ht.slice, hi, his]
  unfold Oper.wp
  rw [hr, Oper.upon_value]
  exact hK _ _ (k _ _ (hf.puttrue hd) (hh.upd hu rfl rfl rfl (by simp [World.setRow]) (fun k _ hk => setRow_other w g k _ hk) (setRow_heap w g cs _ T (0, 0) hg)))
end

section
variable {P : Program} {Be : Nat} {w0 : World} {H : Heap} {G : Bool} {e : Env} {ty : TypeId}

theorem run_equalIn_pn {w : World} {d t el : Nat} (h : P.underlying t = some (.pointer el)) (p : Option Addr) : (Op.equalIn (d + 1) t (.pointer p) (.pointer none)).run P w = .ok p.isNone w := by
  cases p <;> simp [Op.equalIn, run_underlying h]
theorem ex_peql {t t' el : TypeId} {x y : Operand} {p : Option Addr} (h1 : Ev G e x (.pointer p)) (h2 : Ev G e y (.pointer none)) [ht : TPtr P t el] : Ex P Be w0 H G e (.binOp .eql t x y t') ty (.bool p.isNone) := by
  intro N a w o ho _ hf hh hG
  simp only [execOp, ho, h1 N a hf hG, h2 N a hf hG, Sem.run_bind]
  have : (eqGuard .eql t x y (.pointer p) (.pointer none)).run P w = .ok () w := by unfold eqGuard; simp
  rw [this]
  have h3 : (Op.equal t (.pointer p) (.pointer none)).run P w = .ok p.isNone w := run_equalIn_pn ht.ptr p
  have h4 : binOp .eql t (.pointer p) (.pointer none) = (do pure (.bool ((← Op.equal t (.pointer p) (.pointer none))))) := by cases p <;> rfl
  simp only [h4, Sem.run_bind, Sem.run_map, h3, Result.andThen_ok, Sem.run_pure]
theorem ex_pneq {t t' el : TypeId} {x y : Operand} {p : Option Addr} (h1 : Ev G e x (.pointer p)) (h2 : Ev G e y (.pointer none)) [ht : TPtr P t el] : Ex P Be w0 H G e (.binOp .neq t x y t') ty (.bool (!p.isNone)) := by
  intro N a w o ho _ hf hh hG
  simp only [execOp, ho, h1 N a hf hG, h2 N a hf hG, Sem.run_bind]
  have : (eqGuard .neq t x y (.pointer p) (.pointer none)).run P w = .ok () w := by unfold eqGuard; simp
  rw [this]
  have h3 : (Op.equal t (.pointer p) (.pointer none)).run P w = .ok p.isNone w := run_equalIn_pn ht.ptr p
  have h4 : binOp .neq t (.pointer p) (.pointer none) = (do pure (.bool (!(← Op.equal t (.pointer p) (.pointer none))))) := by cases p <;> rfl
  simp only [h4, Sem.run_bind, Sem.run_map, h3, Result.andThen_ok, Sem.run_pure]

theorem ex_minE {x y : Operand} {ts : Array TypeId} {k : IntKind} {m n r : Int} (h1 : Ev G e x (.int k m)) (h2 : Ev G e y (.int k n)) (hr : (if n < m then n else m) = r) : Ex P Be w0 H G e (.call ⟨.builtin .min, #[x, y], ts⟩) ty (.int k r) := by
  subst hr
  exact ex_min h1 h2
theorem ex_maxE {x y : Operand} {ts : Array TypeId} {k : IntKind} {m n r : Int} (h1 : Ev G e x (.int k m)) (h2 : Ev G e y (.int k n)) (hr : (if n > m then n else m) = r) : Ex P Be w0 H G e (.call ⟨.builtin .max, #[x, y], ts⟩) ty (.int k r) := by
  subst hr
  exact ex_max h1 h2
theorem ex_addE {t t' : TypeId} {x y : Operand} {m n r : Int} (hr : m + n = r) (h1 : Ev G e x (.int .i64 m)) (h2 : Ev G e y (.int .i64 n)) (hb : -9223372036854775808 ≤ r ∧ r < 9223372036854775808) : Ex P Be w0 H G e (.binOp .add t x y t') ty (.int .i64 r) := by
  subst hr
  exact ex_addn h1 h2 hb
theorem ex_indexAddrO {t el : TypeId} {x y : Operand} {k : IntKind} {i : Nat} {g off n c sz : Nat} (h : Ev G e x (.slice (some ⟨g, off, none⟩) n c)) (h2 : Ev G e y (.int k i)) (hi : i < n) [ht : TSlice P t el] [hs : TSize P el sz] :
    Ex P Be w0 H G e (.indexAddr t x y) ty (.pointer (some ⟨g, off + i * sz, none⟩)) := by
  have := ex_indexAddr (P := P) (Be := Be) (w0 := w0) (H := H) (ty := ty) (t := t) h h2 rfl hi
  rwa [addr_add] at this
theorem ex_quon {t t' : TypeId} {x y : Operand} {m n : Int} (h1 : Ev G e x (.int .i64 m)) (h2 : Ev G e y (.int .i64 n)) (hn : n ≠ 0) (hb : -9223372036854775808 ≤ m.tdiv n ∧ m.tdiv n < 9223372036854775808) : Ex P Be w0 H G e (.binOp .quo t x y t') ty (.int .i64 (m.tdiv n)) := by
  have := ex_quo (P := P) (Be := Be) (w0 := w0) (H := H) (t := t) (t' := t') (ty := ty) h1 h2 hn
  rwa [wrap64_in hb] at this
/-- The two of natural numbers. -/
theorem ex_quoN {t t' : TypeId} {x y : Operand} {m n : Nat} (h1 : Ev G e x (.int .i64 (m : Int))) (h2 : Ev G e y (.int .i64 (n : Int))) (hn : Nat.blt 0 n = true) (hb : m < 9223372036854775808) : Ex P Be w0 H G e (.binOp .quo t x y t') ty (.int .i64 ((m / n : Nat) : Int)) := by
  have hn' : 0 < n := by simpa [Nat.blt_eq] using hn
  have h3 : m / n ≤ m := Nat.div_le_self _ _
  have h4 : (m : Int).tdiv (n : Int) = ((m / n : Nat) : Int) := rfl
  generalize m / n = q at h3 h4
  rw [← h4]
  exact ex_quon h1 h2 (by omega) (by rw [h4]; omega)
theorem ex_quoE {t t' : TypeId} {x y : Operand} {m n q : Nat} (hq : m / n = q) (h1 : Ev G e x (.int .i64 (m : Int))) (h2 : Ev G e y (.int .i64 (n : Int))) (hn : Nat.blt 0 n = true) (hb : m < 9223372036854775808) : Ex P Be w0 H G e (.binOp .quo t x y t') ty (.int .i64 (q : Int)) := by
  subst hq
  exact ex_quoN h1 h2 hn hb
theorem ex_remN {t t' : TypeId} {x y : Operand} {m n : Nat} (h1 : Ev G e x (.int .i64 (m : Int))) (h2 : Ev G e y (.int .i64 (n : Int))) (hn : Nat.blt 0 n = true) : Ex P Be w0 H G e (.binOp .rem t x y t') ty (.int .i64 ((m % n : Nat) : Int)) := by
  have hn' : 0 < n := by simpa [Nat.blt_eq] using hn
  exact ex_rem h1 h2 (by omega)
/-- Of one integer type to another. -/
theorem ex_conv {t t' : TypeId} {k k' k2 : IntKind} {x : Operand} {n : Int} (h : Ev G e x (.int k n)) [h1 : TInt P t k2] [h2 : TInt P t' k'] : Ex P Be w0 H G e (.convert t t' x) ty (.int k' (k'.wrap n)) := by
  intro N a w o ho _ hf hh hG
  simp [execOp, ho, h N a hf hG, convert, run_underlying h1.int, run_underlying h2.int, Conv.intToInt]
theorem ex_convin {t t' : TypeId} {k k' k2 : IntKind} {x : Operand} {n : Int} (h : Ev G e x (.int k n)) [h1 : TInt P t k2] [h2 : TInt P t' k'] (hw : k'.wrap n = n) : Ex P Be w0 H G e (.convert t t' x) ty (.int k' n) := by
  have := ex_conv (P := P) (Be := Be) (w0 := w0) (H := H) (ty := ty) (t := t) (t' := t') h
  rwa [hw] at this
theorem ex_xor8 {t t' : TypeId} {x y : Operand} {m n : Nat} (h1 : Ev G e x (.int .u8 (m : Int))) (h2 : Ev G e y (.int .u8 (n : Int))) (hm : m < 256) (hn : n < 256) : Ex P Be w0 H G e (.binOp .xor t x y t') ty (.int .u8 ((m ^^^ n : Nat) : Int)) :=
  ex_int h1 h2 fun w => by rw [binOp_xor, intBits_xor, Go.u8_xor_nat m n hm hn]; rfl

/-- 's[a:b]' of a slice with room behind. -/
theorem ex_slice_lh {t el : TypeId} {x y z : Operand} {g off n c sz : Nat} {k k2 : IntKind} {l h : Nat} (h1 : Ev G e x (.slice (some ⟨g, off, none⟩) n c)) (h2 : Ev G e y (.int k (l : Int))) (h3 : Ev G e z (.int k2 (h : Int))) (hb : l ≤ h ∧ h ≤ c ∧ l < c) [ht : TSlice P t el] [hs : TSize P el sz] :
    Ex P Be w0 H G e (.slice t x (some y) (some z) none) ty (.slice (some ⟨g, off + l * sz, none⟩) (h - l) (c - l)) := by
  intro N a w o ho _ hf hh hG
  have he : P.elem t = el := by simp [Program.elem, ht.slice]
  simp only [execOp, ho, h1 N a hf hG, Option.map_none, Option.map_some, h2 N a hf hG, h3 N a hf hG, Instr.sliceAt, Sem.run_bind, run_underlying ht.slice, Result.andThen_ok]
  rw [run_slice_lh w t _ n c (by rw [he]; exact ht.slice) k k2 l h (by omega) (by omega) (by omega), he, hs.run w]
  have h4 : ¬ c = l := by omega
  simp [sliced, h4, addr_add]
theorem ex_sslice {t : TypeId} {x y z : Operand} {s : ByteArray} {k k2 : IntKind} {l h : Int} (h1 : Ev G e x (.string s)) (h2 : Ev G e y (.int k l)) (h3 : Ev G e z (.int k2 h)) (hb : 0 ≤ l ∧ l ≤ h ∧ h ≤ s.size) [ht : TStr P t] : Ex P Be w0 H G e (.slice t x (some y) (some z) none) ty (.string (s.extract l.toNat h.toNat)) := by
  intro N a w o ho _ hf hh hG
  simp only [execOp, ho, h1 N a hf hG, Option.map_none, Option.map_some, h2 N a hf hG, h3 N a hf hG, Instr.sliceAt, Sem.run_bind, run_underlying ht.str, Result.andThen_ok]
  rw [run_slice_string w t s k k2 l h ht.str hb.1 hb.2.1 hb.2.2]
  simp
theorem ex_sslice_h {t : TypeId} {x z : Operand} {s : ByteArray} {k2 : IntKind} {h : Int} (h1 : Ev G e x (.string s)) (h3 : Ev G e z (.int k2 h)) (hb : 0 ≤ h ∧ h ≤ s.size) [ht : TStr P t] : Ex P Be w0 H G e (.slice t x none (some z) none) ty (.string (s.extract 0 h.toNat)) := by
  intro N a w o ho _ hf hh hG
  simp only [execOp, ho, h1 N a hf hG, Option.map_none, Option.map_some, h3 N a hf hG, Instr.sliceAt, Sem.run_bind, run_underlying ht.str, Result.andThen_ok]
  rw [run_slice_string_h w t s ht.str k2 h hb.1 hb.2]
  simp
theorem ex_sslice_l {t : TypeId} {x z : Operand} {s : ByteArray} {k2 : IntKind} {h : Int} (h1 : Ev G e x (.string s)) (h3 : Ev G e z (.int k2 h)) (hb : 0 ≤ h ∧ h ≤ s.size) [ht : TStr P t] : Ex P Be w0 H G e (.slice t x (some z) none none) ty (.string (s.extract h.toNat s.size)) := by
  intro N a w o ho _ hf hh hG
  simp only [execOp, ho, h1 N a hf hG, Option.map_none, Option.map_some, h3 N a hf hG, Instr.sliceAt, Sem.run_bind, run_underlying ht.str, Result.andThen_ok]
  rw [run_slice_string_l w t s ht.str k2 h hb.1 hb.2]
  simp

/-- 'string(b)' where the cells behind b are the bytes of s. -/
theorem ex_bytes_str {t t' el : TypeId} {x : Operand} {g off n c : Nat} {cs : Array Value} {T : TypeId} {f : Nat × Nat} {s : ByteArray} (h : Ev G e x (.slice (some ⟨g, off, none⟩) n c)) (hm : Bk Be w0 H g (.cells cs T f)) (hn : s.size = n) (hs : ∀ j v, (byteCells s)[j]? = some v → cs[off + j]? = some v)
    [h1 : TSlice P t el] [h2 : TInt P el .u8] [h3 : TStr P t'] : Ex P Be w0 H G e (.convert t t' x) ty (.string s) := by
  intro N a w o ho _ hf hh hG
  subst hn
  have := run_convert_bytes_back (P := P) w t t' el ⟨g, off, none⟩ c s.data.toList h1.slice h2.int h3.str (fun j hj => by
    rw [addr_add]
    refine (hm.cell hh _).trans (hs j _ ?_)
    simp only [byteCells, List.getElem?_map, List.getElem?_eq_getElem hj, Option.map_some])
  have hlen : s.data.toList.length = s.size := by simp
  rw [hlen] at this
  simp only [execOp, ho, h N a hf hG, Sem.run_bind, this, Result.andThen_ok, Sem.run_pure]
/-- A part of a block, told. -/
theorem ex_loadpartE {t : TypeId} {x : Operand} {g i n : Nat} {cs cs' : Array Value} {T : TypeId} {f : Nat × Nat} (h : Ev G e x (.pointer (some ⟨g, i, none⟩))) (hm : Bk Be w0 H g (.cells cs T f)) (hn : cs'.size = n) (hc : (cs.toList.drop i).take n = cs'.toList) [TAgg P t] [TSize P t n] : Ex P Be w0 H G e (.load t x) ty (.agg cs') :=
  ex_loadn h hn fun w hh j v hj => by
    rw [addr_add]
    refine (hm.cell hh (i + j)).trans ?_
    have h1 : cs'.toList[j]? = some v := by simpa using hj
    rw [← hc, List.getElem?_take] at h1
    split at h1
    · rw [List.getElem?_drop] at h1; simpa using h1
    · cases h1
/-- Of an element of an own row. -/
theorem ex_loadelemO {α : Type} {C : α → Array Value} {t : TypeId} {x : Operand} {g i sz : Nat} {ad : Addr} {xs : List α} {y : α} {tail : List Value} {T : TypeId} {f : Nat × Nat} (h : Ev G e x (.pointer (some (ad.add (i * sz))))) (hA : ad = ⟨g, 0, none⟩) (hm : Bk Be w0 H g (.cells ((xs.flatMap fun x => (C x).toList) ++ tail).toArray T f))
    (hsz : ∀ x ∈ xs, (C x).size = sz) (hy : xs[i]? = some y) [TAgg P t] [hs : TSize P t sz] : Ex P Be w0 H G e (.load t x) ty (.agg (C y)) := by
  subst hA
  refine ex_loadn h (hsz y (List.mem_of_getElem? hy)) fun w hh j v hj => ?_
  rw [addr_add, addr_add]
  refine (hm.cell hh _).trans ?_
  have := flatMap_get (f := fun x => (C x).toList) (sz := sz) xs (fun x hx => by simpa using hsz x hx) i y hy j v (by simpa using hj)
  simp only [List.getElem?_toArray, Nat.zero_add]
  rw [List.getElem?_append_left (List.getElem?_eq_some_iff.1 this).1]
  exact this
theorem ex_loadfieldO {α : Type} {C : α → Array Value} {t : TypeId} {x : Operand} {g i k sz : Nat} {ad : Addr} {xs : List α} {y : α} {v : Value} {tail : List Value} {T : TypeId} {f : Nat × Nat} (h : Ev G e x (.pointer (some ((ad.add (i * sz)).add k)))) (hA : ad = ⟨g, 0, none⟩) (hm : Bk Be w0 H g (.cells ((xs.flatMap fun x => (C x).toList) ++ tail).toArray T f))
    (hsz : ∀ x ∈ xs, (C x).size = sz) (hy : xs[i]? = some y) (hv : (C y)[k]? = some v) [TCell P t] : Ex P Be w0 H G e (.load t x) ty v := by
  subst hA
  refine ex_load1 h fun w hh => ?_
  rw [addr_add, addr_add]
  refine (hm.cell hh _).trans ?_
  have := flatMap_get (f := fun x => (C x).toList) (sz := sz) xs (fun x hx => by simpa using hsz x hx) i y hy k v (by simpa using hv)
  simp only [List.getElem?_toArray, Nat.zero_add]
  rw [List.getElem?_append_left (List.getElem?_eq_some_iff.1 this).1]
  exact this
end
end Go.Sy
