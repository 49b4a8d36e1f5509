/-
  Further operations: functions without a Go body, pointers compared and turned, arrays indexed, a row's bytes frozen into a string.
-/
import Derived.Test.YtoogicafefennaaSm
import Derived.Laws.StandIn
import Derived.Laws.Externs
import Derived.Lib.Builder
import Derived.Lib.UnsafeStr
namespace Go.Sy
open Go.RowKit
set_option linter.unusedVariables false
set_option linter.unusedSimpArgs false

theorem bi_sd {ats : Array TypeId} {ty : TypeId} {cs : Array Bool} {args : Array Value} : builtin .unsafeSliceData ats ty cs args = (do pure (.value (← Builtin.unsafeSliceData_ ats ty args))) := rfl
theorem bi_us {ats : Array TypeId} {ty : TypeId} {cs : Array Bool} {args : Array Value} : builtin .unsafeString ats ty cs args = (do pure (.value (← Builtin.unsafeString_ ats ty args))) := rfl
section
variable {P : Program} {Be : Nat} {w0 : World} {H : Heap} {G : Bool} {e : Env} {ty : TypeId}
/-- A function without a Go body: its result at once. -/
theorem ex_extern {f : FuncId} {xs : List Operand} {ts : Array TypeId} {vs : List Value} {v : Value} (h : Evs G e xs vs) (hr : ∀ w, (callFunc f vs.toArray).run P w = .ok (.value v) w) : Ex P Be w0 H G e (.call ⟨.value (.func f), xs.toArray, ts⟩) ty v := by
  intro N a w o ho _ hf hh hG
  have h1 := h N a hf hG
  have hc : a.eval (.func f) = .func (.func f) #[] #[] := rfl
  simp only [execOp, ho, resolve, Deferred.ofValue, hc, Sem.run_bind, Sem.run_pure, Result.andThen_ok, invoke]
  have h2 : Array.map a.eval xs.toArray = vs.toArray := by simp [h1]
  rw [h2]
  have h3 := hr w
  simpa using h3
/-- A pointer held against itself. -/
theorem ex_pneqS {t t' el n : TypeId} {x y : Operand} {p : Addr} (h1 : Ev G e x (.pointer (some p))) (h2 : Ev G e y (.pointer (some p))) [ht : TPtr P t el] [hs : TSize P el n] : Ex P Be w0 H G e (.binOp .neq t x y t') ty (.bool false) := by
  intro N a w o ho _ hf hh hG
  obtain ⟨i, hi⟩ : ∃ i, P.info? el = some i := by
    have := hs.size
    cases h : P.info? el with
    | none => rw [h] at this; cases this
    | some i => exact ⟨i, rfl⟩
  simp only [execOp, ho, h1 N a hf hG, h2 N a hf hG, Sem.run_bind]
  have : (eqGuard .neq t x y (.pointer (some p)) (.pointer (some p))).run P w = .ok () w := by unfold eqGuard; simp
  rw [this]
  simp only [Result.andThen_ok, Lib.run_neq_ptr_same w p ht.ptr hi]
  rfl
/-- To unsafe.Pointer and back. -/
theorem ex_toUnsafe {t t' el n : TypeId} {x : Operand} {g k : Nat} {cs : Array Value} {T : TypeId} {f : Nat × Nat} (h : Ev G e x (.pointer (some ⟨g, k, none⟩))) (hm : Bk Be w0 H g (.cells cs T f)) (hk : Nat.blt k cs.size = true) [ht : TPtr P t el] [hs : TSize P el n] (hn : Nat.beq n 0 = false) (hd : P.underlying t' = some .unsafePointer) :
    Ex P Be w0 H G e (.convert t t' x) ty (.pointer (some ⟨g, k, none⟩)) := by
  intro N a w o ho _ hf hh hG
  obtain ⟨i, hi⟩ : ∃ i, P.info? el = some i := by
    have := hs.size
    cases h : P.info? el with
    | none => rw [h] at this; cases this
    | some i => exact ⟨i, rfl⟩
  have his : i.size = n := by have := hs.size; rw [hi] at this; simpa using this
  have hw := hm w hh
  have := Lib.run_to_unsafe (P := P) w (src := t) (dst := t') (e := T) (cells := cs.size) ⟨g, k, none⟩ ht.ptr hd hi (by rw [his]; intro h0; subst h0; cases hn) (by simp [World.shape?, hw]) (by simpa [Nat.blt_eq] using hk)
  simp only [execOp, ho, h N a hf hG, Sem.run_bind, this, Result.andThen_ok, Sem.run_pure]
theorem ex_fromUnsafe {t t' el n : TypeId} {x : Operand} {g k : Nat} {cs : Array Value} {T : TypeId} {f : Nat × Nat} (h : Ev G e x (.pointer (some ⟨g, k, none⟩))) (hm : Bk Be w0 H g (.cells cs T f)) [ht : TPtr P t' el] [hs : TSize P el n] (hd : P.underlying t = some .unsafePointer)
    (hl : liesAt P P.depth T (cs.size / P.cellsOf T) k el 1 = true) : Ex P Be w0 H G e (.convert t t' x) ty (.pointer (some ⟨g, k, none⟩)) := by
  intro N a w o ho _ hf hh hG
  obtain ⟨i, hi⟩ : ∃ i, P.info? el = some i := by
    have := hs.size
    cases h : P.info? el with
    | none => rw [h] at this; cases this
    | some i => exact ⟨i, rfl⟩
  have hw := hm w hh
  have := Lib.run_from_unsafe (P := P) w (src := t) (dst := t') (e := T) (cells := cs.size) ⟨g, k, none⟩ hd ht.ptr hi (by simp [World.shape?, hw]) hl
  simp only [execOp, ho, h N a hf hG, Sem.run_bind, this, Result.andThen_ok, Sem.run_pure]
/-- 'a[i]' of an array in a block. -/
theorem ex_indexAddrA {t el : TypeId} {x y : Operand} {k : IntKind} {g off n sz : Nat} {i : Nat} (h : Ev G e x (.pointer (some ⟨g, off, none⟩))) (h2 : Ev G e y (.int k (i : Int))) (hi : i < n) [ht : TArray P t n el] [hs : TSize P el sz] : Ex P Be w0 H G e (.indexAddr t x y) ty (.pointer (some ⟨g, off + i * sz, none⟩)) := by
  intro N a w o ho _ hf hh hG
  simp [execOp, ho, h N a hf hG, h2 N a hf hG, Instr.indexAt, Instr.sureAddr, asIntOf, run_underlying ht.array, hs.run w, hi, addr_add]
theorem ex_indexAddrJ {t el : TypeId} {x y : Operand} {k : IntKind} {g off n sz : Nat} {i j : Nat} (hj : off + i * sz = j) (h : Ev G e x (.pointer (some ⟨g, off, none⟩))) (h2 : Ev G e y (.int k (i : Int))) (hi : i < n) [ht : TArray P t n el] [hs : TSize P el sz] : Ex P Be w0 H G e (.indexAddr t x y) ty (.pointer (some ⟨g, j, none⟩)) := by
  subst hj
  exact ex_indexAddrA h h2 hi
/-- unsafe.SliceData of a slice with room, of nil. -/
theorem ex_sliceData {x : Operand} {ts : Array TypeId} {p : Addr} {n c : Nat} (h : Ev G e x (.slice (some p) n c)) (hc : 0 < c) : Ex P Be w0 H G e (.call ⟨.builtin .unsafeSliceData, #[x], ts⟩) ty (.pointer (some p)) := by
  intro N a w o ho _ hf hh hG
  have := Lib.run_unsafeSliceData_row (P := P) w ts o.type p n c (by omega)
  simp only [execOp, ho, resolve, invoke, Sem.run_bind, Sem.run_pure, Result.andThen_ok, List.map_toArray, List.map_cons, List.map_nil, h N a hf hG, bi_sd, this, Sem.run_bind, Sem.run_pure, Result.andThen_ok]
theorem ex_sliceDataN {x : Operand} {ts : Array TypeId} {n c : Nat} (h : Ev G e x (.slice none n c)) : Ex P Be w0 H G e (.call ⟨.builtin .unsafeSliceData, #[x], ts⟩) ty (.pointer none) := by
  intro N a w o ho _ hf hh hG
  have := Lib.run_unsafeSliceData_nil (P := P) w ts o.type n c
  simp only [execOp, ho, resolve, invoke, Sem.run_bind, Sem.run_pure, Result.andThen_ok, List.map_toArray, List.map_cons, List.map_nil, h N a hf hG, bi_sd, this, Sem.run_bind, Sem.run_pure, Result.andThen_ok]
theorem ex_unsafeStringN {x y : Operand} {pt it : TypeId} {p : Option Addr} (h : Ev G e x (.pointer p)) (h2 : Ev G e y (.int .i64 0)) : Ex P Be w0 H G e (.call ⟨.builtin .unsafeString, #[x, y], #[pt, it]⟩) ty (.string .empty) := by
  intro N a w o ho _ hf hh hG
  have := Lib.run_unsafeString_none (P := P) w pt it o.type p
  simp only [execOp, ho, resolve, invoke, Sem.run_bind, Sem.run_pure, Result.andThen_ok, List.map_toArray, List.map_cons, List.map_nil, h N a hf hG, h2 N a hf hG, bi_us, this, Sem.run_bind, Sem.run_pure, Result.andThen_ok]
end

theorem Hp.freeze {Be : Nat} {w0 w : World} {H : Heap} {g n : Nat} (h : Hp Be w0 H w) (hg : ∀ p ∈ H, p.1 ≠ g) (hfr : w0.heap.size ≤ g) : Hp Be w0 H (w.freeze ⟨g, 0, none⟩ n) := by
  unfold World.freeze
  split
  · exact h
  · refine ⟨h.os, h.tape, h.output, by simpa using h.size, h.be, fun k hk hn => ?_, fun p hp => ?_, h.dist, h.low⟩
    · simp only [Array.getElem?_modify]
      rw [if_neg (by omega)]
      exact h.old k hk hn
    · simp only [Array.getElem?_modify]
      rw [if_neg (fun e => hg p hp e.symm)]
      exact h.own p hp

section
variable {P : Program} {N Be : Nat} {Q : Post} {e : Env} {w0 : World} {H : Heap} {ops : Array Oper} {rest : List Oper} {ty : TypeId} {pos : String} {after : Array Edge} {d : Nat}
/-- unsafe.String over the head of an own row: the row is forgotten. -/
theorem spl_unsafeString {x y : Operand} {pt it T : TypeId} {g : Nat} {s : ByteArray} {cs : Array Value} {Hr : Heap} (hN : Nat.blt d N = true) (hx : Ev true e x (.pointer (some ⟨g, 0, none⟩))) (hy : Ev true e y (.int .i64 (s.size : Int))) (hrem : Rem H g (.cells cs T (0, 0)) Hr) (hfr : w0.heap.size ≤ g)
    [hp : TPtr P pt T] (hc : P.cellsOf T = 1) (h0 : 0 < s.size) (hn : s.size ≤ cs.size) (h63 : s.size ≤ 9223372036854775807) (hcell : ∀ (j : Nat) (v : Value), (byteCells s)[j]? = some v → cs[j]? = some v)
    (k : Spl P N Be ops Q rest ((d, true, .string s) :: e) w0 Hr) :
    Spl P N Be ops Q (⟨some d, .call ⟨.builtin .unsafeString, #[x, y], #[pt, it]⟩, ty, pos, after, none⟩ :: rest) e w0 H := by
  intro a w hf hh
  have hd : d < N := by simpa [Nat.blt_eq] using hN
  refine wpList_plain rfl fun K hK => ?_
  have hh1 := hh.perm hrem.perm
  have hg : w.heap[g]? = some (.cells cs T (0, 0)) := hh1.own _ (.head _)
  have hlen : s.data.toList.length = s.size := by simp
  have hr := Lib.run_unsafeString_row (P := P) w pt it ty T hp.ptr hc g cs.size (by simp [World.shape?, hg]) s.data.toList (by intro h; rw [h] at hlen; simp at hlen; omega) (by rw [hlen]; exact hn) (by rw [hlen]; exact h63)
    (fun j b hb => by
      have h1 : (byteCells s)[j]? = some (.int .u8 b.toNat) := by simp only [byteCells, List.getElem?_map, hb, Option.map_some]
      have h2 := hcell j _ h1
      rw [addr_add]
      simp [World.cell?, hg, h2])
  rw [hlen] at hr
  have hs : (⟨s.data.toList.toArray⟩ : ByteArray) = s := by simp
  rw [hs] at hr
  have hr' : (execOp a.eval ⟨some d, .call ⟨.builtin .unsafeString, #[x, y], #[pt, it]⟩, ty, pos, after, none⟩).run P w = .ok (.value (.string s)) (w.freeze ⟨g, 0, none⟩ s.size) := by
    simp only [execOp, resolve, invoke, Sem.run_bind, Sem.run_pure, Result.andThen_ok, List.map_toArray, List.map_cons, List.map_nil, hx N a hf rfl, hy N a hf rfl, bi_us, hr, Sem.run_bind, Sem.run_pure, Result.andThen_ok]
  unfold Oper.wp
  rw [hr', Oper.upon_value]
  have hd1 := hh1.dist
  rw [List.map_cons, List.nodup_cons] at hd1
  refine hK _ _ (k _ _ (hf.puttrue hd) (Hp.freeze (hh1.sub (HKeep.drop hfr HKeep.refl)) (fun p hp e => hd1.1 ?_) hfr))
  rw [← e]
  exact List.mem_map.2 ⟨p, hp, rfl⟩
end
end Go.Sy
