/-
  Texts and tokens in plain terms.
-/
import Derived.Test.YtfdjlphfohnnnaaQF1
import Derived.Laws.StandIn
import Derived.Laws.Externs
import Derived.Lib.Builder
import Derived.Lib.UnsafeStr
import Derived.RangeFuncOwn
import Derived.OrdersIn
import Derived.TacticsIn
import Derived.Scope
namespace Go.Proofs.Ytfdjlphfohnnnaa
open Go.RowKit Go.Sy
set_option linter.unusedVariables false
set_option linter.unusedSimpArgs false

def isLetter (c : UInt8) : Bool := (decide ((97 : Int) ≤ c.toNat) && decide ((c.toNat : Int) ≤ 122)) || (decide ((65 : Int) ≤ c.toNat) && decide ((c.toNat : Int) ≤ 90))
def isDigit (c : UInt8) : Bool := decide ((48 : Int) ≤ c.toNat) && decide ((c.toNat : Int) ≤ 57)
def isWord (c : UInt8) : Bool := (isLetter c || isDigit c) || decide ((c.toNat : Int) = 95)
def blanks : ByteArray := ⟨#[32, 9, 10]⟩
def symbols : ByteArray := ⟨#[59, 44, 46, 58, 40, 41, 123, 125, 91, 93, 61, 60, 62, 47, 43, 45, 42]⟩
def hasB (s : ByteArray) (c : UInt8) : Bool := s.data.toList.any fun x => decide ((x.toNat : Int) = c.toNat)
def isBlank (c : UInt8) : Bool := hasB blanks c
def isSym (c : UInt8) : Bool := hasB symbols c
theorem isBlank_iff (c : UInt8) : isBlank c = true ↔ c.toNat = 32 ∨ c.toNat = 9 ∨ c.toNat = 10 := by
  simp [isBlank, hasB, blanks]; omega
/-- What is behind the gaps; within a comment or not. -/
def skipM : Bool → List UInt8 → List UInt8
  | _, [] => []
  | true, c :: r => if c.toNat = 10 then skipM false r else skipM true r
  | false, c :: r => if isBlank c then skipM false r else if c.toNat = 35 then skipM true r else c :: r
theorem skipM_le : ∀ (b : Bool) (l : List UInt8), (skipM b l).length ≤ l.length
  | _, [] => Nat.le_refl _
  | true, c :: r => by
    simp only [skipM]
    split
    · exact Nat.le_trans (skipM_le false r) (Nat.le_succ _)
    · exact Nat.le_trans (skipM_le true r) (Nat.le_succ _)
  | false, c :: r => by
    simp only [skipM]
    split
    · exact Nat.le_trans (skipM_le false r) (Nat.le_succ _)
    · split
      · exact Nat.le_trans (skipM_le true r) (Nat.le_succ _)
      · exact Nat.le_refl _
theorem skip_nl (l : List UInt8) (h : l = [] ∨ ∃ c r, l = c :: r ∧ c.toNat = 10) : skipM true l = skipM false l := by
  rcases h with rfl | ⟨c, r, rfl, hc⟩
  · rfl
  · have : isBlank c = true := (isBlank_iff c).2 (.inr (.inr hc))
    simp [skipM, hc, this]
def tx (t : ByteArray) : List UInt8 := t.data.toList
theorem tx_len (t : ByteArray) : (tx t).length = t.size := by simp [tx]
def gapEnd (t : ByteArray) (i : Nat) : Nat := t.size - (skipM false ((tx t).drop i)).length
theorem drop_at {t : ByteArray} {i : Nat} (h : i < t.size) : ∃ (c : UInt8) (hc : t[i] = c), (tx t).drop i = c :: (tx t).drop (i + 1) := by
  have hl : i < (tx t).length := by rw [tx_len]; exact h
  refine ⟨t[i], rfl, ?_⟩
  rw [← List.getElem_cons_drop hl]
  congr 1
theorem drop_end {t : ByteArray} {i : Nat} (h : t.size ≤ i) : (tx t).drop i = [] := List.drop_eq_nil_of_le (by rw [tx_len]; exact h)
/-- A name. -/
def nameL (l : List UInt8) : Bool := match l with | [] => false | c :: _ => isLetter c && l.all isWord && decide (l.length ≤ 24)
end Go.Proofs.Ytfdjlphfohnnnaa
/-
  Bytes of texts read at known places (for seats without the reference of layer 5).
-/
namespace Go.Proofs.Ytfdjlphfohnnnaa
open Go.RowKit Go.Sy
set_option linter.unusedVariables false
set_option linter.unusedSimpArgs false
theorem ex_sindexE {P : Program} {Be : Nat} {w0 : World} {H : Heap} {G : Bool} {e : Env} {ty : TypeId} {x y : Operand} {t : TypeId} {k : IntKind} {s : ByteArray} {i : Nat} {b : UInt8} (hi : i < s.size) (hb : s[i] = b) (h : Ev G e x (.string s)) (h2 : Ev G e y (.int k i)) [ht : TStr P t] : Ex P Be w0 H G e (.index t x y) ty (.int .u8 (b.toNat : Nat)) := by
  subst hb
  exact ex_sindex h h2 hi
/-- Where the guard says no, nothing is looked at. -/
theorem ex_index_dead {P : Program} {Be : Nat} {w0 : World} {H : Heap} {G : Bool} {e : Env} {ty t : TypeId} {x y : Operand} (h : G = false) : Ex P Be w0 H G e (.index t x y) ty (.int .u8 0) := fun _ _ _ _ _ _ _ _ hG => by rw [h] at hG; cases hG
end Go.Proofs.Ytfdjlphfohnnnaa
/-
  Further operations: functions without a Go body, pointers compared and turned, arrays indexed, a row's bytes frozen into a string.
-/
namespace Go.Sy
open Go.RowKit
set_option linter.unusedVariables false
set_option linter.unusedSimpArgs false

theorem bi_sd {ats : Array TypeId} {ty : TypeId} {cs : Array Bool} {args : Array Value} : builtin .unsafeSliceData ats ty cs args = (do pure (.value (← Builtin.unsafeSliceData_ ats ty args))) := rfl
theorem bi_us {ats : Array TypeId} {ty : TypeId} {cs : Array Bool} {args : Array Value} : builtin .unsafeString ats ty cs args = (do pure (.value (← Builtin.unsafeString_ ats ty args))) := rfl
section
variable {P : Program} {Be : Nat} {w0 : World} {H : Heap} {G : Bool} {e : Env} {ty : TypeId}
/-- A function without a Go body: its result at once. -/
theorem ex_extern {f : FuncId} {xs : List Operand} {ts : Array TypeId} {vs : List Value} {v : Value} (h : Evs G e xs vs) (hr : ∀ w, (callFunc f vs.toArray).run P w = .ok (.value v) w) : Ex P Be w0 H G e (.call ⟨.value (.func f), xs.toArray, ts⟩) ty v := by
  intro N a w o ho _ hf hh hG
  have h1 := h N a hf hG
  have hc : a.eval (.func f) = .func (.func f) #[] #[] := rfl
  simp only [execOp, ho, resolve, Deferred.ofValue, hc, Sem.run_bind, Sem.run_pure, Result.andThen_ok, invoke]
  have h2 : Array.map a.eval xs.toArray = vs.toArray := by simp [h1]
  rw [h2]
  have h3 := hr w
  simpa using h3
/-- A pointer held against itself. -/
theorem ex_pneqS {t t' el n : TypeId} {x y : Operand} {p : Addr} (h1 : Ev G e x (.pointer (some p))) (h2 : Ev G e y (.pointer (some p))) [ht : TPtr P t el] [hs : TSize P el n] : Ex P Be w0 H G e (.binOp .neq t x y t') ty (.bool false) := by
  intro N a w o ho _ hf hh hG
  obtain ⟨i, hi⟩ : ∃ i, P.info? el = some i := by
    have := hs.size
    cases h : P.info? el with
    | none => rw [h] at this; cases this
    | some i => exact ⟨i, rfl⟩
  simp only [execOp, ho, h1 N a hf hG, h2 N a hf hG, Sem.run_bind]
  have : (eqGuard .neq t x y (.pointer (some p)) (.pointer (some p))).run P w = .ok () w := by unfold eqGuard; simp
  rw [this]
  simp only [Result.andThen_ok, Lib.run_neq_ptr_same w p ht.ptr hi]
  rfl
/-- To unsafe.Pointer and back. -/
theorem ex_toUnsafe {t t' el n : TypeId} {x : Operand} {g k : Nat} {cs : Array Value} {T : TypeId} {f : Nat × Nat} (h : Ev G e x (.pointer (some ⟨g, k, none⟩))) (hm : Bk Be w0 H g (.cells cs T f)) (hk : Nat.blt k cs.size = true) [ht : TPtr P t el] [hs : TSize P el n] (hn : Nat.beq n 0 = false) (hd : P.underlying t' = some .unsafePointer) :
    Ex P Be w0 H G e (.convert t t' x) ty (.pointer (some ⟨g, k, none⟩)) := by
  intro N a w o ho _ hf hh hG
  obtain ⟨i, hi⟩ : ∃ i, P.info? el = some i := by
    have := hs.size
    cases h : P.info? el with
    | none => rw [h] at this; cases this
    | some i => exact ⟨i, rfl⟩
  have his : i.size = n := by have := hs.size; rw [hi] at this; simpa using this
  have hw := hm w hh
  have := Lib.run_to_unsafe (P := P) w (src := t) (dst := t') (e := T) (cells := cs.size) ⟨g, k, none⟩ ht.ptr hd hi (by rw [his]; intro h0; subst h0; cases hn) (by simp [World.shape?, hw]) (by simpa [Nat.blt_eq] using hk)
  simp only [execOp, ho, h N a hf hG, Sem.run_bind, this, Result.andThen_ok, Sem.run_pure]
theorem ex_fromUnsafe {t t' el n : TypeId} {x : Operand} {g k : Nat} {cs : Array Value} {T : TypeId} {f : Nat × Nat} (h : Ev G e x (.pointer (some ⟨g, k, none⟩))) (hm : Bk Be w0 H g (.cells cs T f)) [ht : TPtr P t' el] [hs : TSize P el n] (hd : P.underlying t = some .unsafePointer)
    (hl : liesAt P P.depth T (cs.size / P.cellsOf T) k el 1 = true) : Ex P Be w0 H G e (.convert t t' x) ty (.pointer (some ⟨g, k, none⟩)) := by
  intro N a w o ho _ hf hh hG
  obtain ⟨i, hi⟩ : ∃ i, P.info? el = some i := by
    have := hs.size
    cases h : P.info? el with
    | none => rw [h] at this; cases this
    | some i => exact ⟨i, rfl⟩
  have hw := hm w hh
  have := Lib.run_from_unsafe (P := P) w (src := t) (dst := t') (e := T) (cells := cs.size) ⟨g, k, none⟩ hd ht.ptr hi (by simp [World.shape?, hw]) hl
  simp only [execOp, ho, h N a hf hG, Sem.run_bind, this, Result.andThen_ok, Sem.run_pure]
/-- 'a[i]' of an array in a block. -/
theorem ex_indexAddrA {t el : TypeId} {x y : Operand} {k : IntKind} {g off n sz : Nat} {i : Nat} (h : Ev G e x (.pointer (some ⟨g, off, none⟩))) (h2 : Ev G e y (.int k (i : Int))) (hi : i < n) [ht : TArray P t n el] [hs : TSize P el sz] : Ex P Be w0 H G e (.indexAddr t x y) ty (.pointer (some ⟨g, off + i * sz, none⟩)) := by
  intro N a w o ho _ hf hh hG
  simp [execOp, ho, h N a hf hG, h2 N a hf hG, Instr.indexAt, Instr.sureAddr, asIntOf, run_underlying ht.array, hs.run w, hi, addr_add]
theorem ex_indexAddrJ {t el : TypeId} {x y : Operand} {k : IntKind} {g off n sz : Nat} {i j : Nat} (hj : off + i * sz = j) (h : Ev G e x (.pointer (some ⟨g, off, none⟩))) (h2 : Ev G e y (.int k (i : Int))) (hi : i < n) [ht : TArray P t n el] [hs : TSize P el sz] : Ex P Be w0 H G e (.indexAddr t x y) ty (.pointer (some ⟨g, j, none⟩)) := by
  subst hj
  exact ex_indexAddrA h h2 hi
/-- unsafe.SliceData of a slice with room, of nil. -/
theorem ex_sliceData {x : Operand} {ts : Array TypeId} {p : Addr} {n c : Nat} (h : Ev G e x (.slice (some p) n c)) (hc : 0 < c) : Ex P Be w0 H G e (.call ⟨.builtin .unsafeSliceData, #[x], ts⟩) ty (.pointer (some p)) := by
  intro N a w o ho _ hf hh hG
  have := Lib.run_unsafeSliceData_row (P := P) w ts o.type p n c (by omega)
  simp only [execOp, ho, resolve, invoke, Sem.run_bind, Sem.run_pure, Result.andThen_ok, List.map_toArray, List.map_cons, List.map_nil, h N a hf hG, bi_sd, this, Sem.run_bind, Sem.run_pure, Result.andThen_ok]
theorem ex_sliceDataN {x : Operand} {ts : Array TypeId} {n c : Nat} (h : Ev G e x (.slice none n c)) : Ex P Be w0 H G e (.call ⟨.builtin .unsafeSliceData, #[x], ts⟩) ty (.pointer none) := by
  intro N a w o ho _ hf hh hG
  have := Lib.run_unsafeSliceData_nil (P := P) w ts o.type n c
  simp only [execOp, ho, resolve, invoke, Sem.run_bind, Sem.run_pure, Result.andThen_ok, List.map_toArray, List.map_cons, List.map_nil, h N a hf hG, bi_sd, this, Sem.run_bind, Sem.run_pure, Result.andThen_ok]
theorem ex_unsafeStringN {x y : Operand} {pt it : TypeId} {p : Option Addr} (h : Ev G e x (.pointer p)) (h2 : Ev G e y (.int .i64 0)) : Ex P Be w0 H G e (.call ⟨.builtin .unsafeString, #[x, y], #[pt, it]⟩) ty (.string .empty) := by
  intro N a w o ho _ hf hh hG
  have := Lib.run_unsafeString_none (P := P) w pt it o.type p
  simp only [execOp, ho, resolve, invoke, Sem.run_bind, Sem.run_pure, Result.andThen_ok, List.map_toArray, List.map_cons, List.map_nil, h N a hf hG, h2 N a hf hG, bi_us, this, Sem.run_bind, Sem.run_pure, Result.andThen_ok]
end

theorem Hp.freeze {Be : Nat} {w0 w : World} {H : Heap} {g n : Nat} (h : Hp Be w0 H w) (hg : ∀ p ∈ H, p.1 ≠ g) (hfr : w0.heap.size ≤ g) : Hp Be w0 H (w.freeze ⟨g, 0, none⟩ n) := by
  unfold World.freeze
  split
  · exact h
  · refine ⟨h.os, h.tape, h.output, by simpa using h.size, h.be, fun k hk hn => ?_, fun p hp => ?_, h.dist, h.low⟩
    · simp only [Array.getElem?_modify]
      rw [if_neg (by omega)]
      exact h.old k hk hn
    · simp only [Array.getElem?_modify]
      rw [if_neg (fun e => hg p hp e.symm)]
      exact h.own p hp

section
variable {P : Program} {N Be : Nat} {Q : Post} {e : Env} {w0 : World} {H : Heap} {ops : Array Oper} {rest : List Oper} {ty : TypeId} {pos : String} {after : Array Edge} {d : Nat}
/-- unsafe.String over the head of an own row: the row is forgotten. -/
theorem spl_unsafeString {x y : Operand} {pt it T : TypeId} {g : Nat} {s : ByteArray} {cs : Array Value} {Hr : Heap} (hN : Nat.blt d N = true) (hx : Ev true e x (.pointer (some ⟨g, 0, none⟩))) (hy : Ev true e y (.int .i64 (s.size : Int))) (hrem : Rem H g (.cells cs T (0, 0)) Hr) (hfr : w0.heap.size ≤ g)
    [hp : TPtr P pt T] (hc : P.cellsOf T = 1) (h0 : 0 < s.size) (hn : s.size ≤ cs.size) (h63 : s.size ≤ 9223372036854775807) (hcell : ∀ (j : Nat) (v : Value), (byteCells s)[j]? = some v → cs[j]? = some v)
    (k : Spl P N Be ops Q rest ((d, true, .string s) :: e) w0 Hr) :
    Spl P N Be ops Q (⟨some d, .call ⟨.builtin .unsafeString, #[x, y], #[pt, it]⟩, ty, pos, after, none⟩ :: rest) e w0 H := by
  intro a w hf hh
  have hd : d < N := by simpa [Nat.blt_eq] using hN
  refine wpList_plain rfl fun K hK => ?_
  have hh1 := hh.perm hrem.perm
  have hg : w.heap[g]? = some (.cells cs T (0, 0)) := hh1.own _ (.head _)
  have hlen : s.data.toList.length = s.size := by simp
  have hr := Lib.run_unsafeString_row (P := P) w pt it ty T hp.ptr hc g cs.size (by simp [World.shape?, hg]) s.data.toList (by intro h; rw [h] at hlen; simp at hlen; omega) (by rw [hlen]; exact hn) (by rw [hlen]; exact h63)
    (fun j b hb => by
      have h1 : (byteCells s)[j]? = some (.int .u8 b.toNat) := by simp only [byteCells, List.getElem?_map, hb, Option.map_some]
      have h2 := hcell j _ h1
      rw [addr_add]
      simp [World.cell?, hg, h2])
  rw [hlen] at hr
  have hs : (⟨s.data.toList.toArray⟩ : ByteArray) = s := by simp
  rw [hs] at hr
  have hr' : (execOp a.eval ⟨some d, .call ⟨.builtin .unsafeString, #[x, y], #[pt, it]⟩, ty, pos, after, none⟩).run P w = .ok (.value (.string s)) (w.freeze ⟨g, 0, none⟩ s.size) := by
    simp only [execOp, resolve, invoke, Sem.run_bind, Sem.run_pure, Result.andThen_ok, List.map_toArray, List.map_cons, List.map_nil, hx N a hf rfl, hy N a hf rfl, bi_us, hr, Sem.run_bind, Sem.run_pure, Result.andThen_ok]
  unfold Oper.wp
  rw [hr', Oper.upon_value]
  have hd1 := hh1.dist
  rw [List.map_cons, List.nodup_cons] at hd1
  refine hK _ _ (k _ _ (hf.puttrue hd) (Hp.freeze (hh1.sub (HKeep.drop hfr HKeep.refl)) (fun p hp e => hd1.1 ?_) hfr))
  rw [← e]
  exact List.mem_map.2 ⟨p, hp, rfl⟩
end
end Go.Sy
/-
  Contracts: strings.IndexByte, the lexer's classes of bytes, its names.
-/
namespace Go.Proofs.Ytfdjlphfohnnnaa
open Go.RowKit Go.Sy
set_option linter.unusedVariables false
set_option linter.unusedSimpArgs false

theorem indexByte_run (s : ByteArray) (c : UInt8) (w : World) : (callFunc 93 #[.string s, .int .u8 (c.toNat : Int)]).run Try.prog w = .ok (.value (.int .i64 (firstIdx s c))) w := by
  rw [run_callFunc_indexByte Try.func93 (by kernel_rfl) (by kernel_rfl) (by kernel_rfl) (by kernel_rfl), run_indexByte_string]
  simp
theorem firstIdx_has (s : ByteArray) (c : UInt8) : decide (firstIdx s c ≥ 0) = hasB s c := by
  unfold firstIdx
  split
  · rename_i i h
    have h1 := List.find?_some h
    have h2 := List.mem_of_find?_eq_some h
    simp only [List.mem_range] at h2
    have h3 : s[i]! = s[i] := getElem!_pos s i h2
    rw [h3] at h1
    have : hasB s c = true := by
      unfold hasB
      rw [List.any_eq_true]
      refine ⟨s[i], ?_, ?_⟩
      · have : s[i] = s.data.toList[i]'(by simpa using h2) := rfl
        rw [this]
        exact List.getElem_mem _
      · simp only [beq_iff_eq] at h1
        rw [h1]; simp
    rw [this]
    simp
  · rename_i h
    rw [List.find?_eq_none] at h
    have : hasB s c = false := by
      unfold hasB
      rw [List.any_eq_false]
      intro x hx
      obtain ⟨i, hi, rfl⟩ := List.getElem_of_mem hx
      have hi' : i < s.size := by simpa using hi
      have := h i (by simpa using hi')
      rw [getElem!_pos s i hi'] at this
      have h4 : s[i] = s.data.toList[i] := rfl
      rw [← h4]
      simp only [beq_iff_eq] at this
      simp only [decide_eq_true_eq]
      intro he
      exact this (UInt8.toNat.inj (by omega))
    rw [this]
    all_goals rfl
def cls0 (c : UInt8) : Nat := bif isLetter c then 3 else bif isDigit c then 4 else bif isBlank c then 1 else bif isSym c then 6 else 0
def cls (c : UInt8) : Nat := if c.toNat = 34 then 7 else if c.toNat = 95 then 5 else if c.toNat = 35 then 2 else cls0 c
def tabL (k : Nat) : List Value := (List.range 256).map fun j => Value.int .u8 ((bif Nat.blt j k then cls0 j.toUInt8 else 0 : Nat) : Int)
def tabA (k : Nat) : Array Value := (tabL k).toArray
def clsL : List Value := (List.range 256).map fun j => Value.int .u8 ((cls j.toUInt8 : Nat) : Int)
def clsA : Array Value := clsL.toArray
theorem tabA_size (k : Nat) : (tabA k).size = 256 := by simp [tabA, tabL]
theorem clsA_size : clsA.size = 256 := by simp [clsA, clsL]
theorem toUInt8_toNat (c : UInt8) : c.toNat.toUInt8 = c := by simp
theorem clsA_at (c : UInt8) : clsA[0 + c.toNat * 1]? = some (.int .u8 (cls c : Nat)) := by
  have := c.toNat_lt
  simp [clsA, clsL, List.getElem?_range, this]
theorem tabA_get (k i : Nat) : (tabA k)[i]? = if i < 256 then some (.int .u8 ((bif Nat.blt i k then cls0 i.toUInt8 else 0 : Nat) : Int)) else none := by
  simp only [tabA, tabL, List.getElem?_toArray, List.getElem?_map]
  split
  · rename_i h; rw [List.getElem?_range h]; rfl
  · rename_i h; rw [List.getElem?_eq_none (by simpa using h)]; rfl
theorem clsA_get (i : Nat) : clsA[i]? = if i < 256 then some (.int .u8 ((cls i.toUInt8 : Nat) : Int)) else none := by
  simp only [clsA, clsL, List.getElem?_toArray, List.getElem?_map]
  split
  · rename_i h; rw [List.getElem?_range h]; rfl
  · rename_i h; rw [List.getElem?_eq_none (by simpa using h)]; rfl
theorem tabA_step (c : UInt8) : (tabA c.toNat).setIfInBounds c.toNat (.int .u8 (cls0 c : Nat)) = tabA (c.toNat + 1) := by
  have hc : c.toNat < 256 := c.toNat_lt
  refine Array.ext_getElem? fun i => ?_
  rw [Array.getElem?_setIfInBounds, tabA_get, tabA_get, tabA_size]
  by_cases h : c.toNat = i
  · subst h
    have : Nat.blt c.toNat (c.toNat + 1) = true := by rw [Nat.blt_eq]; omega
    rw [if_pos rfl, if_pos hc, if_pos hc, this, toUInt8_toNat]
    all_goals rfl
  · rw [if_neg h]
    have : Nat.blt i (c.toNat + 1) = Nat.blt i c.toNat := by
      rw [Bool.eq_iff_iff, Nat.blt_eq, Nat.blt_eq]
      omega
    rw [this]
theorem tabA_skip (c : UInt8) (h : cls0 c = 0) : tabA (c.toNat + 1) = tabA c.toNat := by
  refine Array.ext_getElem? fun i => ?_
  rw [tabA_get, tabA_get]
  by_cases h' : c.toNat = i
  · subst h'
    rw [toUInt8_toNat, h]
    cases Nat.blt c.toNat (c.toNat + 1) <;> cases Nat.blt c.toNat c.toNat <;> rfl
  · have : Nat.blt i (c.toNat + 1) = Nat.blt i c.toNat := by
      rw [Bool.eq_iff_iff, Nat.blt_eq, Nat.blt_eq]
      omega
    rw [this]
theorem tabA_done : (((tabA 256).setIfInBounds 35 (.int .u8 2)).setIfInBounds 95 (.int .u8 5)).setIfInBounds 34 (.int .u8 7) = clsA := by
  refine Array.ext_getElem? fun i => ?_
  rw [Array.getElem?_setIfInBounds, Array.getElem?_setIfInBounds, Array.getElem?_setIfInBounds, tabA_get, clsA_get, Array.size_setIfInBounds, Array.size_setIfInBounds, tabA_size]
  by_cases h34 : 34 = i
  · subst h34; rfl
  · by_cases h95 : 95 = i
    · subst h95; rfl
    · by_cases h35 : 35 = i
      · subst h35; rfl
      · rw [if_neg h34, if_neg h95, if_neg h35]
        split
        · rename_i hi
          have hb : Nat.blt i 256 = true := by rw [Nat.blt_eq]; exact hi
          have ht : (i.toUInt8).toNat = i := by simp; omega
          unfold cls
          rw [hb, cond_true, ht, if_neg (fun h => h34 h.symm), if_neg (fun h => h95 h.symm), if_neg (fun h => h35 h.symm)]
        · rfl
theorem clsA_ones : ∀ v ∈ clsA, v.oneCell' = true := ones_of_all (by rw [List.all_eq_true]; intro v hv; simp only [clsA, clsL, List.mem_map] at hv; obtain ⟨j, _, rfl⟩ := hv; rfl)
instance (priority := high) zeroClasses : TZero Try.prog 108 (.agg (tabA 0)) := ⟨by kernel_rfl⟩
attribute [local irreducible] Calls thenQ blockQ retQ Spc Spl Spq Ex Ev Evs Gd Upd ESub HKeep Res Res1 wlk effQ Rem SrcAt Split tabA clsA

set_option maxRecDepth 100000 in
theorem indexByte1_c {w : World} (s : ByteArray) (c : UInt8) : Calls Try.prog 91 #[.string s, .int .u8 (c.toNat : Int)] w (Ret w (.int .i64 (firstIdx s c))) := by
  refine sp_enter (vs := [_, _]) Try.func91 rfl Try.ntmps91 rfl ?_
  repeat (first|apply then_n|apply sp_seq|apply sp_region|apply spl_nil|apply sp_ret|((apply spl_pure rfl);(·(first|(apply ex_extern;(·(repeat (first|exact eN|(apply eS;(·exact eT rfl)))));(·exact indexByte_run s c))|((first|apply ex_move|apply ex_assign)<;>(first|exact eT rfl|exact eC))))))
  (apply ret_ok rfl;(·((apply Res.ofOne;((apply Res1.tmp;(·rfl))))))); rfl
set_option maxRecDepth 100000 in
theorem indexByte_c {w : World} (s : ByteArray) (c : UInt8) : Calls Try.prog 85 #[.string s, .int .u8 (c.toNat : Int)] w (Ret w (.int .i64 (firstIdx s c))) := by
  refine sp_enter (vs := [_, _]) Try.func85 rfl Try.ntmps85 rfl ?_
  repeat (first|(apply spl_callp rfl;(·(repeat (first|exact eN|(apply eS;(·exact eT rfl)))));(·exact fun w' hh => indexByte1_c s c))|apply then_n|apply sp_seq|apply sp_region|apply spl_nil|apply sp_ret|((apply spl_pure rfl);(·(((first|apply ex_move|apply ex_assign)<;>(first|exact eT rfl|exact eC))))))
  (apply ret_ok rfl;(·((apply Res.ofOne;((apply Res1.tmp;(·rfl))))))); rfl

set_option maxRecDepth 100000 in
set_option maxHeartbeats 4000000 in
theorem classes_c {w : World} : Calls Try.prog 68 #[] w (Ret w (.agg clsA)) := by
  refine sp_enter (vs := []) Try.func68 rfl Try.ntmps68 rfl ?_
  repeat (first|apply then_n|apply sp_seq|apply sp_region|apply spl_nil|apply sp_block|((apply spl_pure rfl);(·(((apply ex_move)<;>(exact eC)))))|(apply spl_alloc rfl;intro _ _))
  rename_i g0 hg0 g1 hg1
  refine sp_loop (X := Nat) (fun k => [(4, true, .int .i64 (k : Int)), (0, true, .pointer (some ⟨g0, 0, none⟩)), (1, true, .pointer (some ⟨g1, 0, none⟩))]) (fun _ => w) (fun k => [(g1, .cells (tabA k) 108 (0, 0)), (g0, .cells (tabA 0) 108 (0, 0))])
    (fun k => k ≤ 256) (fun k => 256 - k) 0 (Nat.zero_le _) (by (repeat (first|exact ESub.nil|apply ESub.cons rfl))) rfl (by (repeat (exact HKeep.refl))) ?_
  intro k hk
  by_cases hlt : k < 256
  · obtain ⟨c, rfl⟩ : ∃ c : UInt8, c.toNat = k := ⟨k.toUInt8, by simp; omega⟩
    have hblt : Nat.blt c.toNat (tabA c.toNat).size = true := by rw [tabA_size, Nat.blt_eq]; exact hlt
    have hwr : IntKind.u8.wrap (c.toNat : Int) = (c.toNat : Int) := by
      have h1 : (c.toNat : Int) % 256 = c.toNat := by omega
      unfold IntKind.wrap
      simp [IntKind.bits, IntKind.signed, h1]
    have hix : 0 + c.toNat * 1 = c.toNat := by omega
    have hst := tabA_step c
    have hib : decide (firstIdx ⟨#[32, 9, 10]⟩ c ≥ 0) = isBlank c := firstIdx_has blanks c
    have his : decide (firstIdx ⟨#[59, 44, 46, 58, 40, 41, 123, 125, 91, 93, 61, 60, 62, 47, 43, 45, 42]⟩ c ≥ 0) = isSym c := firstIdx_has symbols c
    unfold cls0 at hst
    cases hL : isLetter c with
    | true =>
      simp only [hL, cond_true] at hst
      unfold isLetter at hL
      cases h1 : (decide ((97 : Int) ≤ (c.toNat : Int)) && decide ((c.toNat : Int) ≤ 122)) with
      | true =>
        repeat (first|(apply spl_store1;(·exact eT rfl);(·exact eC);(·rfl);(·(repeat (exact Upd.here)));(·exact hblt))|apply then_n|apply block_n|apply sp_seq|apply sp_region|apply spl_nil|((apply sp_cond_t);(·exact eT rfl);(·(first|exact decide_eq_true (by omega)|assumption)))|apply sp_skip|apply sp_block|((first|apply spl_pure rfl|(apply spl_pure_g rfl;(·exact Gd.tt rfl rfl)));(·(first|(apply ex_convin;(·exact eT rfl);(·exact hwr))|(apply ex_indexAddrJ (j:=c.toNat);(·exact hix);(·exact eT rfl);(·exact eT rfl);(·exact hlt))|((first|apply ex_move|apply ex_assign|apply ex_lss|apply ex_leq|apply ex_andT)<;>(first|exact eT rfl|exact eC|exact eG rfl))|(apply ex_addn<;>(first|exact eT rfl|exact eC|(constructor<;>omega)))))))
        exact ⟨c.toNat + 1, hlt, by omega, (by (repeat (first|exact ESub.nil|apply ESub.cons rfl))), rfl, (by rw [← hst]; (repeat (exact HKeep.refl)))⟩
      | false =>
        have h2 : (decide ((65 : Int) ≤ (c.toNat : Int)) && decide ((c.toNat : Int) ≤ 90)) = true := by rw [h1, Bool.false_or] at hL; exact hL
        repeat (first|(apply spl_store1;(·exact eT rfl);(·exact eC);(·rfl);(·(repeat (exact Upd.here)));(·exact hblt))|apply then_n|apply block_n|apply sp_seq|apply sp_region|apply spl_nil|((apply sp_cond_t);(·exact eT rfl);(·(first|exact decide_eq_true (by omega)|assumption)))|(apply sp_cond_f;(·exact eT rfl);(·(assumption)))|apply sp_skip|apply sp_block|((first|apply spl_pure rfl|(apply spl_pure_g rfl;(·exact Gd.tt rfl rfl)));(·(first|(apply ex_convin;(·exact eT rfl);(·exact hwr))|(apply ex_indexAddrJ (j:=c.toNat);(·exact hix);(·exact eT rfl);(·exact eT rfl);(·exact hlt))|((first|apply ex_move|apply ex_assign|apply ex_lss|apply ex_leq|apply ex_andT)<;>(first|exact eT rfl|exact eC|exact eG rfl))|(apply ex_addn<;>(first|exact eT rfl|exact eC|(constructor<;>omega)))))))
        exact ⟨c.toNat + 1, hlt, by omega, (by (repeat (first|exact ESub.nil|apply ESub.cons rfl))), rfl, (by rw [← hst]; (repeat (exact HKeep.refl)))⟩
    | false =>
      simp only [hL, cond_false] at hst
      unfold isLetter at hL
      obtain ⟨h1, h2⟩ := Bool.or_eq_false_iff.1 hL
      cases hD : isDigit c with
      | true =>
        simp only [hD, cond_true] at hst
        unfold isDigit at hD
        repeat (first|(apply spl_store1;(·exact eT rfl);(·exact eC);(·rfl);(·(repeat (exact Upd.here)));(·exact hblt))|apply then_n|apply block_n|apply sp_seq|apply sp_region|apply spl_nil|((apply sp_cond_t);(·exact eT rfl);(·(first|exact decide_eq_true (by omega)|assumption)))|(apply sp_cond_f;(·exact eT rfl);(·(assumption)))|apply sp_skip|apply sp_block|((first|apply spl_pure rfl|(apply spl_pure_g rfl;(·exact Gd.tt rfl rfl)));(·(first|(apply ex_convin;(·exact eT rfl);(·exact hwr))|(apply ex_indexAddrJ (j:=c.toNat);(·exact hix);(·exact eT rfl);(·exact eT rfl);(·exact hlt))|((first|apply ex_move|apply ex_assign|apply ex_lss|apply ex_leq|apply ex_andT)<;>(first|exact eT rfl|exact eC|exact eG rfl))|(apply ex_addn<;>(first|exact eT rfl|exact eC|(constructor<;>omega)))))))
        exact ⟨c.toNat + 1, hlt, by omega, (by (repeat (first|exact ESub.nil|apply ESub.cons rfl))), rfl, (by rw [← hst]; (repeat (exact HKeep.refl)))⟩
      | false =>
        simp only [hD, cond_false] at hst
        unfold isDigit at hD
        cases hB : isBlank c with
        | true =>
          simp only [hB, cond_true] at hst
          rw [hB] at hib
          repeat (first|(apply spl_callp rfl;(·(repeat (first|exact eN|(apply eS;(·(first|exact eT rfl|exact eC))))));(·exact fun w' hh => indexByte_c _ c))|(apply spl_store1;(·exact eT rfl);(·exact eC);(·rfl);(·(repeat (exact Upd.here)));(·exact hblt))|apply then_n|apply block_n|apply sp_seq|apply sp_region|apply spl_nil|((apply sp_cond_t);(·exact eT rfl);(·(first|exact decide_eq_true (by omega)|assumption)))|(apply sp_cond_f;(·exact eT rfl);(·(assumption)))|apply sp_skip|apply sp_block|((first|apply spl_pure rfl|(apply spl_pure_g rfl;(·exact Gd.tt rfl rfl)));(·(first|(apply ex_convin;(·exact eT rfl);(·exact hwr))|(apply ex_indexAddrJ (j:=c.toNat);(·exact hix);(·exact eT rfl);(·exact eT rfl);(·exact hlt))|((first|apply ex_move|apply ex_assign|apply ex_lss|apply ex_leq|apply ex_geq|apply ex_andT)<;>(first|exact eT rfl|exact eC|exact eG rfl))|(apply ex_addn<;>(first|exact eT rfl|exact eC|(constructor<;>omega)))))))
          exact ⟨c.toNat + 1, hlt, by omega, (by (repeat (first|exact ESub.nil|apply ESub.cons rfl))), rfl, (by rw [← hst]; (repeat (exact HKeep.refl)))⟩
        | false =>
          simp only [hB, cond_false] at hst
          rw [hB] at hib
          cases hS : isSym c with
          | true =>
            simp only [hS, cond_true] at hst
            rw [hS] at his
            repeat (first|(apply spl_callp rfl;(·(repeat (first|exact eN|(apply eS;(·(first|exact eT rfl|exact eC))))));(·exact fun w' hh => indexByte_c _ c))|(apply spl_store1;(·exact eT rfl);(·exact eC);(·rfl);(·(repeat (exact Upd.here)));(·exact hblt))|apply then_n|apply block_n|apply sp_seq|apply sp_region|apply spl_nil|((apply sp_cond_t);(·exact eT rfl);(·(first|exact decide_eq_true (by omega)|assumption)))|(apply sp_cond_f;(·exact eT rfl);(·(assumption)))|apply sp_skip|apply sp_block|((first|apply spl_pure rfl|(apply spl_pure_g rfl;(·exact Gd.tt rfl rfl)));(·(first|(apply ex_convin;(·exact eT rfl);(·exact hwr))|(apply ex_indexAddrJ (j:=c.toNat);(·exact hix);(·exact eT rfl);(·exact eT rfl);(·exact hlt))|((first|apply ex_move|apply ex_assign|apply ex_lss|apply ex_leq|apply ex_geq|apply ex_andT)<;>(first|exact eT rfl|exact eC|exact eG rfl))|(apply ex_addn<;>(first|exact eT rfl|exact eC|(constructor<;>omega)))))))
            exact ⟨c.toNat + 1, hlt, by omega, (by (repeat (first|exact ESub.nil|apply ESub.cons rfl))), rfl, (by rw [← hst]; (repeat (exact HKeep.refl)))⟩
          | false =>
            rw [hS] at his
            have hsk := tabA_skip c (by unfold cls0 isLetter isDigit; simp only [h1, h2, hD, hB, hS, Bool.or_false, cond_false])
            repeat (first|(apply spl_callp rfl;(·(repeat (first|exact eN|(apply eS;(·(first|exact eT rfl|exact eC))))));(·exact fun w' hh => indexByte_c _ c))|apply then_n|apply block_n|apply sp_seq|apply sp_region|apply spl_nil|((apply sp_cond_t);(·exact eT rfl);(·(exact decide_eq_true (by omega))))|(apply sp_cond_f;(·exact eT rfl);(·(assumption)))|apply sp_skip|apply sp_block|((first|apply spl_pure rfl|(apply spl_pure_g rfl;(·exact Gd.tt rfl rfl)));(·(first|(apply ex_convin;(·exact eT rfl);(·exact hwr))|((first|apply ex_move|apply ex_assign|apply ex_lss|apply ex_leq|apply ex_geq|apply ex_andT)<;>(first|exact eT rfl|exact eC|exact eG rfl))|(apply ex_addn<;>(first|exact eT rfl|exact eC|(constructor<;>omega)))))))
            exact ⟨c.toNat + 1, hlt, by omega, (by (repeat (first|exact ESub.nil|apply ESub.cons rfl))), rfl, (by rw [hsk]; (repeat (exact HKeep.refl)))⟩
  · have : k = 256 := by omega
    subst this
    have hs0 := tabA_size 256
    have hs00 := tabA_size 0
    have hs1 : ((((tabA 256).setIfInBounds 35 (.int .u8 2)).setIfInBounds 95 (.int .u8 5)).setIfInBounds 34 (.int .u8 7)).size = 256 := by rw [tabA_done, clsA_size]
    have hon : ∀ v ∈ ((((tabA 256).setIfInBounds 35 (.int .u8 2)).setIfInBounds 95 (.int .u8 5)).setIfInBounds 34 (.int .u8 7)), v.oneCell' = true := by rw [tabA_done]; exact clsA_ones
    repeat (first|(apply spl_store1;(·exact eT rfl);(·exact eC);(·rfl);(·(repeat (exact Upd.here)));(·(simp [hs0])))|apply then_n|apply sp_seq|apply sp_region|apply spl_nil|apply then_e|apply block_here|(apply sp_cond_f;(·exact eT rfl);(·(exact decide_eq_false (by omega))))|apply sp_ret|apply sp_exit|((apply spl_pure rfl);(·(first|(apply ex_indexAddrJ (i:=35) (j:=35);(·rfl);(·exact eT rfl);(·exact eC);(·decide))|(apply ex_indexAddrJ (i:=95) (j:=95);(·rfl);(·exact eT rfl);(·exact eC);(·decide))|(apply ex_indexAddrJ (i:=34) (j:=34);(·rfl);(·exact eT rfl);(·exact eC);(·decide))|((apply ex_lss)<;>(first|exact eT rfl|exact eC))|((apply ex_loadowns)<;>(first|exact eT rfl|exact Bk.own InH.mem|(assumption))))))|(apply spl_stores;(·exact eT rfl);(·exact eT rfl);(·(repeat (first|exact Upd.here|apply Upd.there)));(·(assumption));(·(assumption));(·(assumption))))
    (apply ret_ok rfl;(·((apply Res.ofOne;((apply Res1.cell;(·rfl);(·exact InH.mem);(·(assumption))))))))
    rw [tabA_done]
end Go.Proofs.Ytfdjlphfohnnnaa
/-
  Contracts: the lexer's names.
-/
namespace Go.Proofs.Ytfdjlphfohnnnaa
open Go.RowKit Go.Sy
set_option linter.unusedVariables false
set_option linter.unusedSimpArgs false
def clsP (c : UInt8) : Bool := (decide (((cls c : Nat) : Int) = 3) == isLetter c) && (decide (((cls c : Nat) : Int) = 4) == isDigit c) && (decide (((cls c : Nat) : Int) = 5) == decide ((c.toNat : Int) = 95)) && (decide (((cls c : Nat) : Int) = 1) == isBlank c) && (decide (((cls c : Nat) : Int) = 2) == decide ((c.toNat : Int) = 35)) && (decide (((cls c : Nat) : Int) = 6) == isSym c) && (decide (((cls c : Nat) : Int) = 7) == decide ((c.toNat : Int) = 34))
theorem all_bytes {p : UInt8 → Bool} (h : ((List.range 256).all fun n => p n.toUInt8) = true) (c : UInt8) : p c = true := by
  have := List.all_eq_true.1 h c.toNat (by simpa using c.toNat_lt)
  rwa [toUInt8_toNat] at this
theorem clsP_all (c : UInt8) : clsP c = true := all_bytes (by kernel_rfl) c
theorem clsF (c : UInt8) : decide (((cls c : Nat) : Int) = 3) = isLetter c ∧ decide (((cls c : Nat) : Int) = 4) = isDigit c ∧ decide (((cls c : Nat) : Int) = 5) = decide ((c.toNat : Int) = 95) ∧ decide (((cls c : Nat) : Int) = 1) = isBlank c ∧ decide (((cls c : Nat) : Int) = 2) = decide ((c.toNat : Int) = 35) ∧ decide (((cls c : Nat) : Int) = 6) = isSym c ∧ decide (((cls c : Nat) : Int) = 7) = decide ((c.toNat : Int) = 34) := by
  have := clsP_all c
  simp only [clsP, Bool.and_eq_true, beq_iff_eq] at this
  obtain ⟨⟨⟨⟨⟨⟨h1, h2⟩, h3⟩, h4⟩, h5⟩, h6⟩, h7⟩ := this
  exact ⟨h1, h2, h3, h4, h5, h6, h7⟩
def nameR (l : List UInt8) : Bool := match l with | [] => true | c :: r => isLetter c && r.all isWord
theorem word_letter (c : UInt8) (h : isLetter c = true) : isWord c = true := by simp [isWord, h]
theorem nameL_eq (l : List UInt8) : nameL l = ((!l.isEmpty && decide (l.length ≤ 24)) && nameR l) := by
  cases l with
  | nil => rfl
  | cons c r =>
    simp only [nameL, nameR, List.all_cons, List.isEmpty_cons, Bool.not_false, Bool.true_and]
    cases h : isLetter c with
    | false => simp
    | true => rw [word_letter c h]; cases r.all isWord <;> simp
attribute [local irreducible] Calls thenQ blockQ retQ Spc Spl Spq Ex Ev Evs Gd Upd ESub HKeep Res Res1 wlk effQ Rem SrcAt Split tabA clsA

set_option maxRecDepth 100000 in
set_option maxHeartbeats 1000000 in
theorem lexName_c {w : World} (t : ByteArray) (ht : t.size < 9223372036854775808) : Calls Try.prog 44 #[.string t] w (Ret w (.bool (nameL (tx t)))) := by
  refine sp_enter (vs := [_]) Try.func44 rfl Try.ntmps44 rfl ?_
  have hlen := tx_len t
  have hs00 := tabA_size 0
  have hs1 := clsA_size
  have hon := clsA_ones
  repeat (first|(apply spl_callp rfl;(·(repeat (exact eN)));(·exact fun w' hh => classes_c))|apply then_n|apply sp_seq|apply sp_region|apply spl_nil|apply sp_block|((apply spl_pure rfl);(·(first|((first|apply ex_move|apply ex_assign)<;>(first|exact eT rfl|exact eC))|((apply ex_slen)<;>(exact eT rfl)))))|(apply spl_alloc rfl;intro _ _)|(apply spl_stores;(·exact eT rfl);(·exact eT rfl);(·(repeat (exact Upd.here)));(·(assumption));(·(assumption));(·(assumption))))
  rename_i g hg
  refine sp_loop (X := Nat) (fun k => [(9, true, .int .i64 (k : Int)), (8, true, .int .i64 (t.size : Int)), (0, true, .string t), (3, true, .pointer (some ⟨g, 0, none⟩))]) (fun _ => w) (fun _ => [(g, .cells clsA 108 (0, 0))])
    (fun k => k ≤ t.size ∧ (k = 0 ∨ nameR (tx t) = ((tx t).drop k).all isWord)) (fun k => t.size - k) 0 ⟨Nat.zero_le _, .inl rfl⟩ (by (repeat (first|exact ESub.nil|apply ESub.cons rfl))) rfl (by (repeat (exact HKeep.refl))) ?_
  rintro k ⟨hk, hi⟩
  by_cases hlt : k < t.size
  · obtain ⟨c, hb, hd⟩ := drop_at hlt
    obtain ⟨f3, f4, f5, -⟩ := clsF c
    have hat := clsA_at c
    have hR : nameR (tx t) = ((isLetter c || (!decide ((k : Int) = 0) && isWord c)) && ((tx t).drop (k + 1)).all isWord) := by
      rcases hi with h | h
      · subst h
        rw [List.drop_zero] at hd
        rw [hd]
        simp [nameR]
      · by_cases h0 : k = 0
        · subst h0
          rw [List.drop_zero] at hd
          rw [hd]
          simp [nameR]
        · rw [h, hd, List.all_cons]
          congr 1
          have : decide ((k : Int) = 0) = false := decide_eq_false (by omega)
          rw [this]
          cases hl : isLetter c with
          | true => rw [word_letter c hl]; rfl
          | false => rfl
    repeat (first|apply then_n|apply sp_seq|apply sp_region|apply spl_nil|((apply sp_cond_t);(·exact eT rfl);(·(exact decide_eq_true (by omega))))|apply sp_skip|apply sp_block|((first|apply spl_pure rfl|(apply spl_pure_g rfl;(·(first|exact Gd.tt rfl rfl|exact Gd.gt rfl rfl|exact Gd.gf rfl rfl))));(·(first|(apply ex_sindexE hlt hb;(·exact eT rfl);(·exact eT rfl))|(apply ex_indexAddrA;(·exact eT rfl);(·exact eT rfl);(·exact c.toNat_lt))|(apply ex_loadown;(·exact eT rfl);(·exact Bk.own InH.mem);(·exact hat))|((first|apply ex_move|apply ex_assign|apply ex_lss|apply ex_seql|apply ex_sneq|apply ex_andT)<;>(first|exact eT rfl|exact eG rfl))|((first|apply ex_eql|apply ex_neq)<;>(first|exact eT rfl|exact eC|exact eG rfl))|((apply ex_and)<;>(exact eG rfl))|((apply ex_or)<;>(exact eG rfl))))))
    refine sp_cond (eT rfl) (fun hp => ?_) (fun hp => ?_)
    · repeat (first|apply then_n|apply sp_seq|apply sp_region|apply spl_nil|apply then_r|apply block_r|apply sp_ret|((apply spl_pure rfl);(·(((apply ex_assign)<;>(exact eC))))))
      rw [f3, f4, f5] at hp
      have hw : (isLetter c || (!decide ((k : Int) = 0) && isWord c)) = false := by
        unfold isWord
        revert hp
        cases isLetter c <;> cases isDigit c <;> cases decide ((k : Int) = 0) <;> cases decide ((c.toNat : Int) = 95) <;> simp
      (apply ret_ok rfl;(·((apply Res.ofOne;((apply Res1.tmp;(·rfl))))))); rw [nameL_eq, hR, hw, Bool.false_and, Bool.and_false]
    · repeat (first|apply then_n|apply block_n|apply sp_region|apply spl_nil|apply sp_skip|((apply spl_pure rfl);(·(first|((apply ex_move)<;>(exact eT rfl))|(apply ex_addn<;>(first|exact eT rfl|exact eC|(constructor<;>omega)))))))
      rw [f3, f4, f5] at hp
      have hw : (isLetter c || (!decide ((k : Int) = 0) && isWord c)) = true := by
        unfold isWord
        revert hp
        cases isLetter c <;> cases isDigit c <;> cases decide ((k : Int) = 0) <;> cases decide ((c.toNat : Int) = 95) <;> simp
      rw [hw, Bool.true_and] at hR
      exact ⟨k + 1, ⟨by omega, .inr hR⟩, by omega, (by (repeat (first|exact ESub.nil|apply ESub.cons rfl))), rfl, (by (repeat (exact HKeep.refl)))⟩
  · repeat (first|apply then_n|apply sp_seq|apply sp_region|apply spl_nil|apply then_e|apply block_here|(apply sp_cond_f;(·exact eT rfl);(·(exact decide_eq_false (by omega))))|apply sp_ret|apply sp_exit|((first|apply spl_pure rfl|(apply spl_pure_g rfl;(·exact Gd.tt rfl rfl)));(·(first|((first|apply ex_move|apply ex_assign|apply ex_lss|apply ex_leq|apply ex_sneq|apply ex_andT)<;>(first|exact eT rfl|exact eC|exact eG rfl))|((apply ex_slen)<;>(exact eG rfl))))))
    have he : decide (t = ({ data := #[] } : ByteArray)) = (tx t).isEmpty := by
      rw [Bool.eq_iff_iff, decide_eq_true_iff, List.isEmpty_iff]
      constructor
      · rintro rfl; rfl
      · intro h
        apply ByteArray.ext
        apply Array.ext'
        exact h
    have hn : nameR (tx t) = true := by
      rw [drop_end (by omega)] at hi
      rcases hi with h | h
      · have h0 : t.size = 0 := by omega
        have hnil : tx t = [] := List.length_eq_zero_iff.1 (by rw [hlen]; exact h0)
        rw [hnil]
        all_goals rfl
      · exact h
    have h24 : decide ((t.size : Int) ≤ 24) = decide ((tx t).length ≤ 24) := by
      rw [hlen, Bool.eq_iff_iff, decide_eq_true_iff, decide_eq_true_iff]; omega
    (apply ret_ok rfl;(·((apply Res.ofOne;((apply Res1.tmp;(·rfl)))))))
    rw [nameL_eq, hn, he, h24, Bool.and_true]
end Go.Proofs.Ytfdjlphfohnnnaa
/-
  Contracts: strings.Builder.
-/
namespace Go.Proofs.Ytfdjlphfohnnnaa
open Go.RowKit Go.Sy
set_option linter.unusedVariables false
set_option linter.unusedSimpArgs false
theorem noEscape_run (v : Value) (w : World) : (callFunc 76 #[v]).run Try.prog w = .ok (.value v) w := by
  rw [run_callFunc_extern Try.func76 (by kernel_rfl) (by kernel_rfl) (by kernel_rfl) (e := Extern.AbiNoEscape.same) (by kernel_rfl), Lib.run_noEscape]
  all_goals rfl
theorem unsafeT : Try.prog.underlying 117 = some .unsafePointer := by kernel_rfl
theorem cellsB : Try.prog.cellsOf 5 = 1 := by kernel_rfl
theorem liesB : liesAt Try.prog Try.prog.depth 60 (2 / Try.prog.cellsOf 60) 0 60 1 = true := by kernel_rfl
/-- A builder's blocks. -/
def BH (b : Nat) (p : Option Addr) (r : RowS) (s : ByteArray) : Heap := (b, .cells #[.pointer p, r.val s.size] 60 (0, 0)) :: r.hp (byteCells s) 5
def BOk (w0 : World) (r : RowS) (s : ByteArray) : Prop := r.ok 1 s.size (byteCells s) ∧ ∀ g, r.g = some g → w0.heap.size ≤ g ∧ 0 < s.size
theorem BH_n {b : Nat} {p : Option Addr} {s : ByteArray} {cap : Nat} {tl : List Value} : BH b p ⟨none, cap, tl⟩ s = [(b, .cells #[.pointer p, .slice none s.size cap] 60 (0, 0))] := rfl
theorem BH_s {b g : Nat} {p : Option Addr} {s : ByteArray} {cap : Nat} {tl : List Value} : BH b p ⟨some g, cap, tl⟩ s = [(b, .cells #[.pointer p, .slice (some ⟨g, 0, none⟩) s.size cap] 60 (0, 0)), (g, .cells (byteCells s ++ tl).toArray 5 (0, 0))] := rfl
theorem BHR_n {b : Nat} {p : Option Addr} {s : ByteArray} {cap : Nat} {tl : List Value} {R : Heap} : BH b p ⟨none, cap, tl⟩ s ++ R = (b, .cells #[.pointer p, .slice none s.size cap] 60 (0, 0)) :: R := rfl
theorem BHR_s {b g : Nat} {p : Option Addr} {s : ByteArray} {cap : Nat} {tl : List Value} {R : Heap} : BH b p ⟨some g, cap, tl⟩ s ++ R = (b, .cells #[.pointer p, .slice (some ⟨g, 0, none⟩) s.size cap] 60 (0, 0)) :: (g, .cells (byteCells s ++ tl).toArray 5 (0, 0)) :: R := rfl
theorem BOk.start {w0 : World} : BOk w0 RowS.start ⟨#[]⟩ := ⟨⟨rfl, rfl, rfl⟩, fun g h => by cases h⟩
theorem byteCells_push (s : ByteArray) (c : UInt8) : byteCells (s.push c) = byteCells s ++ [.int .u8 (c.toNat : Int)] := by
  simp [byteCells, ByteArray.push]
theorem byteCells_app (s t : ByteArray) : byteCells (s ++ t) = byteCells s ++ byteCells t := by
  simp [byteCells]
theorem byteCells_len (s : ByteArray) : (byteCells s).length = s.size := by simp [byteCells]
theorem size_push (s : ByteArray) (c : UInt8) : (s.push c).size = s.size + 1 := by
  show (s.data.push c).size = s.data.size + 1
  simp
attribute [local irreducible] Calls thenQ blockQ retQ Spc Spl Spq Ex Ev Evs Gd Upd ESub HKeep Res Res1 wlk effQ Rem SrcAt Split

set_option maxRecDepth 100000 in
theorem copyCheck_c {Be : Nat} {w0 w : World} {b : Nat} {p : Option Addr} {v : Value} {R : Heap} (hp : p = none ∨ p = some ⟨b, 0, none⟩) (hh : Hp Be w0 ((b, .cells #[.pointer p, v] 60 (0, 0)) :: R) w) :
    Calls Try.prog 54 #[.pointer (some ⟨b, 0, none⟩)] w (RetX Be w0 (fun _ : Unit => .tuple #[]) (fun _ => (b, .cells #[.pointer (some ⟨b, 0, none⟩), v] 60 (0, 0)) :: R) (fun _ => True)) := by
  refine sp_enterM (vs := [_]) Try.func54 rfl Try.ntmps54 rfl hh ?_
  rcases hp with rfl | rfl
  · repeat (first|(apply sp_cond_t;(·exact eT rfl);(·(simp;done)))|apply then_n|apply sp_seq|apply sp_region|apply spl_nil|((apply spl_pure rfl);(·(first|(apply ex_extern;(·(repeat (first|exact eN|(apply eS;(·exact eT rfl)))));(·exact noEscape_run _))|(apply ex_toUnsafe;(·exact eT rfl);(·exact Bk.own InH.mem);(·rfl);(·rfl);(·exact unsafeT))|(apply ex_fromUnsafe;(·exact eT rfl);(·exact Bk.own InH.mem);(·exact unsafeT);(·exact liesB))|((first|apply ex_move|apply ex_fieldAddr'|apply ex_seql|apply ex_nilCheck)<;>(exact eT rfl))|((apply ex_peql)<;>(first|exact eT rfl|exact eC))|(apply ex_loadown<;>(first|exact eT rfl|exact Bk.own InH.mem|rfl)))))|(apply spl_store1;(·exact eT rfl);(·exact eT rfl);(·rfl);(·(repeat (exact Upd.here)));(·rfl)))
    (apply endX_ok rfl;(·exact Res.none_))
    exact ⟨(), rfl, trivial, by (repeat (exact HKeep.refl))⟩
  · repeat (first|(apply sp_cond_f;(·exact eT rfl);(·(simp;done)))|apply then_n|apply sp_seq|apply sp_region|apply spl_nil|apply sp_skip|((apply spl_pure rfl);(·(first|(apply ex_pneqS;(·exact eT rfl);(·exact eT rfl))|((first|apply ex_move|apply ex_fieldAddr'|apply ex_seql|apply ex_nilCheck)<;>(exact eT rfl))|((apply ex_peql)<;>(first|exact eT rfl|exact eC))|(apply ex_loadown<;>(first|exact eT rfl|exact Bk.own InH.mem|rfl))))))
    (apply endX_ok rfl;(·exact Res.none_))
    exact ⟨(), rfl, trivial, by (repeat (exact HKeep.refl))⟩

set_option maxRecDepth 100000 in
set_option maxHeartbeats 1000000 in
theorem writeByte_c {Be : Nat} {w0 w : World} {b : Nat} {p : Option Addr} {r : RowS} {s : ByteArray} {R : Heap} (hp : p = none ∨ p = some ⟨b, 0, none⟩) (hr : BOk w0 r s) (hs : s.size < 100000000) (c : UInt8) (hh : Hp Be w0 (BH b p r s ++ R) w) :
    Calls Try.prog 53 #[.pointer (some ⟨b, 0, none⟩), .int .u8 (c.toNat : Int)] w (RetX Be w0 (fun _ : RowS => .nilIface) (fun r' => BH b (some ⟨b, 0, none⟩) r' (s.push c) ++ R) (fun r' => BOk w0 r' (s.push c))) := by
  refine sp_enterM (vs := [_, _]) Try.func53 rfl Try.ntmps53 rfl hh ?_
  have hlen := byteCells_len s
  have hone : ∀ u ∈ [Value.int .u8 (c.toNat : Int)], u.oneCell' = true := fun u hu => by simp at hu; subst hu; rfl
  rcases r with ⟨_ | g, cap, tail⟩
  · obtain ⟨⟨h0, rfl, hb0⟩, -⟩ := hr
    rw [BH_n]
    repeat (first|(apply spl_callx (fun _ : Unit => .tuple #[]) (fun _ => w0) (fun _ => _ :: _) (fun _ => True) rfl;(·(repeat (first|exact eN|(apply eS;(·exact eT rfl)))));(·exact fun w' hh => copyCheck_c hp hh);(rintro ⟨⟩ -))|apply then_n|apply sp_seq|apply sp_region|apply spl_nil|apply sp_ret|((apply spl_pure rfl);(·(first|((first|apply ex_move|apply ex_assign|apply ex_fieldAddr'|apply ex_nilCheck)<;>(first|exact eT rfl|exact eC))|(apply ex_loadown<;>(first|exact eT rfl|exact Bk.own InH.mem|rfl)))))|(apply spl_store1;(·exact eT rfl);(·exact eT rfl);(·rfl);(·(repeat (first|exact Upd.here|apply Upd.there)));(·rfl))|(apply spl_buildSlice rfl;(·rfl);(·(repeat (first|exact eN|(apply eS;(·exact eT rfl)))));(·rfl);(·rfl);(·rfl);intro _ _)|(refine spl_append_grow (olds := []) (news := [.int .u8 (c.toNat : Int)]) (m := 1) (by (exact eT rfl)) (by (exact eT rfl)) (fun w' hh => CellsAt.nil) (by rw [h0]; rfl) (fun w' hh => SrcAt.slice (CellsAt.own hh.ownI (fun j u hj => by rw [List.getElem?_toArray]; exact hj)) rfl rfl hone) (by omega) (by omega) rfl rfl rfl rfl ?_;intro gA capA tA hgA hcA hlA))
    (apply retX_ok rfl;(·((apply Res.ofOne;((apply Res1.tmp;(·rfl)))))))
    refine ⟨⟨some gA, capA, tA⟩, rfl, ⟨⟨?_, ?_, ?_⟩, ?_⟩, ?_⟩
    · rw [size_push]; exact hcA
    · rw [byteCells_push, hb0]; exact hlA
    · rw [byteCells_len, Nat.mul_one]
    · rintro g h; cases h; rw [size_push]; exact ⟨hgA, Nat.succ_pos _⟩
    · rw [BH_s, size_push, byteCells_push, hb0]; (repeat (first|exact HKeep.refl|apply HKeep.keep|(apply HKeep.app;(·(repeat (first|exact Split.here|apply Split.cons|apply Split.app))))|(apply HKeep.pick;(·(repeat (first|exact Rem.here|apply Rem.there))))|apply HKeep.drop (by first|assumption|omega)))
  · obtain ⟨⟨h0, h1, h2⟩, h3⟩ := hr
    obtain ⟨h3, h4⟩ := h3 g rfl
    rw [BH_s]
    repeat (first|(apply spl_callx (fun _ : Unit => .tuple #[]) (fun _ => w0) (fun _ => _ :: _) (fun _ => True) rfl;(·(repeat (first|exact eN|(apply eS;(·exact eT rfl)))));(·exact fun w' hh => copyCheck_c hp hh);(rintro ⟨⟩ -))|apply then_n|apply sp_seq|apply sp_region|apply spl_nil|apply sp_ret|((apply spl_pure rfl);(·(first|((first|apply ex_move|apply ex_assign|apply ex_fieldAddr'|apply ex_nilCheck)<;>(first|exact eT rfl|exact eC))|(apply ex_loadown<;>(first|exact eT rfl|exact Bk.own InH.mem|rfl)))))|(apply spl_store1;(·exact eT rfl);(·exact eT rfl);(·rfl);(·(repeat (first|exact Upd.here|apply Upd.there)));(·rfl))|(apply spl_buildSlice rfl;(·rfl);(·(repeat (first|exact eN|(apply eS;(·exact eT rfl)))));(·rfl);(·rfl);(·rfl);intro _ _)|(refine spl_append_own (xs := byteCells s) (tail := tail) (news := [.int .u8 (c.toNat : Int)]) (m := 1) (by (exact eT rfl)) (by (exact eT rfl)) (by (repeat (first|exact Rem.here|apply Rem.there))) (by assumption) h2 h1 h0 (fun w' hh => SrcAt.slice (CellsAt.own hh.ownI (fun j u hj => by rw [List.getElem?_toArray]; exact hj)) rfl rfl hone) rfl (by omega) rfl rfl rfl rfl ?_;intro gA capA tA hgA hcA hlA))
    (apply retX_ok rfl;(·((apply Res.ofOne;((apply Res1.tmp;(·rfl)))))))
    refine ⟨⟨some gA, capA, tA⟩, rfl, ⟨⟨?_, ?_, ?_⟩, ?_⟩, ?_⟩
    · rw [size_push]; exact hcA
    · rw [byteCells_push]; exact hlA
    · rw [byteCells_len, Nat.mul_one]
    · rintro g h; cases h; rw [size_push]; exact ⟨hgA, Nat.succ_pos _⟩
    · rw [BH_s, size_push, byteCells_push]; (repeat (first|exact HKeep.refl|apply HKeep.keep|(apply HKeep.app;(·(repeat (first|exact Split.here|apply Split.cons|apply Split.app))))|(apply HKeep.pick;(·(repeat (first|exact Rem.here|apply Rem.there))))|apply HKeep.drop (by first|assumption|omega)))

set_option maxRecDepth 100000 in
set_option maxHeartbeats 1000000 in
theorem writeString_c {Be : Nat} {w0 w : World} {b : Nat} {p : Option Addr} {r : RowS} {s : ByteArray} {R : Heap} (hp : p = none ∨ p = some ⟨b, 0, none⟩) (hr : BOk w0 r s) (hs : s.size < 100000000) (x : ByteArray) (hx0 : 0 < x.size) (hx : x.size < 100000000) (hh : Hp Be w0 (BH b p r s ++ R) w) :
    Calls Try.prog 29 #[.pointer (some ⟨b, 0, none⟩), .string x] w (RetX Be w0 (fun _ : RowS => .tuple #[.int .i64 (x.size : Int), .nilIface]) (fun r' => BH b (some ⟨b, 0, none⟩) r' (s ++ x) ++ R) (fun r' => BOk w0 r' (s ++ x))) := by
  refine sp_enterM (vs := [_, _]) Try.func29 rfl Try.ntmps29 rfl hh ?_
  have hlen := byteCells_len s
  have hlx := byteCells_len x
  rcases r with ⟨_ | g, cap, tail⟩
  · obtain ⟨⟨h0, rfl, hb0⟩, -⟩ := hr
    rw [BH_n]
    repeat (first|(apply spl_callx (fun _ : Unit => .tuple #[]) (fun _ => w0) (fun _ => _ :: _) (fun _ => True) rfl;(·(repeat (first|exact eN|(apply eS;(·exact eT rfl)))));(·exact fun w' hh => copyCheck_c hp hh);(rintro ⟨⟩ -))|apply then_n|apply sp_seq|apply sp_region|apply spl_nil|apply sp_ret|((apply spl_pure rfl);(·(first|((first|apply ex_move|apply ex_assign|apply ex_fieldAddr'|apply ex_nilCheck)<;>(first|exact eT rfl|exact eC))|((apply ex_slen)<;>(exact eT rfl))|(apply ex_loadown<;>(first|exact eT rfl|exact Bk.own InH.mem|rfl)))))|(apply spl_store1;(·exact eT rfl);(·exact eT rfl);(·rfl);(·(repeat (first|exact Upd.here|apply Upd.there)));(·rfl))|(refine spl_append_grow (olds := []) (news := byteCells x) (m := x.size) (by (exact eT rfl)) (by (exact eT rfl)) (fun w' hh => CellsAt.nil) (by rw [h0]; rfl) (fun w' hh => SrcAt.string) (by omega) (by omega) rfl rfl rfl rfl ?_;intro gA capA tA hgA hcA hlA))
    (apply retX_ok rfl;(·((apply Res.ofTwo<;>((apply Res1.tmp;(·rfl)))))))
    refine ⟨⟨some gA, capA, tA⟩, rfl, ⟨⟨?_, ?_, ?_⟩, ?_⟩, ?_⟩
    · rw [ByteArray.size_append]; exact hcA
    · rw [byteCells_app, hb0]; exact hlA
    · rw [byteCells_len, Nat.mul_one]
    · rintro g h; cases h; rw [ByteArray.size_append]; exact ⟨hgA, by omega⟩
    · rw [BH_s, ByteArray.size_append, byteCells_app, hb0]; (repeat (first|exact HKeep.refl|(apply HKeep.pick;(·(repeat (first|exact Rem.here|apply Rem.there))))))
  · obtain ⟨⟨h0, h1, h2⟩, h3⟩ := hr
    obtain ⟨h3, h4⟩ := h3 g rfl
    rw [BH_s]
    repeat (first|(apply spl_callx (fun _ : Unit => .tuple #[]) (fun _ => w0) (fun _ => _ :: _) (fun _ => True) rfl;(·(repeat (first|exact eN|(apply eS;(·exact eT rfl)))));(·exact fun w' hh => copyCheck_c hp hh);(rintro ⟨⟩ -))|apply then_n|apply sp_seq|apply sp_region|apply spl_nil|apply sp_ret|((apply spl_pure rfl);(·(first|((first|apply ex_move|apply ex_assign|apply ex_fieldAddr'|apply ex_nilCheck)<;>(first|exact eT rfl|exact eC))|((apply ex_slen)<;>(exact eT rfl))|(apply ex_loadown<;>(first|exact eT rfl|exact Bk.own InH.mem|rfl)))))|(apply spl_store1;(·exact eT rfl);(·exact eT rfl);(·rfl);(·(repeat (first|exact Upd.here|apply Upd.there)));(·rfl))|(refine spl_append_own (xs := byteCells s) (tail := tail) (news := byteCells x) (m := x.size) (by (exact eT rfl)) (by (exact eT rfl)) (by (repeat (first|exact Rem.here|apply Rem.there))) (by assumption) h2 h1 h0 (fun w' hh => SrcAt.string) (by omega) (by omega) rfl rfl rfl rfl ?_;intro gA capA tA hgA hcA hlA))
    (apply retX_ok rfl;(·((apply Res.ofTwo<;>((apply Res1.tmp;(·rfl)))))))
    refine ⟨⟨some gA, capA, tA⟩, rfl, ⟨⟨?_, ?_, ?_⟩, ?_⟩, ?_⟩
    · rw [ByteArray.size_append]; exact hcA
    · rw [byteCells_app]; exact hlA
    · rw [byteCells_len, Nat.mul_one]
    · rintro g h; cases h; rw [ByteArray.size_append]; exact ⟨hgA, by omega⟩
    · rw [BH_s, ByteArray.size_append, byteCells_app]; (repeat (first|exact HKeep.refl|(apply HKeep.pick;(·(repeat (first|exact Rem.here|apply Rem.there))))))

set_option maxRecDepth 100000 in
set_option maxHeartbeats 1000000 in
theorem string_c {Be : Nat} {w0 w : World} {b : Nat} {p : Option Addr} {r : RowS} {s : ByteArray} {R : Heap} (hr : BOk w0 r s) (hs : s.size < 100000000) (hb : w0.heap.size ≤ b) (hh : Hp Be w0 (BH b p r s ++ R) w) :
    Calls Try.prog 31 #[.pointer (some ⟨b, 0, none⟩)] w (RetX Be w0 (fun _ : Unit => .string s) (fun _ => R) (fun _ => True)) := by
  refine sp_enterM (vs := [_]) Try.func31 rfl Try.ntmps31 rfl hh ?_
  rcases r with ⟨_ | g, cap, tail⟩
  · obtain ⟨⟨h0, rfl, hb0⟩, -⟩ := hr
    rw [BHR_n, h0]
    repeat (first|apply then_n|apply sp_seq|apply sp_region|apply spl_nil|((apply spl_pure rfl);(·(((apply ex_assign)<;>(exact eC))))))
    refine sp_drawn [(0, true), (1, true), (2, true), (3, true), (5, true), (6, true), (7, true), (8, true), (9, true), (4, false), (10, false), (11, true)] 12 ((b, .cells #[.pointer p, .slice none 0 0] 60 (0, 0)) :: R) mixed (by kernel_rfl) (by (repeat (exact HKeep.refl))) ?_
    repeat (first|apply then_n|apply spl_nil|apply sp_ret|((first|apply spl_pure rfl|apply wlk_read rfl rfl);(·(first|(apply ex_sliceDataN;(·exact eT rfl))|(apply ex_unsafeStringN;(·exact eT rfl);(·exact eT rfl))|((first|apply ex_move|apply ex_assign|apply ex_fieldAddr'|apply ex_len|apply ex_nilCheck)<;>(exact eT rfl))|(apply ex_loadown<;>(first|exact eT rfl|exact Bk.own InH.mem|rfl)))))|(apply effq;(·(intro h_;((repeat (exact HKeep.refl))))))|apply wlk_nil|apply wlk_eff rfl)
    (apply retX_ok rfl;(·((apply Res.ofOne;((apply Res1.tmp;(·rfl)))))))
    have hs0 : s = .empty := by
      apply ByteArray.ext
      apply Array.ext'
      have : s.data.toList.length = 0 := by simpa using h0
      exact List.length_eq_zero_iff.1 this
    exact ⟨(), by rw [hs0], trivial, by (repeat (first|exact HKeep.refl|apply HKeep.drop (by first|assumption|omega)))⟩
  · obtain ⟨⟨h0, h1, h2⟩, h3⟩ := hr
    obtain ⟨h3, h4⟩ := h3 g rfl
    rw [BHR_s]
    have h0' : s.size ≤ cap := h0
    have hlt : (byteCells s ++ tail).length = cap := by have : (byteCells s ++ tail).length = cap * 1 := h1; omega
    repeat (first|apply then_n|apply sp_seq|apply sp_region|apply spl_nil|((apply spl_pure rfl);(·(((apply ex_assign)<;>(exact eC))))))
    refine sp_drawn [(0, true), (1, true), (2, true), (3, true), (5, true), (6, true), (7, true), (8, true), (9, true), (4, false), (10, false), (11, true)] 12 ((b, .cells #[.pointer p, .slice (some ⟨g, 0, none⟩) s.size cap] 60 (0, 0)) :: R) mixed (by kernel_rfl) (by (repeat (first|exact HKeep.refl|apply HKeep.keep|apply HKeep.drop (by first|assumption|omega)))) ?_
    repeat (first|apply then_n|apply spl_nil|apply sp_ret|((first|apply spl_pure rfl|apply wlk_read rfl rfl);(·(first|(apply ex_sliceData;(·exact eT rfl);(·omega))|((first|apply ex_move|apply ex_assign|apply ex_fieldAddr'|apply ex_len|apply ex_nilCheck)<;>(exact eT rfl))|(apply ex_loadown<;>(first|exact eT rfl|exact Bk.own InH.mem|rfl)))))|(apply effq;(·(intro h_;((repeat (first|exact HKeep.refl|apply HKeep.keep|apply HKeep.drop (by first|assumption|omega)))))))|apply wlk_nil|apply wlk_eff rfl|(refine spl_unsafeString rfl (by (exact eT rfl)) (by (exact eT rfl)) (by (repeat (first|exact Rem.here|apply Rem.there))) (by assumption) cellsB h4 ?_ (by omega) ?_ ?_;rotate_left 2))
    · (apply retX_ok rfl;(·((apply Res.ofOne;((apply Res1.tmp;(·rfl)))))))
      exact ⟨(), rfl, trivial, by (repeat (first|exact HKeep.refl|apply HKeep.drop (by first|assumption|omega)))⟩
    · rw [List.size_toArray, hlt]; exact h0'
    · intro j v hj
      rw [List.getElem?_toArray, List.getElem?_append_left (List.getElem?_eq_some_iff.1 hj).1]
      exact hj
end Go.Proofs.Ytfdjlphfohnnnaa
/-
  Strings in quotes, tokens, texts in plain terms.
-/
namespace Go.Proofs.Ytfdjlphfohnnnaa
open Go.RowKit Go.Sy
set_option linter.unusedVariables false
set_option linter.unusedSimpArgs false

def ofL (l : List UInt8) : ByteArray := ⟨l.toArray⟩
theorem tx_ofL (l : List UInt8) : tx (ofL l) = l := by simp [tx, ofL]
theorem ofL_tx (t : ByteArray) : ofL (tx t) = t := by
  apply ByteArray.ext
  apply Array.ext'
  simp [ofL, tx]
theorem tx_inj {s t : ByteArray} (h : tx s = tx t) : s = t := by rw [← ofL_tx s, ← ofL_tx t, h]
theorem size_ofL (l : List UInt8) : (ofL l).size = l.length := by rw [← tx_len, tx_ofL]
theorem tx_push (s : ByteArray) (c : UInt8) : tx (s.push c) = tx s ++ [c] := by simp [tx, ByteArray.push]
theorem tx_append (s t : ByteArray) : tx (s ++ t) = tx s ++ tx t := by simp [tx]
theorem tx_extract (s : ByteArray) (i j : Nat) : tx (s.extract i j) = ((tx s).take j).drop i := by simp [tx, List.drop_take]
theorem tx_empty : tx .empty = [] := rfl

/-- How a byte is written within quotes. -/
def escB (c : UInt8) : List UInt8 := if c.toNat = 10 then [92, 110] else if c.toNat = 34 ∨ c.toNat = 92 then [92, c] else [c]
def quoteL (l : List UInt8) : List UInt8 := 34 :: (l.flatMap escB ++ [34])
/-- What stands behind a backslash. -/
def escOf (d : UInt8) : Option UInt8 := if d.toNat = 92 then some 92 else if d.toNat = 34 then some 34 else if d.toNat = 110 then some 10 else none
/-- What stands behind the first quote: the text, and how much of the list it took. -/
def unqL : List UInt8 → Option (List UInt8 × Nat)
  | [] => none
  | c :: r =>
    if c.toNat = 34 then some ([], 1)
    else if c.toNat = 10 then none
    else if c.toNat = 92 then
      match r with
      | [] => none
      | d :: r' => match escOf d with
        | none => none
        | some e => (unqL r').map fun p => (e :: p.1, p.2 + 2)
    else (unqL r).map fun p => (c :: p.1, p.2 + 1)
inductive Stp where
  | tok (k : Nat) (s : List UInt8) (n : Nat)
  | err (e : Nat)
/-- The token at the head of a list. -/
def tokC (c : UInt8) (r : List UInt8) : Stp :=
    if isLetter c then (if 24 < ((c :: r).takeWhile isWord).length then .err 7 else .tok 1 ((c :: r).takeWhile isWord) ((c :: r).takeWhile isWord).length)
    else if isDigit c then (if 7 < ((c :: r).takeWhile isDigit).length ∨ (((c :: r).dropWhile isDigit).head?.any isWord) = true then .err 11 else .tok 2 ((c :: r).takeWhile isDigit) ((c :: r).takeWhile isDigit).length)
    else if c.toNat = 34 then (match unqL r with | some p => .tok 3 p.1 (p.2 + 1) | none => .err 10)
    else if isSym c then .tok 4 [c] 1 else .err 10
def tokL : List UInt8 → Stp
  | [] => .err 10
  | c :: r => tokC c r
structure Tk where
  kind : Nat
  text : ByteArray
  pos : Nat
def lexF : Nat → List UInt8 → Nat → List Tk × Option (Nat × Nat)
  | 0, _, _ => ([], none)
  | f + 1, l, a => match skipM false l with
    | [] => ([], none)
    | c :: r => match tokL (c :: r) with
      | .err e => ([], some (e, a + (l.length - (c :: r).length)))
      | .tok k s n => (⟨k, ofL s, a + (l.length - (c :: r).length)⟩ :: (lexF f ((c :: r).drop n) (a + (l.length - (c :: r).length) + n)).1, (lexF f ((c :: r).drop n) (a + (l.length - (c :: r).length) + n)).2)
def lexA (t : ByteArray) : List Tk × Option (Nat × Nat) := lexF (t.size + 1) (tx t) 0
/-- What Lex hands back. -/
def lexR (t : ByteArray) : List Tk × Int × Int :=
  if 20000 < t.size then ([], 7, -1)
  else match (lexA t).1[5000]? with
    | some x => ([], 7, (x.pos : Int))
    | none => match (lexA t).2 with
      | none => ((lexA t).1, 0, 0)
      | some p => ([], (p.1 : Int), (p.2 : Int))
theorem unqL_len : ∀ (l : List UInt8) (s : List UInt8) (n : Nat), unqL l = some (s, n) → 1 ≤ n ∧ n ≤ l.length ∧ s.length + 1 ≤ n
  | [], s, n, h => by simp [unqL] at h
  | c :: r, s, n, h => by
    unfold unqL at h
    split at h
    · cases h; simp
    · split at h
      · cases h
      · split at h
        · cases r with
          | nil => cases h
          | cons d r' =>
            simp only at h
            split at h
            · cases h
            · rename_i e he
              obtain ⟨p, hp, h2⟩ := Option.map_eq_some_iff.1 h
              have := unqL_len r' p.1 p.2 hp
              cases h2
              simp only [List.length_cons]
              omega
        · obtain ⟨p, hp, h2⟩ := Option.map_eq_some_iff.1 h
          have := unqL_len r p.1 p.2 hp
          cases h2
          simp only [List.length_cons]
          omega
theorem takeWhile_le {p : UInt8 → Bool} (l : List UInt8) : (l.takeWhile p).length ≤ l.length := (List.takeWhile_sublist p).length_le
theorem tokL_len (c : UInt8) (r : List UInt8) (k : Nat) (s : List UInt8) (n : Nat) (h : tokL (c :: r) = .tok k s n) : 1 ≤ n ∧ n ≤ (c :: r).length := by
  change tokC c r = _ at h
  unfold tokC at h
  split at h
  · rename_i hl
    split at h
    · cases h
    · cases h
      refine ⟨?_, takeWhile_le _⟩
      have : isWord c = true := by simp [isWord, hl]
      rw [List.takeWhile_cons_of_pos this]; simp
  · split at h
    · rename_i hd
      split at h
      · cases h
      · cases h
        refine ⟨?_, takeWhile_le _⟩
        rw [List.takeWhile_cons_of_pos hd]; simp
    · split at h
      · split at h
        · rename_i p hp
          cases h
          have := unqL_len r p.1 p.2 hp
          simp only [List.length_cons]
          omega
        · cases h
      · split at h
        · cases h; simp
        · cases h

theorem lexF_fuel : ∀ (f g : Nat) (l : List UInt8) (a : Nat), l.length < f → l.length < g → lexF f l a = lexF g l a
  | 0, _, l, _, h, _ => by omega
  | _, 0, l, _, _, h => by omega
  | f + 1, g + 1, l, a, hf, hg => by
    have hle := skipM_le false l
    simp only [lexF]
    split
    · rfl
    · rename_i c r hs
      split
      · rfl
      · rename_i k s n ht
        obtain ⟨h1, h2⟩ := tokL_len c r k s n ht
        rw [hs] at hle
        have hd : ((c :: r).drop n).length < l.length := by rw [List.length_drop]; simp only [List.length_cons] at *; omega
        rw [lexF_fuel f g ((c :: r).drop n) _ (by omega) (by omega)]
/-- The tokens of a list. -/
def lexN (l : List UInt8) (a : Nat) : List Tk × Option (Nat × Nat) := lexF (l.length + 1) l a
theorem lexA_N (t : ByteArray) : lexA t = lexN (tx t) 0 := by unfold lexA lexN; rw [tx_len]
theorem lexN_nil {l : List UInt8} {a : Nat} (h : skipM false l = []) : lexN l a = ([], none) := by
  unfold lexN lexF
  rw [h]
theorem lexN_err {l : List UInt8} {a e : Nat} {c : UInt8} {r : List UInt8} (h : skipM false l = c :: r) (ht : tokC c r = .err e) : lexN l a = ([], some (e, a + (l.length - (c :: r).length))) := by
  unfold lexN lexF
  rw [h]
  simp only [tokL, ht]
theorem lexN_tok {l : List UInt8} {a k n : Nat} {s : List UInt8} {c : UInt8} {r : List UInt8} (h : skipM false l = c :: r) (ht : tokC c r = .tok k s n) :
    lexN l a = (⟨k, ofL s, a + (l.length - (c :: r).length)⟩ :: (lexN ((c :: r).drop n) (a + (l.length - (c :: r).length) + n)).1, (lexN ((c :: r).drop n) (a + (l.length - (c :: r).length) + n)).2) := by
  have hle := skipM_le false l
  obtain ⟨h1, h2⟩ := tokL_len c r k s n ht
  unfold lexN
  rw [lexF, h]
  simp only [tokL, ht]
  rw [h] at hle
  rw [lexF_fuel l.length (((c :: r).drop n).length + 1) ((c :: r).drop n) _ (by rw [List.length_drop]; simp only [List.length_cons] at *; omega) (by omega)]
theorem lexN_skip {l l' : List UInt8} {a d : Nat} (h : skipM false l = skipM false l') (hd : l.length = l'.length + d) : lexN l a = lexN l' (a + d) := by
  have hle := skipM_le false l'
  cases hs : skipM false l' with
  | nil => rw [lexN_nil (h.trans hs), lexN_nil hs]
  | cons c r =>
    rw [hs] at hle
    have hp : a + (l.length - (c :: r).length) = a + d + (l'.length - (c :: r).length) := by omega
    cases ht : tokC c r with
    | err e => rw [lexN_err (h.trans hs) ht, lexN_err hs ht, hp]
    | tok k s n => rw [lexN_tok (h.trans hs) ht, lexN_tok hs ht, hp]
/-- The class of the byte at a place; 0 behind the end. -/
def headIs (p : UInt8 → Bool) (l : List UInt8) : Bool := l.head?.any p
theorem takeWhile_head {p : UInt8 → Bool} {l : List UInt8} (h : headIs p l = false) : l.takeWhile p = [] := by
  cases l with
  | nil => rfl
  | cons c r =>
    have : p c = false := by simpa [headIs] using h
    rw [List.takeWhile_cons_of_neg (by rw [this]; simp)]
theorem takeWhile_step {p : UInt8 → Bool} {c : UInt8} {r : List UInt8} (h : p c = true) : (c :: r).takeWhile p = c :: r.takeWhile p := List.takeWhile_cons_of_pos h
theorem takeWhile_take {p : UInt8 → Bool} (l : List UInt8) : l.take (l.takeWhile p).length = l.takeWhile p := by
  have := List.prefix_iff_eq_take.1 (List.takeWhile_prefix (p := p) (l := l))
  exact this.symm
theorem dropWhile_drop {p : UInt8 → Bool} (l : List UInt8) : l.dropWhile p = l.drop (l.takeWhile p).length := by
  have h := List.takeWhile_append_dropWhile (p := p) (l := l)
  have h2 := congrArg (List.drop (l.takeWhile p).length) h
  rw [List.drop_left] at h2
  exact h2
theorem skipM_cons {c : UInt8} {r : List UInt8} (h1 : isBlank c = false) (h2 : ¬ c.toNat = 35) : skipM false (c :: r) = c :: r := by simp [skipM, h1, h2]
end Go.Proofs.Ytfdjlphfohnnnaa
/-
  Contracts: the lexer's Quote and unquoted.
-/
namespace Go.Proofs.Ytfdjlphfohnnnaa
open Go.RowKit Go.Sy
set_option linter.unusedVariables false
set_option linter.unusedSimpArgs false
section
variable {P : Program} {N Be : Nat} {Q : Post} {e : Env} {w0 : World} {H : Heap} {ops : Array Oper} {rest : List Oper} {ty : TypeId} {pos : String} {after : Array Edge} {d : Nat}
theorem spl_callR {f : FuncId} {xs : List Operand} {ts : Array TypeId} {vs : List Value} [TFn P f] {X : Type} {V : X → Value} {HH : X → Heap} {I : X → Prop} (hN : Nat.blt d N = true) (hx : Evs true e xs vs)
    (hc : ∀ w, Hp Be w0 H w → Calls P f vs.toArray w (RetX Be w0 V HH I))
    (k : ∀ x, I x → Spl P N Be ops Q rest ((d, true, V x) :: e) w0 (HH x)) : Spl P N Be ops Q (⟨some d, .call ⟨.value (.func f), xs.toArray, ts⟩, ty, pos, after, none⟩ :: rest) e w0 H :=
  spl_callx V (fun _ => w0) HH I hN hx hc k
end
theorem writeByte_c0 {Be : Nat} {w0 w : World} {b : Nat} {p : Option Addr} {r : RowS} {s : ByteArray} (hp : p = none ∨ p = some ⟨b, 0, none⟩) (hr : BOk w0 r s) (hs : s.size < 100000000) (c : UInt8) (hh : Hp Be w0 (BH b p r s) w) :
    Calls Try.prog 53 #[.pointer (some ⟨b, 0, none⟩), .int .u8 (c.toNat : Int)] w (RetX Be w0 (fun _ : RowS => .nilIface) (fun r' => BH b (some ⟨b, 0, none⟩) r' (s.push c)) (fun r' => BOk w0 r' (s.push c))) := by
  have := writeByte_c (R := []) hp hr hs c (by rw [List.append_nil]; exact hh)
  simpa only [List.append_nil] using this
theorem writeString_c0 {Be : Nat} {w0 w : World} {b : Nat} {p : Option Addr} {r : RowS} {s : ByteArray} (hp : p = none ∨ p = some ⟨b, 0, none⟩) (hr : BOk w0 r s) (hs : s.size < 100000000) (x : ByteArray) (hx0 : 0 < x.size) (hx : x.size < 100000000) (hh : Hp Be w0 (BH b p r s) w) :
    Calls Try.prog 29 #[.pointer (some ⟨b, 0, none⟩), .string x] w (RetX Be w0 (fun _ : RowS => .tuple #[.int .i64 (x.size : Int), .nilIface]) (fun r' => BH b (some ⟨b, 0, none⟩) r' (s ++ x)) (fun r' => BOk w0 r' (s ++ x))) := by
  have := writeString_c (R := []) hp hr hs x hx0 hx (by rw [List.append_nil]; exact hh)
  simpa only [List.append_nil] using this
theorem string_c0 {Be : Nat} {w0 w : World} {b : Nat} {p : Option Addr} {r : RowS} {s : ByteArray} (hr : BOk w0 r s) (hs : s.size < 100000000) (hb : w0.heap.size ≤ b) (hh : Hp Be w0 (BH b p r s) w) :
    Calls Try.prog 31 #[.pointer (some ⟨b, 0, none⟩)] w (RetX Be w0 (fun _ : Unit => .string s) (fun _ => []) (fun _ => True)) :=
  string_c (R := []) hr hs hb (by rw [List.append_nil]; exact hh)
theorem BH_start (b : Nat) : [(b, Obj.cells #[.pointer none, .slice none 0 0] 60 (0, 0))] = BH b none RowS.start ⟨#[]⟩ := rfl
theorem take_at {t : ByteArray} {k : Nat} {c : UInt8} {hlt : k < t.size} (hb : t[k] = c) : (tx t).take (k + 1) = (tx t).take k ++ [c] := by
  have h1 : k < (tx t).length := by rw [tx_len]; exact hlt
  rw [List.take_add_one, List.getElem?_eq_getElem h1, ← hb]
  all_goals rfl
attribute [local irreducible] Calls thenQ blockQ retQ Spc Spl Spq Ex Ev Evs Gd Upd ESub HKeep Res Res1 wlk effQ Rem SrcAt Split BH

set_option maxRecDepth 100000 in
set_option maxHeartbeats 4000000 in
theorem lexQuote_c {w : World} (t : ByteArray) (ht : t.size < 10000000) : Calls Try.prog 27 #[.string t] w (Ret w (.string (ofL (quoteL (tx t))))) := by
  refine sp_enter (vs := [_]) Try.func27 rfl Try.ntmps27 rfl ?_
  have hlen := tx_len t
  repeat (first|(apply spl_callR rfl;(·(repeat (first|exact eN|(apply eS;(·(first|exact eT rfl|exact eC))))));(·exact fun w' hh => writeByte_c0 (r:=RowS.start) (s:=⟨#[]⟩) (.inl rfl) BOk.start (by decide) 34 (by rw [← BH_start];exact hh));(intro r1 hr1))|apply then_n|apply sp_seq|apply sp_region|apply spl_nil|apply sp_block|((apply spl_pure rfl);(·(first|((first|apply ex_move|apply ex_assign)<;>(first|exact eT rfl|exact eC))|((apply ex_slen)<;>(exact eT rfl)))))|(apply spl_alloc rfl;intro _ _))
  rename_i b hb
  refine sp_loop (X := Nat × RowS × ByteArray) (fun x => [(9, true, .int .i64 (x.1 : Int)), (8, true, .int .i64 (t.size : Int)), (0, true, .string t), (3, true, .pointer (some ⟨b, 0, none⟩))]) (fun _ => w) (fun x => BH b (some ⟨b, 0, none⟩) x.2.1 x.2.2)
    (fun x => x.1 ≤ t.size ∧ BOk w x.2.1 x.2.2 ∧ tx x.2.2 = 34 :: ((tx t).take x.1).flatMap escB ∧ x.2.2.size ≤ 2 * x.1 + 1) (fun x => t.size - x.1) (0, r1, _) ⟨Nat.zero_le _, hr1, rfl, (by show (ByteArray.push ⟨#[]⟩ 34).size ≤ 1; decide)⟩ (by (repeat (first|exact ESub.nil|apply ESub.cons rfl))) rfl (by (repeat (exact HKeep.refl))) ?_
  rintro ⟨k, r, s⟩ ⟨hk, hr, hs, hsz⟩
  replace hk : k ≤ t.size := hk
  replace hsz : s.size ≤ 2 * k + 1 := hsz
  replace hr : BOk w r s := hr
  replace hs : tx s = 34 :: ((tx t).take k).flatMap escB := hs
  dsimp only
  by_cases hlt : k < t.size
  · obtain ⟨c, hb', hd⟩ := drop_at hlt
    have htk := take_at (hlt := hlt) hb'
    by_cases h10 : c.toNat = 10
    · have hi : (c.toNat : Int) = 10 := by omega
      repeat (first|(apply sp_cond_t;(·exact eT rfl);(·(simp [*];done)))|(apply spl_callR rfl;(·(repeat (first|exact eN|(apply eS;(·(first|exact eT rfl|exact eC))))));(·exact fun w' hh => writeString_c0 (.inr rfl) hr (by omega) _ (by decide) (by decide) hh);(intro r2 hr2))|apply then_n|apply block_n|apply sp_seq|apply sp_region|apply spl_nil|apply sp_skip|apply sp_block|((apply spl_pure rfl);(·(first|(apply ex_sindexE hlt hb';(·exact eT rfl);(·exact eT rfl))|((first|apply ex_move|apply ex_assign|apply ex_lss|apply ex_seql)<;>(exact eT rfl))|((apply ex_eql)<;>(first|exact eT rfl|exact eC))|(apply ex_addn<;>(first|exact eT rfl|exact eC|(constructor<;>omega)))))))
      refine ⟨(k + 1, r2, _), ⟨hlt, hr2, ?_, ?_⟩, by (show t.size - (k + 1) < t.size - k; omega), (by (repeat (first|exact ESub.nil|apply ESub.cons rfl))), rfl, (by (repeat (exact HKeep.refl)))⟩
      · show tx (s ++ _) = 34 :: ((tx t).take (k + 1)).flatMap escB
        rw [tx_append, hs, htk, List.flatMap_append]; simp [escB, h10, tx]
      · show (s ++ _).size ≤ 2 * (k + 1) + 1
        rw [ByteArray.size_append]; show s.size + 2 ≤ _; omega
    · by_cases h34 : c.toNat = 34 ∨ c.toNat = 92
      · have hesc : escB c = [92, c] := by simp [escB, h10, h34]
        have hi10 : ¬ (c.toNat : Int) = 10 := by omega
        by_cases h3 : c.toNat = 34
        · have hi : (c.toNat : Int) = 34 := by omega
          repeat (first|(apply sp_cond_t;(·exact eT rfl);(·(simp [*];done)))|(apply sp_cond_f;(·exact eT rfl);(·(simp [*];done)))|(apply spl_callR rfl;(·(repeat (first|exact eN|(apply eS;(·(first|exact eT rfl|exact eC))))));(·exact fun w' hh => writeByte_c0 (.inr rfl) hr (by omega) 92 hh);(intro r2 hr2))|(apply spl_callR rfl;(·(repeat (first|exact eN|(apply eS;(·exact eT rfl)))));(·exact fun w' hh => writeByte_c0 (.inr rfl) hr2 (by rw [size_push];omega) c hh);(intro r3 hr3))|apply then_n|apply block_n|apply sp_seq|apply sp_region|apply spl_nil|apply sp_skip|apply sp_block|((apply spl_pure rfl);(·(first|(apply ex_sindexE hlt hb';(·exact eT rfl);(·exact eT rfl))|((first|apply ex_move|apply ex_assign|apply ex_lss|apply ex_seql)<;>(exact eT rfl))|((apply ex_eql)<;>(first|exact eT rfl|exact eC))|(apply ex_addn<;>(first|exact eT rfl|exact eC|(constructor<;>omega)))))))
          refine ⟨(k + 1, r3, _), ⟨hlt, hr3, ?_, ?_⟩, by (show t.size - (k + 1) < t.size - k; omega), (by (repeat (first|exact ESub.nil|apply ESub.cons rfl))), rfl, (by (repeat (exact HKeep.refl)))⟩
          · show tx ((s.push 92).push c) = 34 :: ((tx t).take (k + 1)).flatMap escB
            rw [tx_push, tx_push, hs, htk, List.flatMap_append]; simp [hesc]
          · show ((s.push _).push _).size ≤ 2 * (k + 1) + 1
            rw [size_push, size_push]; omega
        · have hi : (c.toNat : Int) = 92 := by omega
          repeat (first|(apply sp_cond_t;(·exact eT rfl);(·(simp [*];done)))|(apply sp_cond_f;(·exact eT rfl);(·(simp [*];done)))|(apply spl_callR rfl;(·(repeat (first|exact eN|(apply eS;(·(first|exact eT rfl|exact eC))))));(·exact fun w' hh => writeByte_c0 (.inr rfl) hr (by omega) 92 hh);(intro r2 hr2))|(apply spl_callR rfl;(·(repeat (first|exact eN|(apply eS;(·exact eT rfl)))));(·exact fun w' hh => writeByte_c0 (.inr rfl) hr2 (by rw [size_push];omega) c hh);(intro r3 hr3))|apply then_n|apply block_n|apply sp_seq|apply sp_region|apply spl_nil|apply sp_skip|apply sp_block|((apply spl_pure rfl);(·(first|(apply ex_sindexE hlt hb';(·exact eT rfl);(·exact eT rfl))|((first|apply ex_move|apply ex_assign|apply ex_lss|apply ex_seql)<;>(exact eT rfl))|((apply ex_eql)<;>(first|exact eT rfl|exact eC))|(apply ex_addn<;>(first|exact eT rfl|exact eC|(constructor<;>omega)))))))
          refine ⟨(k + 1, r3, _), ⟨hlt, hr3, ?_, ?_⟩, by (show t.size - (k + 1) < t.size - k; omega), (by (repeat (first|exact ESub.nil|apply ESub.cons rfl))), rfl, (by (repeat (exact HKeep.refl)))⟩
          · show tx ((s.push 92).push c) = 34 :: ((tx t).take (k + 1)).flatMap escB
            rw [tx_push, tx_push, hs, htk, List.flatMap_append]; simp [hesc]
          · show ((s.push _).push _).size ≤ 2 * (k + 1) + 1
            rw [size_push, size_push]; omega
      · have hesc : escB c = [c] := by simp [escB, h10, h34]
        have hi10 : ¬ (c.toNat : Int) = 10 := by omega
        have hi34 : ¬ (c.toNat : Int) = 34 := by omega
        have hi92 : ¬ (c.toNat : Int) = 92 := by omega
        repeat (first|(apply sp_cond_t;(·exact eT rfl);(·(simp [*];done)))|(apply sp_cond_f;(·exact eT rfl);(·(simp [*];done)))|(apply spl_callR rfl;(·(repeat (first|exact eN|(apply eS;(·exact eT rfl)))));(·exact fun w' hh => writeByte_c0 (.inr rfl) hr (by omega) c hh);(intro r2 hr2))|apply then_n|apply block_n|apply sp_seq|apply sp_region|apply spl_nil|apply sp_skip|apply sp_block|((apply spl_pure rfl);(·(first|(apply ex_sindexE hlt hb';(·exact eT rfl);(·exact eT rfl))|((first|apply ex_move|apply ex_assign|apply ex_lss|apply ex_seql)<;>(exact eT rfl))|((apply ex_eql)<;>(first|exact eT rfl|exact eC))|(apply ex_addn<;>(first|exact eT rfl|exact eC|(constructor<;>omega)))))))
        refine ⟨(k + 1, r2, _), ⟨hlt, hr2, ?_, ?_⟩, by (show t.size - (k + 1) < t.size - k; omega), (by (repeat (first|exact ESub.nil|apply ESub.cons rfl))), rfl, (by (repeat (exact HKeep.refl)))⟩
        · show tx (s.push c) = 34 :: ((tx t).take (k + 1)).flatMap escB
          rw [tx_push, hs, htk, List.flatMap_append]; simp [hesc]
        · show (s.push _).size ≤ 2 * (k + 1) + 1
          rw [size_push]; omega
  · have hkt : (tx t).take k = tx t := List.take_of_length_le (by rw [hlen]; omega)
    rw [hkt] at hs
    repeat (first|(apply sp_cond_f;(·exact eT rfl);(·(simp [*];done)))|(apply spl_callR rfl;(·(repeat (first|exact eN|(apply eS;(·(first|exact eT rfl|exact eC))))));(·exact fun w' hh => writeByte_c0 (.inr rfl) hr (by omega) 34 hh);(intro r2 hr2))|(apply spl_callR rfl;(·(repeat (first|exact eN|(apply eS;(·exact eT rfl)))));(·exact fun w' hh => string_c0 hr2 (by rw [size_push];omega) hb hh);(rintro ⟨⟩ -))|apply then_n|apply sp_seq|apply sp_region|apply spl_nil|apply then_e|apply block_here|apply sp_ret|apply sp_exit|((apply spl_pure rfl);(·(((first|apply ex_assign|apply ex_lss)<;>(exact eT rfl))))))
    (apply ret_ok rfl;(·((apply Res.ofOne;((apply Res1.tmp;(·rfl)))))))
    congr 1
    apply tx_inj
    rw [tx_push, hs, tx_ofL]
    all_goals rfl
end Go.Proofs.Ytfdjlphfohnnnaa
/-
  Contracts: the lexer's unquoted.
-/
namespace Go.Proofs.Ytfdjlphfohnnnaa
open Go.RowKit Go.Sy
set_option linter.unusedVariables false
set_option linter.unusedSimpArgs false
def idx3 (d : UInt8) : Int := if d.toNat = 92 then 0 else if d.toNat = 34 then 1 else if d.toNat = 110 then 2 else -1
theorem firstIdx3 (d : UInt8) : firstIdx ⟨#[92, 34, 110]⟩ d = idx3 d := by
  have := all_bytes (p := fun d => decide (firstIdx ⟨#[92, 34, 110]⟩ d = idx3 d)) (by kernel_rfl) d
  simpa using this
def unqR (x : ByteArray) : ByteArray × Nat := match unqL ((tx x).drop 1) with | none => (⟨#[]⟩, 0) | some p => (ofL p.1, p.2 + 1)
attribute [local irreducible] Calls thenQ blockQ retQ Spc Spl Spq Ex Ev Evs Gd Upd ESub HKeep Res Res1 wlk effQ Rem SrcAt Split BH


theorem unqL_q {c : UInt8} {r : List UInt8} (h : c.toNat = 34) : unqL (c :: r) = some ([], 1) := by
  cases r <;> (unfold unqL; rw [if_pos h])
theorem unqL_nl {c : UInt8} {r : List UInt8} (h : ¬ c.toNat = 34) (h2 : c.toNat = 10) : unqL (c :: r) = none := by
  cases r <;> (unfold unqL; rw [if_neg h, if_pos h2])
theorem unqL_c {c : UInt8} {r : List UInt8} (h : ¬ c.toNat = 34) (h2 : ¬ c.toNat = 10) (h3 : ¬ c.toNat = 92) : unqL (c :: r) = (unqL r).map fun p => (c :: p.1, p.2 + 1) := by
  cases r
  · simp [unqL, h, h2, h3]
  · rw [unqL, if_neg h, if_neg h2, if_neg h3]
theorem unqL_esc {c d e : UInt8} {r : List UInt8} (h : c.toNat = 92) (he : escOf d = some e) : unqL (c :: d :: r) = (unqL r).map fun p => (e :: p.1, p.2 + 2) := by
  rw [unqL, if_neg (by omega), if_neg (by omega), if_pos h]
  simp only [he]
set_option maxRecDepth 100000 in
set_option maxHeartbeats 4000000 in
theorem unquoted_c {w : World} (t : ByteArray) (ht : t.size < 10000000) : Calls Try.prog 75 #[.string t] w (Ret w (.tuple #[.string (unqR t).1, .int .i64 ((unqR t).2 : Nat)])) := by
  refine sp_enter (vs := [_]) Try.func75 rfl Try.ntmps75 rfl ?_
  have hlen := tx_len t
  repeat (first|apply then_n|apply sp_seq|apply sp_region|apply spl_nil|apply sp_block|((apply spl_pure rfl);(·(((apply ex_assign)<;>(exact eC)))))|(apply spl_alloc rfl;intro _ _))
  rename_i b hb
  refine sp_loop (X := Nat × Option Addr × RowS × ByteArray) (fun x => [(5, true, .int .i64 (x.1 : Int)), (0, true, .string t), (4, true, .pointer (some ⟨b, 0, none⟩))]) (fun _ => w) (fun x => BH b x.2.1 x.2.2.1 x.2.2.2)
    (fun x => 1 ≤ x.1 ∧ x.1 ≤ t.size + 1 ∧ (x.2.1 = none ∨ x.2.1 = some ⟨b, 0, none⟩) ∧ BOk w x.2.2.1 x.2.2.2 ∧ (unqL ((tx t).drop 1) = (unqL ((tx t).drop x.1)).map fun p => (tx x.2.2.2 ++ p.1, p.2 + (x.1 - 1))) ∧ x.2.2.2.size ≤ x.1) (fun x => t.size + 1 - x.1) (1, none, RowS.start, ⟨#[]⟩) ⟨Nat.le_refl _, by (show 1 ≤ t.size + 1; omega), .inl rfl, BOk.start, ?_, Nat.zero_le _⟩ (by (repeat (first|exact ESub.nil|apply ESub.cons rfl))) rfl (by rw [← BH_start]; (repeat (exact HKeep.refl))) ?_
  · show unqL ((tx t).drop 1) = (unqL ((tx t).drop 1)).map fun p => (([] : List UInt8) ++ p.1, p.2 + 0)
    cases unqL ((tx t).drop 1) <;> rfl
  rintro ⟨k, p, r, s⟩ ⟨hk1, hk, hp, hr, hi, hsz⟩
  replace hk1 : 1 ≤ k := hk1
  replace hk : k ≤ t.size + 1 := hk
  replace hsz : s.size ≤ k := hsz
  replace hp : p = none ∨ p = some ⟨b, 0, none⟩ := hp
  replace hr : BOk w r s := hr
  replace hi : unqL ((tx t).drop 1) = (unqL ((tx t).drop k)).map fun p => (tx s ++ p.1, p.2 + (k - 1)) := hi
  dsimp only
  by_cases hlt : k < t.size
  · obtain ⟨c, hb', hd⟩ := drop_at hlt
    by_cases h34 : c.toNat = 34
    · have hi34 : (c.toNat : Int) = 34 := by omega
      have hu : unqR t = (s, k + 1) := by
        unfold unqR
        rw [hi, hd, unqL_q h34]
        simp only [Option.map_some, List.append_nil]
        rw [ofL_tx, show 1 + (k - 1) + 1 = k + 1 by omega]
      repeat (first|(apply sp_cond_t;(·exact eT rfl);(·(simp [*];done)))|(apply spl_callR rfl;(·(repeat (first|exact eN|(apply eS;(·exact eT rfl)))));(·exact fun w' hh => string_c0 hr (by omega) hb hh);(rintro ⟨⟩ -))|apply then_n|apply sp_seq|apply sp_region|apply spl_nil|apply then_r|apply block_r|apply sp_skip|apply sp_ret|apply sp_block|((apply spl_pure rfl);(·(first|(apply ex_sindexE hlt hb';(·exact eT rfl);(·exact eT rfl))|((first|apply ex_move|apply ex_assign|apply ex_lss|apply ex_seql)<;>(exact eT rfl))|((first|apply ex_eql|apply ex_slen)<;>(first|exact eT rfl|exact eC))|(apply ex_addn<;>(first|exact eT rfl|exact eC|(constructor<;>omega)))))))
      (apply ret_ok rfl;(·((apply Res.ofTwo<;>((apply Res1.tmp;(·rfl)))))))
      rw [hu]
      all_goals rfl
    · have hi34 : ¬ (c.toNat : Int) = 34 := by omega
      by_cases h10 : c.toNat = 10
      · have hi10 : (c.toNat : Int) = 10 := by omega
        have hu : unqR t = (⟨#[]⟩, 0) := by
          unfold unqR
          rw [hi, hd, unqL_nl h34 h10]
          all_goals rfl
        repeat (first|(apply sp_cond_t;(·exact eT rfl);(·(simp [*];done)))|(apply sp_cond_f;(·exact eT rfl);(·(simp [*];done)))|apply then_n|apply sp_seq|apply sp_region|apply spl_nil|apply then_r|apply block_r|apply sp_skip|apply sp_ret|apply sp_block|((apply spl_pure rfl);(·(first|(apply ex_sindexE hlt hb';(·exact eT rfl);(·exact eT rfl))|((first|apply ex_move|apply ex_assign|apply ex_lss|apply ex_seql)<;>(first|exact eT rfl|exact eC))|((first|apply ex_eql|apply ex_slen)<;>(first|exact eT rfl|exact eC))))))
        (apply ret_ok rfl;(·((apply Res.ofTwo<;>((apply Res1.tmp;(·rfl)))))))
        rw [hu]
        all_goals rfl
      · have hi10 : ¬ (c.toNat : Int) = 10 := by omega
        by_cases h92 : c.toNat = 92
        · have hi92 : (c.toNat : Int) = 92 := by omega
          by_cases hlt2 : k + 1 < t.size
          · obtain ⟨d, hb2, hd2⟩ := drop_at hlt2
            have hi3 : ∀ (w' : World) (n : Nat), idx3 d = (n : Int) → Calls Try.prog 85 #[.string ⟨#[92, 34, 110]⟩, .int .u8 (d.toNat : Int)] w' (Ret w' (.int .i64 ((n : Nat) : Int))) := fun w' n hn => by
              rw [← hn, ← firstIdx3]
              exact indexByte_c _ d
            by_cases hd92 : d.toNat = 92
            · have hdd := hd92
              have hi3 := fun w' n (h : n = 0) => hi3 w' n (by simp [idx3, hdd, h])
              have hix := fun w' => (hi3 w' 0 rfl : Calls Try.prog 85 #[.string ⟨#[92, 34, 110]⟩, .int .u8 (d.toNat : Int)] w' (Ret w' (.int .i64 ((0 : Nat) : Int))))
              repeat (first|(apply sp_cond_t;(·exact eT rfl);(·(first|(simp [*];done)|(simp;omega))))|(apply sp_cond_f;(·exact eT rfl);(·(first|(simp;done)|(simp [*];done))))|(apply spl_callp rfl;(·(repeat (first|exact eN|(apply eS;(·(first|exact eT rfl|exact eC))))));(·exact fun w' hh => hix w'))|(apply spl_callR rfl;(·(repeat (first|exact eN|(apply eS;(·exact eT rfl)))));(·exact fun w' hh => writeByte_c0 hp hr (by omega) 92 hh);(intro r2 hr2))|apply then_n|apply block_n|apply sp_seq|apply sp_region|apply spl_nil|apply sp_skip|apply sp_block|((apply spl_pure rfl);(·(first|(apply ex_sindexE hlt hb';(·exact eT rfl);(·exact eT rfl))|(apply ex_sindexE hlt2 hb2;(·exact eT rfl);(·exact eT rfl))|(apply ex_sindexE (s:=⟨#[92, 34, 10]⟩) (i:=0) (b:=92) (by decide) rfl;(·exact eC);(·exact eT rfl))|((first|apply ex_move|apply ex_assign|apply ex_lss|apply ex_seql)<;>(first|exact eT rfl|exact eC))|((first|apply ex_eql|apply ex_slen)<;>(first|exact eT rfl|exact eC))|(apply ex_addn<;>(first|exact eT rfl|exact eC|(constructor<;>omega)))))))
              refine ⟨(k + 2, some ⟨b, 0, none⟩, r2, s.push 92), ⟨by (show 1 ≤ k + 2; omega), by (show k + 2 ≤ t.size + 1; omega), .inr rfl, hr2, ?_, ?_⟩, by (show t.size + 1 - (k + 2) < t.size + 1 - k; omega), (by (repeat (first|exact ESub.nil|apply ESub.cons rfl))), rfl, (by (repeat (exact HKeep.refl)))⟩
              · show unqL ((tx t).drop 1) = (unqL ((tx t).drop (k + 2))).map fun p => (tx (s.push 92) ++ p.1, p.2 + (k + 2 - 1))
                rw [hi, hd, hd2]
                rw [unqL_esc h92 (e := 92) (by simp [escOf, hdd]), Option.map_map]
                congr 1
                funext p
                simp only [Function.comp, tx_push, List.append_assoc, List.singleton_append]
                rw [show p.2 + 2 + (k - 1) = p.2 + (k + 2 - 1) by omega]
              · show (s.push 92).size ≤ k + 2
                rw [size_push]; omega
            · by_cases hd34 : d.toNat = 34
              · have hdd := hd34
                have hi3 := fun w' n (h : n = 1) => hi3 w' n (by simp [idx3, hdd, h])
                have hix := fun w' => (hi3 w' 1 rfl : Calls Try.prog 85 #[.string ⟨#[92, 34, 110]⟩, .int .u8 (d.toNat : Int)] w' (Ret w' (.int .i64 ((1 : Nat) : Int))))
                repeat (first|(apply sp_cond_t;(·exact eT rfl);(·(first|(simp [*];done)|(simp;omega))))|(apply sp_cond_f;(·exact eT rfl);(·(first|(simp;done)|(simp [*];done))))|(apply spl_callp rfl;(·(repeat (first|exact eN|(apply eS;(·(first|exact eT rfl|exact eC))))));(·exact fun w' hh => hix w'))|(apply spl_callR rfl;(·(repeat (first|exact eN|(apply eS;(·exact eT rfl)))));(·exact fun w' hh => writeByte_c0 hp hr (by omega) 34 hh);(intro r2 hr2))|apply then_n|apply block_n|apply sp_seq|apply sp_region|apply spl_nil|apply sp_skip|apply sp_block|((apply spl_pure rfl);(·(first|(apply ex_sindexE hlt hb';(·exact eT rfl);(·exact eT rfl))|(apply ex_sindexE hlt2 hb2;(·exact eT rfl);(·exact eT rfl))|(apply ex_sindexE (s:=⟨#[92, 34, 10]⟩) (i:=1) (b:=34) (by decide) rfl;(·exact eC);(·exact eT rfl))|((first|apply ex_move|apply ex_assign|apply ex_lss|apply ex_seql)<;>(first|exact eT rfl|exact eC))|((first|apply ex_eql|apply ex_slen)<;>(first|exact eT rfl|exact eC))|(apply ex_addn<;>(first|exact eT rfl|exact eC|(constructor<;>omega)))))))
                refine ⟨(k + 2, some ⟨b, 0, none⟩, r2, s.push 34), ⟨by (show 1 ≤ k + 2; omega), by (show k + 2 ≤ t.size + 1; omega), .inr rfl, hr2, ?_, ?_⟩, by (show t.size + 1 - (k + 2) < t.size + 1 - k; omega), (by (repeat (first|exact ESub.nil|apply ESub.cons rfl))), rfl, (by (repeat (exact HKeep.refl)))⟩
                · show unqL ((tx t).drop 1) = (unqL ((tx t).drop (k + 2))).map fun p => (tx (s.push 34) ++ p.1, p.2 + (k + 2 - 1))
                  rw [hi, hd, hd2]
                  rw [unqL_esc h92 (e := 34) (by simp [escOf, hdd]), Option.map_map]
                  congr 1
                  funext p
                  simp only [Function.comp, tx_push, List.append_assoc, List.singleton_append]
                  rw [show p.2 + 2 + (k - 1) = p.2 + (k + 2 - 1) by omega]
                · show (s.push 34).size ≤ k + 2
                  rw [size_push]; omega
              · by_cases hd110 : d.toNat = 110
                · have hdd := hd110
                  have hi3 := fun w' n (h : n = 2) => hi3 w' n (by simp [idx3, hdd, h])
                  have hix := fun w' => (hi3 w' 2 rfl : Calls Try.prog 85 #[.string ⟨#[92, 34, 110]⟩, .int .u8 (d.toNat : Int)] w' (Ret w' (.int .i64 ((2 : Nat) : Int))))
                  repeat (first|(apply sp_cond_t;(·exact eT rfl);(·(first|(simp [*];done)|(simp;omega))))|(apply sp_cond_f;(·exact eT rfl);(·(first|(simp;done)|(simp [*];done))))|(apply spl_callp rfl;(·(repeat (first|exact eN|(apply eS;(·(first|exact eT rfl|exact eC))))));(·exact fun w' hh => hix w'))|(apply spl_callR rfl;(·(repeat (first|exact eN|(apply eS;(·exact eT rfl)))));(·exact fun w' hh => writeByte_c0 hp hr (by omega) 10 hh);(intro r2 hr2))|apply then_n|apply block_n|apply sp_seq|apply sp_region|apply spl_nil|apply sp_skip|apply sp_block|((apply spl_pure rfl);(·(first|(apply ex_sindexE hlt hb';(·exact eT rfl);(·exact eT rfl))|(apply ex_sindexE hlt2 hb2;(·exact eT rfl);(·exact eT rfl))|(apply ex_sindexE (s:=⟨#[92, 34, 10]⟩) (i:=2) (b:=10) (by decide) rfl;(·exact eC);(·exact eT rfl))|((first|apply ex_move|apply ex_assign|apply ex_lss|apply ex_seql)<;>(first|exact eT rfl|exact eC))|((first|apply ex_eql|apply ex_slen)<;>(first|exact eT rfl|exact eC))|(apply ex_addn<;>(first|exact eT rfl|exact eC|(constructor<;>omega)))))))
                  refine ⟨(k + 2, some ⟨b, 0, none⟩, r2, s.push 10), ⟨by (show 1 ≤ k + 2; omega), by (show k + 2 ≤ t.size + 1; omega), .inr rfl, hr2, ?_, ?_⟩, by (show t.size + 1 - (k + 2) < t.size + 1 - k; omega), (by (repeat (first|exact ESub.nil|apply ESub.cons rfl))), rfl, (by (repeat (exact HKeep.refl)))⟩
                  · show unqL ((tx t).drop 1) = (unqL ((tx t).drop (k + 2))).map fun p => (tx (s.push 10) ++ p.1, p.2 + (k + 2 - 1))
                    rw [hi, hd, hd2]
                    rw [unqL_esc h92 (e := 10) (by simp [escOf, hdd]), Option.map_map]
                    congr 1
                    funext p
                    simp only [Function.comp, tx_push, List.append_assoc, List.singleton_append]
                    rw [show p.2 + 2 + (k - 1) = p.2 + (k + 2 - 1) by omega]
                  · show (s.push 10).size ≤ k + 2
                    rw [size_push]; omega
                · have hu : unqR t = (⟨#[]⟩, 0) := by
                    unfold unqR
                    rw [hi, hd, hd2, unqL, if_neg h34, if_neg h10, if_pos h92]
                    simp only [escOf, hd92, hd34, hd110, if_false, Option.map_none]
                  have hix : ∀ w', Calls Try.prog 85 #[.string ⟨#[92, 34, 110]⟩, .int .u8 (d.toNat : Int)] w' (Ret w' (.int .i64 (-1))) := fun w' => by
                    have := indexByte_c (w := w') ⟨#[92, 34, 110]⟩ d
                    rw [firstIdx3] at this
                    simpa [idx3, hd92, hd34, hd110] using this
                  repeat (first|(apply sp_cond_t;(·exact eT rfl);(·(first|(simp;done)|(simp [*];done)|(simp;omega))))|(apply sp_cond_f;(·exact eT rfl);(·(simp [*];done)))|(apply spl_callp rfl;(·(repeat (first|exact eN|(apply eS;(·(first|exact eT rfl|exact eC))))));(·exact fun w' hh => hix w'))|apply then_n|apply sp_seq|apply sp_region|apply spl_nil|apply then_r|apply block_r|apply sp_skip|apply sp_ret|apply sp_block|((apply spl_pure rfl);(·(first|(apply ex_sindexE hlt hb';(·exact eT rfl);(·exact eT rfl))|(apply ex_sindexE hlt2 hb2;(·exact eT rfl);(·exact eT rfl))|((first|apply ex_move|apply ex_assign|apply ex_lss|apply ex_seql)<;>(first|exact eT rfl|exact eC))|((first|apply ex_eql|apply ex_slen)<;>(first|exact eT rfl|exact eC))|(apply ex_addn<;>(first|exact eT rfl|exact eC|(constructor<;>omega)))))))
                  (apply ret_ok rfl;(·((apply Res.ofTwo<;>((apply Res1.tmp;(·rfl)))))))
                  rw [hu]
                  all_goals rfl
          · have hd2 : (tx t).drop (k + 1) = [] := drop_end (by omega)
            have hu : unqR t = (⟨#[]⟩, 0) := by
              unfold unqR
              rw [hi, hd, hd2, unqL, if_neg h34, if_neg h10, if_pos h92]
              all_goals rfl
            repeat (first|(apply sp_cond_t;(·exact eT rfl);(·(first|(simp;done)|(simp [*];done))))|(apply sp_cond_f;(·exact eT rfl);(·(first|(simp [*];done)|(simp;omega))))|apply then_n|apply sp_seq|apply sp_region|apply spl_nil|apply then_r|apply block_r|apply sp_skip|apply sp_ret|apply sp_block|((apply spl_pure rfl);(·(first|(apply ex_sindexE hlt hb';(·exact eT rfl);(·exact eT rfl))|((first|apply ex_move|apply ex_assign|apply ex_lss|apply ex_seql)<;>(first|exact eT rfl|exact eC))|((first|apply ex_eql|apply ex_slen)<;>(first|exact eT rfl|exact eC))|(apply ex_addn<;>(first|exact eT rfl|exact eC|(constructor<;>omega)))))))
            (apply ret_ok rfl;(·((apply Res.ofTwo<;>((apply Res1.tmp;(·rfl)))))))
            rw [hu]
            all_goals rfl
        · have hi92 : ¬ (c.toNat : Int) = 92 := by omega
          repeat (first|(apply sp_cond_t;(·exact eT rfl);(·(simp [*];done)))|(apply sp_cond_f;(·exact eT rfl);(·(simp [*];done)))|(apply spl_callR rfl;(·(repeat (first|exact eN|(apply eS;(·exact eT rfl)))));(·exact fun w' hh => writeByte_c0 hp hr (by omega) c hh);(intro r2 hr2))|apply then_n|apply block_n|apply sp_seq|apply sp_region|apply spl_nil|apply sp_skip|apply sp_block|((apply spl_pure rfl);(·(first|(apply ex_sindexE hlt hb';(·exact eT rfl);(·exact eT rfl))|((first|apply ex_move|apply ex_assign|apply ex_lss|apply ex_seql)<;>(exact eT rfl))|((first|apply ex_eql|apply ex_slen)<;>(first|exact eT rfl|exact eC))|(apply ex_addn<;>(first|exact eT rfl|exact eC|(constructor<;>omega)))))))
          refine ⟨(k + 1, some ⟨b, 0, none⟩, r2, s.push c), ⟨by (show 1 ≤ k + 1; omega), by (show k + 1 ≤ t.size + 1; omega), .inr rfl, hr2, ?_, ?_⟩, by (show t.size + 1 - (k + 1) < t.size + 1 - k; omega), (by (repeat (first|exact ESub.nil|apply ESub.cons rfl))), rfl, (by (repeat (exact HKeep.refl)))⟩
          · show unqL ((tx t).drop 1) = (unqL ((tx t).drop (k + 1))).map fun p => (tx (s.push c) ++ p.1, p.2 + (k + 1 - 1))
            rw [hi, hd, unqL_c h34 h10 h92, Option.map_map]
            congr 1
            funext p
            simp only [Function.comp, tx_push, List.append_assoc, List.singleton_append]
            rw [show p.2 + 1 + (k - 1) = p.2 + (k + 1 - 1) by omega]
          · show (s.push c).size ≤ k + 1
            rw [size_push]; omega
  · have hu : unqR t = (⟨#[]⟩, 0) := by
      unfold unqR
      rw [hi, drop_end (by omega)]
      all_goals rfl
    repeat (first|(apply sp_cond_f;(·exact eT rfl);(·(simp [*];done)))|apply then_n|apply sp_seq|apply sp_region|apply spl_nil|apply then_e|apply block_here|apply sp_ret|apply sp_exit|((apply spl_pure rfl);(·(first|((first|apply ex_move|apply ex_assign|apply ex_lss)<;>(first|exact eT rfl|exact eC))|((apply ex_slen)<;>(exact eT rfl))))))
    (apply ret_ok rfl;(·((apply Res.ofTwo<;>((apply Res1.tmp;(·rfl)))))))
    rw [hu]
    all_goals rfl
end Go.Proofs.Ytfdjlphfohnnnaa
/-
  Ranges over a function: code in a round, the statement, calls of yield, functions that leave with a mark.
-/
namespace Go.Sy
open Go.RowKit
set_option linter.unusedVariables false
set_option linter.unusedSimpArgs false

def fenceAt (r : Option Nat) : Fence := { Fence.wide with round := r }
def wd (a : Act) (D : List Deferred) : Act := { a with defers := a.defers ++ D }
theorem wd_put (a : Act) (D : List Deferred) (d : Option Tmp) (v : Value) : (wd a D).put d v = wd (a.put d v) D := by cases d <;> rfl
theorem wd_nil (a : Act) : wd a [] = a := by cases a; simp [wd]
theorem wd_back (a : Act) : wd { a with defers := [] } a.defers = a := by cases a; simp [wd]
def noDefer (l : List Oper) : Bool := l.all fun o => match o.op with | .defer _ => false | _ => true
theorem noDefer_mem {l : List Oper} (h : noDefer l = true) {o : Oper} (ho : o ∈ l) : ∀ c, o.op ≠ .defer c := by
  have := List.all_eq_true.1 h o ho
  intro c hc
  rw [hc] at this
  cases this

section
variable {P : Program} {r : Option Nat} {n : Nat} {D : List Deferred}
theorem callsIn_at {f : FuncId} {args : Array Value} {w : World} {R : Ending → World → Prop} (h : Calls P f args w R) : CallsIn (fenceAt r) n P f args w R :=
  (callsIn_wide.2 h : CallsIn Fence.wide n P f args w R)
theorem rowsIn_at {row : String} {args : Array Value} {w : World} {R : Value → World → Prop} (h : Rows P row args w R) : RowsIn (fenceAt r) n P row args w R := by
  intro c cs _
  obtain ⟨v, w', hR, hs⟩ := h c cs
  exact ⟨v, w', hR, (stepsIn_wide.2 hs : StepsIn (Machine.fenced P Fence.wide) P _ _)⟩

theorem oper_in {o : Oper} (hnd : ∀ c, o.op ≠ .defer c) {K K' : Act → World → Prop} {Q Q' : Exit → Act → World → Prop} (hK : ∀ a w, K a w → K' (wd a D) w) (hQ : ∀ x a w, Q x a w → Q' x (wd a D) w) {a : Act} {w : World} (h : o.wp P a w K Q) : o.wpIn (fenceAt r) n P (wd a D) w K' Q' := by
  refine ⟨fun _ _ => trivial, ?_⟩
  rw [Oper.semAt_eq _ _ _ hnd]
  have he : (wd a D).eval = a.eval := rfl
  rw [he]
  unfold Oper.wp at h
  generalize (execOp a.eval o).run P w = res at h ⊢
  cases res with
  | ok x w' =>
    cases x <;> simp only [Oper.upon] at h <;> simp only [Oper.uponIn]
    case value v => rw [wd_put]; exact hK _ _ h
    case skip => rw [wd_put]; exact hK _ _ h
    case defer d =>
      have : ({ wd a D with defers := d :: (wd a D).defers } : Act) = wd { a with defers := d :: a.defers } D := rfl
      rw [this, wd_put]; exact hK _ _ h
    case enter f args =>
      refine ⟨fun h => (by cases h), callsIn_at (h.mono fun en w'' he => ?_)⟩
      cases en with
      | returned v =>
        have h3 := hK _ _ he
        rw [← wd_put] at h3
        exact h3
      | panicked c => exact hQ _ _ _ he
      | outgrown => obtain ⟨a0, w0, h0⟩ := he; exact ⟨_, _, hQ _ _ _ h0⟩
    case row row args => exact ⟨fun h => (by cases h), rowsIn_at (h.mono fun v w'' he => by rw [wd_put]; exact hK _ _ he)⟩
    all_goals exact h
  | halt x w' =>
    cases x <;> simp only [Oper.upon] at h <;> simp only [Oper.uponIn]
    case panic v => exact hQ _ _ _ h

theorem list_in {ops : Array Oper} {Q Q' : Exit → Act → World → Prop} (hno : ∀ a w, ¬ Q .outgrown a w) (hQ : ∀ x a w, Q x a w → Q' x (wd a D) w) : ∀ (l : List Oper), noDefer l = true → ∀ (a : Act) (w : World), wpList P ops Q l a w → wpListIn (fenceAt r) n P ops Q' l (wd a D) w
  | [], _, a, w, h => hQ _ _ _ h
  | o :: l, hl, a, w, h => by
    have hl' : noDefer l = true := by simp only [noDefer, List.all_cons, Bool.and_eq_true] at hl ⊢; exact hl.2
    simp only [wpList] at h
    simp only [wpListIn]
    have hy : yielded ops (wd a D).tmps = yielded ops a.tmps := rfl
    rw [hy]
    split
    · rename_i hw
      rw [if_pos hw] at h
      rcases h with h | ⟨_, a0, w0, h⟩
      · exact oper_in (noDefer_mem hl (.head _)) (fun a w h => list_in hno hQ l hl' a w h) hQ h
      · exact (hno _ _ h).elim
    · rename_i hw
      rw [if_neg hw] at h
      refine ⟨fun _ _ => trivial, ?_⟩
      rw [wd_put]
      exact list_in hno hQ l hl' _ _ h

theorem any_in {ops : Array Oper} (hnd : noDefer ops.toList = true) {C : World → Prop} {Q : Act → World → Prop} {m : Nat} {Q' : Exit → Act → World → Prop} (hQ : ∀ a w, Q a w → Q' .normal (wd a D) w) : ∀ (fuel : Nat) (listed : Array Bool) (a : Act) (w : World),
    wpI P .any ops m C Q fuel listed a w → wpAnyIn (fenceAt r) n P .any ops Q' fuel listed (wd a D) w
  | 0, _, _, _, h => ⟨h.1, hQ _ _ h.2⟩
  | fuel + 1, listed, a, w, h => ⟨fun h0 => hQ _ _ (h.1 h0), fun i hi => by
      have h1 := h.2 i hi
      unfold opI at h1
      unfold wpOpIn
      have hy : yielded ops (wd a D).tmps = yielded ops a.tmps := rfl
      split
      · rename_i ho; simp only [ho] at h1; exact any_in hnd hQ fuel _ _ _ h1.2
      · rename_i o ho
        simp only [ho] at h1
        rw [hy]
        split
        · rename_i hw; simp only [hw, if_true] at h1; exact oper_in (noDefer_mem hnd (Array.mem_toList_iff.2 (Array.mem_of_getElem? ho))) (fun a' w' h2 => any_in hnd hQ fuel _ _ _ h2.2) (Q := fun _ _ _ => False) (fun _ _ _ h => h.elim) h1
        · rename_i hw; simp only [hw] at h1; exact ⟨fun _ _ => trivial, by rw [wd_put]; exact any_in hnd hQ fuel _ _ _ h1.2⟩⟩
end

/-- Not left by outgrowing. -/
class NoOut (Q : Post) : Prop where
  no : ∀ e w H, ¬ Q .outgrown e w H
instance NoOut.then {K : Env → World → Heap → Prop} {Q : Post} [h : NoOut Q] : NoOut (thenQ K Q) := ⟨fun e w H => h.no e w H⟩
instance NoOut.block {id : Nat} {Q : Post} [h : NoOut Q] : NoOut (blockQ id Q) := ⟨fun e w H => h.no e w H⟩
instance NoOut.ret {P : Program} {fn : Func} {Be : Nat} {R : Ending → World → Prop} : NoOut (retQ P fn Be R) := ⟨fun e w H h => h⟩
theorem NoOut.lift {N Be : Nat} {Q : Post} [h : NoOut Q] (a : Act) (w : World) : ¬ lift N Be Q .outgrown a w := fun ⟨_, _, _, _, _, hq⟩ => h.no _ _ _ hq

/-- A scope that nothing jumps in. -/
def scopeQ (Q : Post) : Post := fun x e w H => match x with | .goto _ => False | x => Q x e w H
instance NoOut.scope {Q : Post} [h : NoOut Q] : NoOut (scopeQ Q) := ⟨fun e w H => h.no e w H⟩
section
variable {P : Program} {N Be : Nat} {Q : Post} {e : Env} {w0 : World} {H : Heap}
theorem scope_n (h : Q .normal e w0 H) : scopeQ Q .normal e w0 H := h
theorem scope_r (h : Q .ret e w0 H) : scopeQ Q .ret e w0 H := h
theorem scope_e {id : Nat} (h : Q (.exit id) e w0 H) : scopeQ Q (.exit id) e w0 H := h
theorem sp_scope {c : Code} (h : Spc P N Be c (scopeQ Q) e w0 H) : Spc P N Be (.scope c) Q e w0 H := by
  intro a w hf hh
  refine wp_scope_straight (wp_mono (h a w hf hh) ?_)
  rintro x a w ⟨e, w0, H, h1, h2, h3⟩
  cases x <;> first | exact ⟨e, w0, H, h1, h2, h3⟩ | exact h3.elim
end

abbrev PostM := List Deferred → Post
def liftM (N Be : Nat) (Q : PostM) : Exit → Act → World → Prop := fun x a w => ∃ e w0 H, Fr N e { a with defers := [] } ∧ Hp Be w0 H w ∧ Q a.defers x e w0 H
/-- Code in a round (r) or in a function, with marks D to come behind it. -/
def SpcM (r : Option Nat) (D : List Deferred) (P : Program) (N Be : Nat) (c : Code) (Q : PostM) (e : Env) (w0 : World) (H : Heap) : Prop := ∀ a w, Fr N e a → Hp Be w0 H w → c.wpIn (fenceAt r) 0 P (liftM N Be Q) (wd a D) w
def SplI (P : Program) (N Be : Nat) (ops : Array Oper) (Q : Post) (l : List Oper) (e : Env) (w0 : World) (H : Heap) : Prop := ∀ a w, Fr N e a → Hp Be w0 H w → wpListIn (fenceAt none) 0 P ops (lift N Be Q) l a w

section rules
variable {P : Program} {r : Option Nat} {D : List Deferred} {N Be : Nat} {Q : PostM} {e : Env} {w0 : World} {H : Heap}
theorem liftM_of {a : Act} {w : World} {x : Exit} (hf : Fr N e a) (hh : Hp Be w0 H w) (h : Q D x e w0 H) : liftM N Be Q x (wd a D) w := by
  have hd := hf.defers
  refine ⟨e, w0, H, ⟨rfl, hf.size, hf.get⟩, hh, ?_⟩
  show Q (a.defers ++ D) x e w0 H
  rw [hd]; exact h
theorem liftM_lift {a : Act} {w : World} {x : Exit} (h : lift N Be (Q D) x a w) : liftM N Be Q x (wd a D) w := by
  obtain ⟨e, w0, H, hf, hh, h⟩ := h
  exact liftM_of hf hh h
theorem spm_region {id : Nat} {l : List Oper} (hnd : noDefer l = true) [NoOut (Q D)] (h : Spl P N Be l.toArray (Q D) l e w0 H) : SpcM r D P N Be (.region id l.toArray false) Q e w0 H :=
  fun a w hf hh => wpIn_region_lit (list_in (Q := lift N Be (Q D)) NoOut.lift (fun _ _ _ h => liftM_lift h) l hnd a w (h a w hf hh))
theorem spm_drawn {id : Nat} {l : List Oper} (p : List (Nat × Bool)) (m : Nat) (H1 : Heap) (hm : P.follows .mixedOrders = true) (hB : drawnB l.toArray m p = true) (hnd : noDefer l = true) (hk : HKeep w0 H1 H) (h : wlk P N Be l.toArray m (Q D) H1 p e w0 H) :
    SpcM r D P N Be (.region id l.toArray true) Q e w0 H := by
  intro a w hf hh
  simp only [drawnB, Bool.and_eq_true, decide_eq_true_eq] at hB
  obtain ⟨⟨⟨h1, h2⟩, h3⟩, h4⟩ := hB
  refine wpIn_region_any hm ?_
  have := wlk_sound h2 h1 p _ false a _ e H h4 (Cl.start rfl) hf hh.drew (fun _ => (hh.drew).sub hk) h
  rw [h3] at this
  exact any_in (by simpa using hnd) (fun _ _ hq => liftM_lift hq) _ _ _ _ this
theorem spm_seq {x y : Code} (h : SpcM r D P N Be x (fun D' => thenQ (fun e w H => SpcM r D' P N Be y Q e w H) (Q D')) e w0 H) : SpcM r D P N Be (.seq x y) Q e w0 H := by
  intro a w hf hh
  refine wpIn_seq (wpIn_mono (h a w hf hh) ?_)
  rintro x a w ⟨e, w0, H, h1, h2, h3⟩
  cases x <;> first | exact (wd_back a ▸ h3 _ w h1 h2 : Code.wpIn _ _ _ _ _ a w) | exact ⟨e, w0, H, h1, h2, h3⟩
theorem spm_skip (h : Q D .normal e w0 H) : SpcM r D P N Be .skip Q e w0 H := fun a w hf hh => wpIn_skip (liftM_of hf hh h)
theorem spm_exit {id : Nat} (h : Q D (.exit id) e w0 H) : SpcM r D P N Be (.exit id) Q e w0 H := fun a w hf hh => wpIn_exit (liftM_of hf hh h)
theorem spm_ret (h : Q D .ret e w0 H) : SpcM r D P N Be .ret Q e w0 H := fun a w hf hh => wpIn_ret (liftM_of hf hh h)
theorem spm_block {id : Nat} {c : Code} (h : SpcM r D P N Be c (fun D' => blockQ id (Q D')) e w0 H) : SpcM r D P N Be (.block id c) Q e w0 H := by
  intro a w hf hh
  refine wpIn_block (wpIn_mono (h a w hf hh) ?_)
  rintro x a w ⟨e, w0, H, h1, h2, h3⟩
  cases x <;> first | exact ⟨e, w0, H, h1, h2, h3⟩ | skip
  rename_i id'
  simp only [blockQ] at h3
  simp only [Exit.inBlock]
  split at h3
  · rename_i he; rw [if_pos he]; exact ⟨e, w0, H, h1, h2, h3⟩
  · rename_i he; rw [if_neg he]; exact ⟨e, w0, H, h1, h2, h3⟩
theorem spm_cond {c : Operand} {x y : Code} {b : Bool} (hc : Ev true e c (.bool b)) (ht : b = true → SpcM r D P N Be x Q e w0 H) (hf : b = false → SpcM r D P N Be y Q e w0 H) : SpcM r D P N Be (.cond c x y) Q e w0 H :=
  fun a w h1 h2 => wpIn_cond_split (a := wd a D) (hc N a h1 rfl) (fun hb => ht hb a w h1 h2) (fun hb => hf hb a w h1 h2)
theorem spm_cond_t {c : Operand} {x y : Code} {b : Bool} (hc : Ev true e c (.bool b)) (hb : b = true) (ht : SpcM r D P N Be x Q e w0 H) : SpcM r D P N Be (.cond c x y) Q e w0 H :=
  spm_cond hc (fun _ => ht) (fun h => by rw [hb] at h; cases h)
theorem spm_cond_f {c : Operand} {x y : Code} {b : Bool} (hc : Ev true e c (.bool b)) (hb : b = false) (hf : SpcM r D P N Be y Q e w0 H) : SpcM r D P N Be (.cond c x y) Q e w0 H :=
  spm_cond hc (fun h => by rw [hb] at h; cases h) (fun _ => hf)

/-- A function that may leave with a mark. -/
def markQ (P : Program) (fn : Func) (Be : Nat) (R : Ending → World → Prop) : PostM := fun D x e w0 H =>
  match x with
  | .ret | .normal => (D = [] ∧ ∃ v, Res fn.results P Be e w0 H v ∧ ∀ w', Hp Be w0 H w' → R (.returned v) w') ∨
      ∃ d0 H' v, D = [{ target := .collected d0, args := #[] }] ∧ Upd H d0 (.deferred (some [])) (.deferred none) H' ∧ Res fn.results P Be e w0 H' v ∧ ∀ w', Hp Be w0 H' w' → R (.returned v) w'
  | _ => False
instance NoOut.mark {P : Program} {fn : Func} {Be : Nat} {R : Ending → World → Prop} {D : List Deferred} : NoOut (markQ P fn Be R D) := ⟨fun e w H h => h⟩
theorem Hp.putObj {w : World} {H' : Heap} {g : Nat} {o o' : Obj} (h : Hp Be w0 H w) (hu : Upd H g o o' H') : Hp Be w0 H' (w.putObj g o') :=
  h.upd hu rfl rfl rfl (by simp) (fun k _ hk => World.putObj_heap_other hk) (World.putObj_heap_same (h.lt hu.mem))
theorem sp_enterD {f : FuncId} {fn : Func} {c : Code} {vs : List Value} {w : World} {R : Ending → World → Prop} (hf : P.funcs[f]? = some fn) (hb : fn.body = some c) (hN : fn.ntmps = N) (hl : Nat.ble vs.length N = true)
    (h : SpcM none [] P N w.heap.size c (markQ P fn w.heap.size R) (envOf 0 vs) w []) : Calls P f vs.toArray w R := by
  refine callsIn_wide.1 (callsIn_of_wp_marks (F := Fence.wide) (n := 0) hf hb trivial (wpIn_mono (wd_nil _ ▸ h { tmps := vs.toArray ++ Array.replicate (fn.ntmps - vs.toArray.size) undef, defers := [] } w ?_ (Hp.start w) : Code.wpIn Fence.wide 0 P c _ _ w) ?_))
  · have key : ∀ (a : Act) (w' : World) (e : Env) (w0 : World) (H : Heap), Fr N e { a with defers := [] } → Hp w.heap.size w0 H w' → markQ P fn w.heap.size R a.defers .ret e w0 H → LeavesInM Fence.wide 0 P fn a.tmps R a.defers .returning w' := by
      intro a w' e w0 H h1 h2 h3
      rcases h3 with ⟨hd, v, hv, hR⟩ | ⟨d0, H', v, hd, hu, hv, hR⟩
      · rw [hd]
        exact ⟨v, hv _ { a with defers := [] } _ fn rfl h1 h2, hR w' h2⟩
      · rw [hd]
        have hg : w'.heap[d0]? = some (.deferred (some [])) := h2.own _ hu.mem
        have h4 := h2.putObj hu
        exact ⟨by simp, .inl ⟨d0, _, rfl, run_takeDeferred hg, v, hv _ { a with defers := [] } _ fn rfl h1 h4, hR _ h4⟩⟩
    rintro x a w' ⟨e, w0, H, h1, h2, h3⟩
    cases x with
    | normal => exact key a w' e w0 H h1 h2 h3
    | ret => exact key a w' e w0 H h1 h2 h3
    | exit _ => exact h3.elim
    | goto _ => exact h3.elim
    | panic _ => exact h3.elim
    | outgrown => exact h3.elim
  · have hl' : vs.length ≤ N := Nat.le_of_ble_eq_true hl
    refine ⟨rfl, by simp [hN]; omega, fun k g v hk => ?_⟩
    obtain ⟨rfl, _, h3⟩ := look_envOf vs 0 k g v hk
    simp only [Nat.sub_zero] at h3
    have hk : k < vs.length := (List.getElem?_eq_some_iff.1 h3).1
    simp [Array.getElem?_append, hk, gv]
    have := (List.getElem?_eq_some_iff.1 h3).2
    simpa using this

/-- The statement. -/
theorem spm_rangeFunc {g : Operand} {ps : Array Tmp} {assign body : Code} {gf : FuncId} {caps : List Value} [TFn P gf] {X : Type} {V : X → Value} {st : X → LoopState} {pend : X → Option Code} {HX : X → Heap} {I : X → Prop} (hg : Ev true e g (.func (.func gf) #[] caps.toArray))
    (hcall : ∀ fn tmps l d0, Fr N e { tmps := tmps, defers := [] } → w0.heap.size ≤ l → w0.heap.size ≤ d0 → ∀ w, Hp Be w0 ((l, .loop { state := .ready, pending := none, fn, tmps, params := ps, assign, body, defers := d0 }) :: (d0, .deferred (some [])) :: H) w →
      Calls P gf (Value.func (.yield l) #[] #[] :: caps).toArray w (RetX Be w0 V (fun x => (l, .loop { state := st x, pending := pend x, fn, tmps, params := ps, assign, body, defers := d0 }) :: (d0, .deferred (some [])) :: HX x) I))
    (k : ∀ d0 x, I x → w0.heap.size ≤ d0 → st x ≠ .busy ∧ (match pend x with | none => Q [{ target := .collected d0, args := #[] }] .normal e w0 ((d0, .deferred (some [])) :: HX x) | some .ret => Q [{ target := .collected d0, args := #[] }] .ret e w0 ((d0, .deferred (some [])) :: HX x) | some _ => False)) :
    SpcM none [] P N Be (.rangeFunc g ps assign body) Q e w0 H := by
  intro a w hf hh
  rw [wd_nil]
  refine wpIn_rangeFunc fun fn hfn => ?_
  have hga := hg N a hf rfl
  obtain ⟨W1, hW1⟩ : ∃ W1, (w.alloc (.deferred (some []))).alloc (.loop { state := .ready, pending := none, fn, tmps := a.tmps, params := ps, assign, body, defers := w.heap.size }) = W1 := ⟨_, rfl⟩
  have hH1 := (hh.alloc (.deferred (some []))).alloc (.loop { state := .ready, pending := none, fn, tmps := a.tmps, params := ps, assign, body, defers := w.heap.size })
  have hsz : (w.alloc (.deferred (some []))).heap.size = w.heap.size + 1 := by simp
  rw [hsz, hW1] at hH1
  have hle := hh.size
  have hfr : Fr N e { tmps := a.tmps, defers := [] } := ⟨rfl, hf.size, hf.get⟩
  refine ⟨w.heap.size + 1, [{ target := .collected w.heap.size, args := #[] }], W1, { target := .fn (.func gf) caps.toArray, args := #[.func (.yield (w.heap.size + 1)) #[] #[]] }, W1, gf,
    (Value.func (.yield (w.heap.size + 1)) #[] #[] :: caps).toArray, W1, ?_, ?_, fun _ _ => trivial, ?_, fun h => (by cases h), ?_⟩
  · rw [← hW1]; exact run_enterLoop_outer _ _ _ _ _
  · simp only [resolve, hga]
    simp [go_sem]
  · have : (invoke (.fn (.func gf) caps.toArray) #[.func (.yield (w.heap.size + 1)) #[] #[]]) = callFunc gf (#[.func (.yield (w.heap.size + 1)) #[] #[]] ++ caps.toArray) := rfl
    rw [this]
    have h2 : (#[.func (.yield (w.heap.size + 1)) #[] #[]] ++ caps.toArray : Array Value) = (Value.func (.yield (w.heap.size + 1)) #[] #[] :: caps).toArray := by simp
    rw [h2]
    exact TFn.run W1 _
  · refine callsIn_at ((hcall fn a.tmps (w.heap.size + 1) w.heap.size hfr (by omega) hle W1 hH1).mono ?_)
    rintro en w2 ⟨x, rfl, hI, hp⟩
    obtain ⟨hst, hk⟩ := k w.heap.size x hI hle
    have hl := hp.own _ (.head _)
    have hend := run_endLoop (P := P) hl hst
    refine ⟨_, _, hend, ?_⟩
    have hp2 := (hp.putObj (o' := .loop { state := .exhausted, pending := pend x, fn, tmps := a.tmps, params := ps, assign, body, defers := w.heap.size }) Upd.here).drop (show w0.heap.size ≤ (w.heap.size + 1, Obj.loop { state := .exhausted, pending := pend x, fn, tmps := a.tmps, params := ps, assign, body, defers := w.heap.size }).1 by show w0.heap.size ≤ w.heap.size + 1; omega)
    have hd := hf.defers
    have ha : ({ a with defers := [{ target := .collected w.heap.size, args := #[] }] ++ a.defers } : Act) = wd a [{ target := .collected w.heap.size, args := #[] }] := by
      simp [wd, hd]
    rw [ha]
    cases hpd : pend x with
    | none =>
      rw [hpd] at hk hp2
      exact liftM_of hf hp2 hk
    | some c =>
      rw [hpd] at hk hp2
      cases c <;> first | exact hk.elim | skip
      exact wpIn_ret (liftM_of hf hp2 hk)

/-- How a round may end. -/
def rndQ (l : Nat) (rec : Loop) (w0 : World) {X : Type} (VB : X → Bool) (HH : X → Heap) (I : X → Prop) : PostM := fun D x e w0' H =>
  match x with
  | .normal => w0' = w0 ∧ ∃ y R1, H.Perm ((l, .loop { rec with state := .busy }) :: R1) ∧ I y ∧ VB y = true ∧ HKeep w0 (HH y) ((l, .loop { rec with state := .ready, pending := none }) :: R1)
  | .ret => w0' = w0 ∧ ∃ y R1, H.Perm ((l, .loop { rec with state := .busy }) :: R1) ∧ I y ∧ VB y = false ∧ HKeep w0 (HH y) ((l, .loop { rec with state := .done, pending := some .ret }) :: R1)
  | _ => False
instance NoOut.rnd {l : Nat} {rec : Loop} {X : Type} {VB : X → Bool} {HH : X → Heap} {I : X → Prop} {D : List Deferred} : NoOut (rndQ l rec w0 VB HH I D) := ⟨fun e w H h => h⟩
/-- What is asked behind the assignment to the loop's variables. -/
def asgQ (P : Program) (N Be l : Nat) (rec : Loop) (w0 : World) {X : Type} (VB : X → Bool) (HH : X → Heap) (I : X → Prop) : PostM := fun D x e w0' H =>
  match x with
  | .normal => w0' = w0 ∧ D = [] ∧ ∃ R1, H.Perm ((l, .loop rec) :: R1) ∧ SpcM (some l) [] P N Be rec.body (rndQ l rec w0 VB HH I) e w0 ((l, .loop { rec with state := .busy }) :: R1)
  | _ => False
instance NoOut.asg {P : Program} {N Be l : Nat} {rec : Loop} {X : Type} {VB : X → Bool} {HH : X → Heap} {I : X → Prop} {D : List Deferred} : NoOut (asgQ P N Be l rec w0 VB HH I D) := ⟨fun e w H h => h⟩
theorem asg_n {l : Nat} {rec : Loop} {X : Type} {VB : X → Bool} {HH : X → Heap} {I : X → Prop} (R1 : Heap) (hp : H.Perm ((l, .loop rec) :: R1)) (h : SpcM (some l) [] P N Be rec.body (rndQ l rec w0 VB HH I) e w0 ((l, .loop { rec with state := .busy }) :: R1)) : asgQ P N Be l rec w0 VB HH I [] .normal e w0 H :=
  ⟨rfl, rfl, R1, hp, h⟩
theorem rnd_n {l : Nat} {rec : Loop} {X : Type} {VB : X → Bool} {HH : X → Heap} {I : X → Prop} (R1 : Heap) (y : X) (hp : H.Perm ((l, .loop { rec with state := .busy }) :: R1)) (hI : I y) (hV : VB y = true) (hk : HKeep w0 (HH y) ((l, .loop { rec with state := .ready, pending := none }) :: R1)) : rndQ l rec w0 VB HH I D .normal e w0 H :=
  ⟨rfl, y, R1, hp, hI, hV, hk⟩
theorem rnd_r {l : Nat} {rec : Loop} {X : Type} {VB : X → Bool} {HH : X → Heap} {I : X → Prop} (R1 : Heap) (y : X) (hp : H.Perm ((l, .loop { rec with state := .busy }) :: R1)) (hI : I y) (hV : VB y = false) (hk : HKeep w0 (HH y) ((l, .loop { rec with state := .done, pending := some .ret }) :: R1)) : rndQ l rec w0 VB HH I D .ret e w0 H :=
  ⟨rfl, y, R1, hp, hI, hV, hk⟩
theorem markH_none {fn : Func} {rs : Array ResultVar} {w : World} {v : Value} {X : Type} {V : X → Value} {HH : X → Heap} {I : X → Prop} (hr : fn.results = rs) (h : Res rs P w.heap.size e w H v) (hv : ∃ x, v = V x ∧ I x ∧ HKeep w (HH x) H) : markQ P fn w.heap.size (RetH w V HH I) [] .ret e w H := by
  subst hr
  obtain ⟨x, rfl, hI, hk⟩ := hv
  exact .inl ⟨rfl, _, h, fun w' hh => ⟨x, rfl, hI, hh.sub hk⟩⟩
theorem markH_one {fn : Func} {rs : Array ResultVar} {w : World} {v : Value} {d0 : Nat} {H' : Heap} {X : Type} {V : X → Value} {HH : X → Heap} {I : X → Prop} (hr : fn.results = rs) (hu : Upd H d0 (.deferred (some [])) (.deferred none) H') (h : Res rs P w.heap.size e w H' v) (hv : ∃ x, v = V x ∧ I x ∧ HKeep w (HH x) H') : markQ P fn w.heap.size (RetH w V HH I) [{ target := .collected d0, args := #[] }] .ret e w H := by
  subst hr
  obtain ⟨x, rfl, hI, hk⟩ := hv
  exact .inr ⟨d0, H', _, rfl, hu, h, fun w' hh => ⟨x, rfl, hI, hh.sub hk⟩⟩
theorem SpcM.sub {c : Code} {e' : Env} {H' : Heap} (h : SpcM r D P N Be c Q e w0 H) (he : ESub e e') (hH : HKeep w0 H H') : SpcM r D P N Be c Q e' w0 H' := fun a w hf hh => h a w (hf.sub he) (hh.sub hH)
theorem yield_round {l p : Nat} {rec : Loop} {v : Value} {R : Heap} {X : Type} {VB : X → Bool} {HH : X → Heap} {I : X → Prop} (hst : rec.state = .ready) (hps : rec.params = #[p]) (hfr : Fr N e { tmps := rec.tmps, defers := [] }) (hp : Nat.blt p N = true)
    (h : SpcM (some l) [] P N Be rec.assign (asgQ P N Be l rec w0 VB HH I) ((p, true, v) :: e) w0 ((l, .loop rec) :: R)) (w : World) (hh : Hp Be w0 ((l, .loop rec) :: R) w) :
    YieldAt Fence.wide 0 P l #[v] w (RetX Be w0 (fun x => .bool (VB x)) HH I) := by
  have hl := hh.own _ (.head _)
  have hp' : p < N := by simpa [Nat.blt_eq] using hp
  have hy := run_yield (P := P) (args := #[v]) hl (by rw [hps]; rfl)
  have ht : (rec.params.zip #[v]).foldl (fun tmps (t, a) => tmps.setIfInBounds t a) rec.tmps = rec.tmps.setIfInBounds p v := by rw [hps]; simp
  rw [ht] at hy
  refine ⟨_, _, _, _, hy, roundIn_of_wpIn trivial ?_⟩
  have h1 := h { tmps := rec.tmps.setIfInBounds p v, defers := [] } w (hfr.puttrue hp') hh
  rw [wd_nil] at h1
  refine wpIn_mono (F := fenceAt (some l)) h1 ?_
  rintro x a1 w1 ⟨e1, w1', H1, hf1, hh1, hq⟩
  cases x <;> first | exact hq.elim | skip
  obtain ⟨rfl, hD, R1, hperm, hbody⟩ := hq
  have hh2 := hh1.perm hperm
  have hl2 := hh2.own _ (.head _)
  refine ⟨_, run_beginRound hl2 hst, ?_⟩
  have hh3 := hh2.putObj (o' := .loop { rec with state := .busy }) Upd.here
  have h2 := hbody { a1 with defers := [] } _ hf1 hh3
  have ha : wd { a1 with defers := [] } [] = a1 := by cases a1; simp_all [wd]
  rw [ha] at h2
  refine wpIn_mono (F := fenceAt (some l)) h2 ?_
  rintro x a2 w2 ⟨e2, w2', H2, hf2, hh4, hq⟩
  cases x <;> first | exact hq.elim | skip
  · obtain ⟨rfl, y, R2, hperm2, hI, hV, hk⟩ := hq
    have hh5 := hh4.perm hperm2
    have hl3 := hh5.own _ (.head _)
    refine ⟨_, _, run_endRound none hl3, y, (by show _ = Ending.returned (.bool (VB y)); rw [hV]; rfl), hI, ?_⟩
    exact (hh5.putObj (o' := .loop { rec with state := .ready, pending := none }) Upd.here).sub hk
  · obtain ⟨rfl, y, R2, hperm2, hI, hV, hk⟩ := hq
    have hh5 := hh4.perm hperm2
    have hl3 := hh5.own _ (.head _)
    refine ⟨_, _, run_endRound (some .ret) hl3, y, (by show _ = Ending.returned (.bool (VB y)); rw [hV]; rfl), hI, ?_⟩
    exact (hh5.putObj (o' := .loop { rec with state := .done, pending := some .ret }) Upd.here).sub hk
end rules

section
variable {P : Program} {N Be : Nat} {Q : Post} {e : Env} {w0 : World} {H : Heap} {ops : Array Oper} {rest : List Oper} {op : Op} {ty : TypeId} {pos : String} {after : Array Edge} {d : Nat} {v : Value}
theorem sp_regionI {id : Nat} {l : List Oper} (h : SplI P N Be l.toArray Q l e w0 H) : Spc P N Be (.region id l.toArray false) Q e w0 H :=
  fun a w hf hh => wpIn_wide.1 (wpIn_region_lit (h a w hf hh) : Code.wpIn Fence.wide 0 P _ _ a w)
theorem spi_pure (hN : Nat.blt d N = true) (hx : Ex P Be w0 H true e op ty v) (hnd : noDefer [⟨some d, op, ty, pos, after, none⟩] = true) (k : SplI P N Be ops Q rest ((d, true, v) :: e) w0 H) :
    SplI P N Be ops Q (⟨some d, op, ty, pos, after, none⟩ :: rest) e w0 H := by
  intro a w hf hh
  have hd : d < N := by simpa [Nat.blt_eq] using hN
  refine wpListIn_plain rfl fun K hK => ⟨fun _ _ => trivial, ?_⟩
  rw [Oper.semAt_eq _ _ _ (noDefer_mem hnd (.head _)), hx N a w _ rfl rfl hf hh rfl, Oper.uponIn_value]
  exact hK _ _ (k _ _ (hf.puttrue hd) hh)
theorem spi_of_spl {l : List Oper} (hnd : noDefer l = true) [NoOut Q] (h : Spl P N Be ops Q l e w0 H) : SplI P N Be ops Q l e w0 H := by
  intro a w hf hh
  have := list_in (r := none) (n := 0) (D := []) (Q' := lift N Be Q) NoOut.lift (fun x a w h => by rw [wd_nil]; exact h) l hnd a w (h a w hf hh)
  rwa [wd_nil] at this
/-- A call of yield. -/
theorem spi_yield {c x : Operand} {ts : Array TypeId} {l : Nat} {X : Type} {V : X → Value} {HH : X → Heap} {I : X → Prop} (hN : Nat.blt d N = true) (hcv : Ev true e c (.func (.yield l) #[] #[])) (hx : Ev true e x v)
    (hy : ∀ w, Hp Be w0 H w → YieldAt Fence.wide 0 P l #[v] w (RetX Be w0 V HH I)) (hnd : noDefer rest = true) [NoOut Q] (k : ∀ y, I y → Spl P N Be ops Q rest ((d, true, V y) :: e) w0 (HH y)) :
    SplI P N Be ops Q (⟨some d, .call ⟨.value c, #[x], ts⟩, ty, pos, after, none⟩ :: rest) e w0 H := by
  intro a w hf hh
  have hd : d < N := by simpa [Nat.blt_eq] using hN
  refine wpListIn_plain rfl fun K hK => ⟨fun _ _ => trivial, ?_⟩
  obtain ⟨fn, tmps, assign, body, hrun, hr⟩ := hy w hh
  have hex : (execOp a.eval ⟨some d, .call ⟨.value c, #[x], ts⟩, ty, pos, after, none⟩).run P w = .ok (.round l fn tmps assign body) w := by
    simp only [execOp, resolve, Deferred.ofValue, hcv N a hf rfl, hx N a hf rfl, Sem.run_bind, Sem.run_pure, Result.andThen_ok, List.map_toArray, List.map_cons, List.map_nil]
    have : (invoke (.fn (.yield l) #[]) (#[] ++ #[v])) = Instr.yield l #[v] := rfl
    rw [this]
    exact hrun
  rw [Oper.semAt_eq _ _ _ (by intro c hc; cases hc), hex, Oper.uponIn_round]
  refine ⟨fun h => (by cases h), hr.mono ?_⟩
  rintro en w' ⟨y, rfl, hI, hp⟩
  exact hK _ _ (spi_of_spl hnd (k y hI) _ _ (hf.puttrue hd) hp)
end
end Go.Sy
/-
  Contracts: the iterator of tokens: its class function, the closure.
-/
namespace Go.Proofs.Ytfdjlphfohnnnaa
open Go.RowKit Go.Sy
set_option linter.unusedVariables false
set_option linter.unusedSimpArgs false
def clsAt (t : ByteArray) (i : Nat) : Nat := match (tx t)[i]? with | some c => cls c | none => 0
theorem clsAt_at {t : ByteArray} {i : Nat} {c : UInt8} {h : i < t.size} (hb : t[i] = c) : clsAt t i = cls c := by
  have h1 : i < (tx t).length := by rw [tx_len]; exact h
  unfold clsAt
  rw [List.getElem?_eq_getElem h1]
  exact congrArg cls hb
theorem clsAt_end {t : ByteArray} {i : Nat} (h : t.size ≤ i) : clsAt t i = 0 := by
  unfold clsAt
  rw [List.getElem?_eq_none (by rw [tx_len]; exact h)]
theorem clsAt_word (t : ByteArray) (i : Nat) : ((decide (((clsAt t i : Nat) : Int) = 3) || decide (((clsAt t i : Nat) : Int) = 4)) || decide (((clsAt t i : Nat) : Int) = 5)) = headIs isWord ((tx t).drop i) := by
  by_cases h : i < t.size
  · obtain ⟨c, hb, hd⟩ := drop_at h
    obtain ⟨f3, f4, f5, -⟩ := clsF c
    rw [clsAt_at hb, hd, f3, f4, f5]
    all_goals rfl
  · rw [clsAt_end (by omega), drop_end (by omega)]
    rfl
theorem clsAt_digit (t : ByteArray) (i : Nat) : decide (((clsAt t i : Nat) : Int) = 4) = headIs isDigit ((tx t).drop i) := by
  by_cases h : i < t.size
  · obtain ⟨c, hb, hd⟩ := drop_at h
    obtain ⟨f3, f4, f5, -⟩ := clsF c
    rw [clsAt_at hb, hd, f4]
    all_goals rfl
  · rw [clsAt_end (by omega), drop_end (by omega)]
    rfl
instance zeroAt : TZero Try.prog 113 .nilFunc := ⟨by kernel_rfl⟩
/-- The iterator's own blocks. -/
def TH (t : ByteArray) (g1 g3 g4 : Nat) : Heap := [(g4, .cells #[.func (.func 73) #[] #[.pointer (some ⟨g1, 0, none⟩), .pointer (some ⟨g3, 0, none⟩)]] 113 (0, 0)), (g3, .cells clsA 108 (0, 0)), (g1, .cells #[.string t] 9 (0, 0))]
attribute [local irreducible] Calls thenQ blockQ retQ Spc Spl Spq Ex Ev Evs Gd Upd ESub HKeep Res Res1 wlk effQ Rem SrcAt Split tabA clsA

set_option maxRecDepth 100000 in
theorem at_c {w : World} {g1 g3 : Nat} (t : ByteArray) (h1 : w.heap[g1]? = some (.cells #[.string t] 9 (0, 0))) (h3 : w.heap[g3]? = some (.cells clsA 108 (0, 0))) (i : Nat) :
    Calls Try.prog 73 #[.int .i64 (i : Int), .pointer (some ⟨g1, 0, none⟩), .pointer (some ⟨g3, 0, none⟩)] w (Ret w (.int .u8 ((clsAt t i : Nat) : Int))) := by
  refine sp_enter (vs := [_, _, _]) Try.func73 rfl Try.ntmps73 rfl ?_
  by_cases h : i < t.size
  · obtain ⟨c, hb, hd⟩ := drop_at h
    have hat := clsA_at c
    repeat (first|apply then_n|apply sp_seq|apply sp_region|apply spl_nil|(apply sp_cond_f;(·exact eT rfl);(·(exact decide_eq_false (by omega))))|apply sp_skip|apply sp_ret|((apply spl_pure rfl);(·(first|(apply ex_sindexE h hb;(·exact eT rfl);(·exact eT rfl))|(apply ex_indexAddrA;(·exact eT rfl);(·exact eT rfl);(·exact c.toNat_lt))|(apply ex_loadown;(·exact eT rfl);(·(exact Bk.old (by assumption) (Nat.le_refl _)));(·exact hat))|((first|apply ex_move|apply ex_assign|apply ex_geq)<;>(first|exact eT rfl|exact eC))|((apply ex_slen)<;>(exact eT rfl))|((apply ex_loadown)<;>(first|exact eT rfl|exact Bk.old (by assumption) (Nat.le_refl _)|rfl))))))
    (apply ret_ok rfl;(·((apply Res.ofOne;((apply Res1.tmp;(·rfl)))))))
    rw [clsAt_at hb]
  · repeat (first|apply then_n|apply sp_seq|apply sp_region|apply spl_nil|apply then_r|((apply sp_cond_t);(·exact eT rfl);(·(exact decide_eq_true (by omega))))|apply sp_ret|((apply spl_pure rfl);(·(first|((first|apply ex_move|apply ex_assign|apply ex_geq)<;>(first|exact eT rfl|exact eC))|((apply ex_slen)<;>(exact eT rfl))|((apply ex_loadown)<;>(first|exact eT rfl|exact Bk.old (by assumption) (Nat.le_refl _)|rfl))))))
    (apply ret_ok rfl;(·((apply Res.ofOne;((apply Res1.tmp;(·rfl)))))))
    rw [clsAt_end (by omega)]
    all_goals rfl
set_option maxRecDepth 100000 in
theorem tokens_c {w : World} (t : ByteArray) : Calls Try.prog 52 #[.string t] w (RetH w (fun x : Nat × Nat × Nat => .func (.func 74) #[] #[.pointer (some ⟨x.1, 0, none⟩), .pointer (some ⟨x.2.2, 0, none⟩)]) (fun x => TH t x.1 x.2.1 x.2.2) (fun _ => True)) := by
  refine sp_enter (vs := [_]) Try.func52 rfl Try.ntmps52 rfl ?_
  have hs00 := tabA_size 0
  have hs1 := clsA_size
  have hon := clsA_ones
  repeat (first|(apply spl_callp rfl;(·(repeat (exact eN)));(·exact fun w' hh => classes_c))|apply then_n|apply sp_seq|apply sp_region|apply spl_nil|apply sp_ret|((apply spl_pure rfl);(·(first|(apply ex_assign<;>(first|exact eT rfl|exact eC))|(apply ex_makeFunc<;>(((repeat (first|exact eN|(apply eS;(·exact eT rfl))));done))))))|(apply spl_box;(·exact eT rfl);(·rfl);intro _ _)|(apply spl_alloc rfl;intro _ _)|(apply spl_store1;(·exact eT rfl);(·exact eT rfl);(·rfl);(·(repeat (exact Upd.here)));(·rfl))|(apply spl_stores;(·exact eT rfl);(·exact eT rfl);(·(repeat (exact Upd.here)));(·(assumption));(·(assumption));(·(assumption))))
  rename_i g1 hg1 g3 hg3 g4 hg4
  (apply retH_ok rfl;(·((apply Res.ofOne;((apply Res1.tmp;(·rfl)))))))
  exact ⟨(g1, g3, g4), rfl, trivial, by unfold TH; (repeat (exact HKeep.refl))⟩
end Go.Proofs.Ytfdjlphfohnnnaa
/-
  Contracts: the iterator of tokens.
-/
namespace Go.Proofs.Ytfdjlphfohnnnaa
open Go.RowKit Go.Sy
set_option linter.unusedVariables false
set_option linter.unusedSimpArgs false
/-- What is handed to yield. -/
def fcells (k : Nat) (s : ByteArray) (a e : Nat) : Array Value := #[.int .i64 (k : Int), .string s, .int .i64 (a : Int), .int .i64 (e : Int)]
def fv (k : Nat) (s : ByteArray) (a e : Nat) : Value := .agg (fcells k s a e)
theorem TH_w {t : ByteArray} {g1 g3 g4 Be : Nat} {w0 w : World} {H : Heap} (hh : Hp Be w0 (H ++ TH t g1 g3 g4) w) : w.heap[g1]? = some (.cells #[.string t] 9 (0, 0)) ∧ w.heap[g3]? = some (.cells clsA 108 (0, 0)) :=
  ⟨hh.own (g1, _) (by simp [TH]), hh.own (g3, _) (by simp [TH])⟩
theorem TH_w2 {t : ByteArray} {g1 g3 g4 Be : Nat} {w0 w : World} {H : Heap} {p : Nat × Obj} (hh : Hp Be w0 (p :: (H ++ TH t g1 g3 g4)) w) : w.heap[g1]? = some (.cells #[.string t] 9 (0, 0)) ∧ w.heap[g3]? = some (.cells clsA 108 (0, 0)) :=
  ⟨hh.own (g1, _) (by simp [TH]), hh.own (g3, _) (by simp [TH])⟩
theorem TH_w3 {t : ByteArray} {g1 g3 g4 Be : Nat} {w0 w : World} {H : Heap} {p : Nat × Obj} (hh : Hp Be w0 (H ++ p :: TH t g1 g3 g4) w) : w.heap[g1]? = some (.cells #[.string t] 9 (0, 0)) ∧ w.heap[g3]? = some (.cells clsA 108 (0, 0)) :=
  ⟨hh.own (g1, _) (by simp [TH]), hh.own (g3, _) (by simp [TH])⟩
instance {t : ByteArray} {g1 g3 g4 : Nat} : InH (TH t g1 g3 g4) g1 (Obj.cells #[.string t] 9 (0, 0)) := ⟨by simp [TH]⟩
instance {t : ByteArray} {g1 g3 g4 : Nat} : InH (TH t g1 g3 g4) g4 (Obj.cells #[.func (.func 73) #[] #[.pointer (some ⟨g1, 0, none⟩), .pointer (some ⟨g3, 0, none⟩)]] 113 (0, 0)) := ⟨by simp [TH]⟩
theorem ex_buildE {P : Program} {Be : Nat} {w0 : World} {H : Heap} {G : Bool} {e : Env} {ty t : TypeId} {z : Value} {pl : List (Nat × Nat)} {ps : List (Nat × Operand)} {vs : List Value} {r : Array Value} [hz : TZero P t z] [hp : TPlaces P t pl] (h : Evs G e (ps.map (·.2)) vs) (hok : fillOk pl z.cells.toList.length (zipI ps vs) = true) (hr : (fillL pl z.cells.toList (zipI ps vs)).toArray = r) :
    Ex P Be w0 H G e (.build t ps.toArray) ty (.agg r) := by
  subst hr
  exact ex_build h hok
theorem lexN_at {t : ByteArray} {k kd n : Nat} {s : List UInt8} {c : UInt8} (hd : (tx t).drop k = c :: (tx t).drop (k + 1)) (h1 : isBlank c = false) (h2 : ¬ c.toNat = 35) (ht : tokC c ((tx t).drop (k + 1)) = .tok kd s n) :
    lexN ((tx t).drop k) k = (⟨kd, ofL s, k⟩ :: (lexN ((tx t).drop (k + n)) (k + n)).1, (lexN ((tx t).drop (k + n)) (k + n)).2) := by
  have h := lexN_tok (a := k) ((congrArg (skipM false) hd).trans (skipM_cons h1 h2)) ht
  rw [h, ← hd, Nat.sub_self, Nat.add_zero, List.drop_drop]
theorem lexN_at_err {t : ByteArray} {k e : Nat} {c : UInt8} (hd : (tx t).drop k = c :: (tx t).drop (k + 1)) (h1 : isBlank c = false) (h2 : ¬ c.toNat = 35) (ht : tokC c ((tx t).drop (k + 1)) = .err e) :
    lexN ((tx t).drop k) k = ([], some (e, k)) := by
  have h := lexN_err (a := k) ((congrArg (skipM false) hd).trans (skipM_cons h1 h2)) ht
  rw [h, ← hd, Nat.sub_self, Nat.add_zero]
theorem extract_run {p : UInt8 → Bool} (t : ByteArray) (k : Nat) : ofL (((tx t).drop k).takeWhile p) = t.extract k (k + (((tx t).drop k).takeWhile p).length) := by
  apply tx_inj
  rw [tx_ofL, tx_extract, List.drop_take, Nat.add_sub_cancel_left, takeWhile_take]
theorem lex_more {t : ByteArray} {pre : List Tk} {k m : Nat} {tk : Tk} (hL : lexA t = (pre ++ (lexN ((tx t).drop k) k).1, (lexN ((tx t).drop k) k).2)) (h : lexN ((tx t).drop k) k = (tk :: (lexN ((tx t).drop m) m).1, (lexN ((tx t).drop m) m).2)) :
    lexA t = ((pre ++ [tk]) ++ (lexN ((tx t).drop m) m).1, (lexN ((tx t).drop m) m).2) ∧ (∃ q, (lexA t).1 = pre ++ tk :: q) := by
  rw [hL, h]
  exact ⟨by simp, _, rfl⟩
theorem lex_last {t : ByteArray} {pre : List Tk} {k e : Nat} (hL : lexA t = (pre ++ (lexN ((tx t).drop k) k).1, (lexN ((tx t).drop k) k).2)) (h : lexN ((tx t).drop k) k = ([], some (e, k))) : lexA t = (pre, some (e, k)) := by
  rw [hL, h]; simp
theorem clsAt_nd {t : ByteArray} {i : Nat} (h : headIs isDigit ((tx t).drop i) = false) : (decide (((clsAt t i : Nat) : Int) = 3) || decide (((clsAt t i : Nat) : Int) = 5)) = headIs isWord ((tx t).drop i) := by
  rw [← clsAt_digit] at h
  rw [← clsAt_word, h, Bool.or_false]
/-- The body of the loop. -/
def loopAt (f : Func) : Code := match f.body with | some (.scope (.seq _ (.seq _ (.block _ (.loop b))))) => b | _ => .skip
/-- Who is yielded to. -/
structure Yld (Be : Nat) (w0 : World) (l : Nat) (t : ByteArray) (J : List Tk → Heap → Prop) (Jx : List Tk → Tk → Heap → Prop) (Je : Nat → Nat → Heap → Prop) : Prop where
  hyT : ∀ pre tk H R, J pre H → (∃ q, (lexA t).1 = pre ++ tk :: q) → ∀ w, Hp Be w0 (H ++ R) w → YieldAt Fence.wide 0 Try.prog l #[fv tk.kind tk.text tk.pos 0] w (RetX Be w0 (fun x : Bool × Heap => .bool x.1) (fun x => x.2 ++ R) (fun x => (x.1 = true → J (pre ++ [tk]) x.2) ∧ (x.1 = false → Jx pre tk x.2)))
  hyE : ∀ pre k s a e H R, J pre H → lexA t = (pre, some (e, a)) → e ≠ 0 → ∀ w, Hp Be w0 (H ++ R) w → YieldAt Fence.wide 0 Try.prog l #[fv k s a e] w (RetX Be w0 (fun x : Heap => .bool false) (fun x => x ++ R) (fun x => Je e a x))
def tokR (Be : Nat) (w0 : World) (g1 g3 g4 : Nat) (t : ByteArray) (J : List Tk → Heap → Prop) (Jx : List Tk → Tk → Heap → Prop) (Je : Nat → Nat → Heap → Prop) : Ending → World → Prop :=
  RetX Be w0 (fun _ : Heap => .tuple #[]) (fun x => x ++ TH t g1 g3 g4) (fun x => (J (lexA t).1 x ∧ (lexA t).2 = none) ∨ (∃ pre tk q, (lexA t).1 = pre ++ tk :: q ∧ Jx pre tk x) ∨ (∃ e a, (lexA t).2 = some (e, a) ∧ Je e a x))
def rdQ (Be : Nat) (w0 : World) (l g1 g3 g4 : Nat) (t : ByteArray) (J : List Tk → Heap → Prop) (Jx : List Tk → Tk → Heap → Prop) (Je : Nat → Nat → Heap → Prop) (k : Nat) : Post :=
  thenQ (fun e' w' H' => ∃ x : Nat × List Tk × Heap, (x.1 ≤ t.size ∧ J x.2.1 x.2.2 ∧ lexA t = (x.2.1 ++ (lexN ((tx t).drop x.1) x.1).1, (lexN ((tx t).drop x.1) x.1).2)) ∧ t.size - x.1 < t.size - k ∧
    ESub [(4, true, .int .i64 (x.1 : Int)), (0, true, .func (.yield l) #[] #[]), (1, true, .pointer (some ⟨g1, 0, none⟩)), (2, true, .pointer (some ⟨g4, 0, none⟩))] e' ∧ w0 = w' ∧ HKeep w' (x.2.2 ++ TH t g1 g3 g4) H')
    (blockQ 0 (scopeQ (retQ Try.prog Try.f74 Be (tokR Be w0 g1 g3 g4 t J Jx Je))))
end Go.Proofs.Ytfdjlphfohnnnaa
/-
  The iterator of tokens: a round of its loop: letters.
-/
namespace Go.Proofs.Ytfdjlphfohnnnaa
open Go.RowKit Go.Sy
set_option linter.unusedVariables false
set_option linter.unusedSimpArgs false
attribute [local irreducible] Calls thenQ blockQ retQ Spc Spl SplI Spq Ex Ev Evs Gd Upd ESub HKeep Res Res1 wlk effQ Rem SrcAt Split tabA clsA TH scopeQ

set_option maxRecDepth 100000 in
set_option maxHeartbeats 4000000 in
theorem round_letter {Be : Nat} {w0 : World} {g1 g3 g4 l : Nat} {t : ByteArray} (ht : t.size < 1000000) {J : List Tk → Heap → Prop} {Jx : List Tk → Tk → Heap → Prop} {Je : Nat → Nat → Heap → Prop} (hY0 : Yld Be w0 l t J Jx Je)
    {k : Nat} {pre : List Tk} {H : Heap} (hk : k ≤ t.size) (hJ : J pre H) (hL : lexA t = (pre ++ (lexN ((tx t).drop k) k).1, (lexN ((tx t).drop k) k).2)) (hlt : k < t.size) {c : UInt8} (hb : t[k] = c) (hd : (tx t).drop k = c :: (tx t).drop (k + 1)) (hlet : isLetter c = true) :
    Spc Try.prog 149 Be (loopAt Try.f74) (rdQ Be w0 l g1 g3 g4 t J Jx Je k) [(4, true, .int .i64 (k : Int)), (0, true, .func (.yield l) #[] #[]), (1, true, .pointer (some ⟨g1, 0, none⟩)), (2, true, .pointer (some ⟨g4, 0, none⟩))] w0 (H ++ TH t g1 g3 g4) := by
  -- Try.func74 rfl 
  obtain ⟨hyT, hyE⟩ := hY0
  have hlen := tx_len t
  have hcl := clsAt_at hb
  obtain ⟨f3, f4, f5, f1, f2, f6, f7⟩ := clsF c
  rw [← hcl] at f1 f2 f3 f4 f5 f6 f7
  unfold rdQ
  have hC := of_decide_eq_true (f3.trans hlet)
  have hbl : isBlank c = false := f1 ▸ decide_eq_false (by omega)
  have hha : ¬ c.toNat = 35 := fun h => of_decide_eq_false (f2 ▸ decide_eq_false (by omega) : decide ((c.toNat : Int) = 35) = false) (by omega)
  repeat (first|(apply spl_callv (f:=73) (first:=[]) (cap:=[.pointer (some ⟨g1, 0, none⟩), .pointer (some ⟨g3, 0, none⟩)]) rfl;(·exact eT rfl);(·(repeat (first|exact eN|(apply eS;(·exact eT rfl)))));(·exact fun w' hh => at_c t (TH_w2 hh).1 (TH_w2 hh).2 _))|apply then_n|apply sp_seq|apply sp_region|apply spl_nil|((apply sp_cond_t);(·exact eT rfl);(·(exact decide_eq_true (by omega))))|(apply sp_cond_f;(·exact eT rfl);(·(exact decide_eq_false (by omega))))|apply sp_skip|apply sp_block|((apply spl_pure rfl);(·(first|(apply ex_buildE (r:=#[.int .i64 0, .string ⟨#[]⟩, .int .i64 (k : Int)]);(·(repeat (first|exact eN|(apply eS;(·(first|exact eT rfl|exact eC))))));(·rfl);(·rfl))|(apply ex_buildE (r:=fcells 0 ⟨#[]⟩ k 10);(·(repeat (first|exact eN|(apply eS;(·(first|exact eT rfl|exact eC))))));(·rfl);(·rfl))|((first|apply ex_move|apply ex_assign|apply ex_lss|apply ex_seql)<;>(exact eT rfl))|((first|apply ex_eql|apply ex_slen)<;>(first|exact eT rfl|exact eC))|((apply ex_loadown)<;>(first|exact eT rfl|exact Bk.own InH.mem|rfl)))))|(apply spl_alloc rfl;intro _ _)|(apply spl_stores;(·exact eT rfl);(·exact eT rfl);(·(repeat (exact Upd.here)));(·(rfl));(·(rfl));(·exact ones_of_all rfl)))
  rename_i g6 hg6
  refine sp_loop (X := Nat) (fun j => [(4, true, .int .i64 (j : Int)), (7, true, .int .u8 ((clsAt t j : Nat) : Int)), (5, true, .int .i64 (k : Int)), (6, true, .pointer (some ⟨g6, 0, none⟩)), (0, true, .func (.yield l) #[] #[]), (1, true, .pointer (some ⟨g1, 0, none⟩)), (2, true, .pointer (some ⟨g4, 0, none⟩))]) (fun _ => w0) (fun _ => (g6, .cells (fcells 0 ⟨#[]⟩ k 10) 93 (0, 0)) :: (H ++ TH t g1 g3 g4))
    (fun j => k ≤ j ∧ j ≤ t.size ∧ (((tx t).drop k).takeWhile isWord).length = (j - k) + (((tx t).drop j).takeWhile isWord).length) (fun j => t.size - j) k ⟨Nat.le_refl _, by omega, by omega⟩ (by (repeat (first|exact ESub.nil|apply ESub.cons rfl))) rfl (by (repeat (exact HKeep.refl))) ?_
  rintro j ⟨hkj, hj, hrun⟩
  cases hw : headIs isWord ((tx t).drop j) with
  | true =>
    have hcond := (clsAt_word t j).trans hw
    have hlt2 : j < t.size := Nat.lt_of_not_le fun h => by rw [drop_end h] at hw; cases hw
    obtain ⟨d, hb2, hd2⟩ := drop_at hlt2
    have hpd : isWord d = true := by rw [hd2] at hw; simpa [headIs] using hw
    repeat (first|(apply sp_cond_t;(·exact eT rfl);(·exact hcond))|(apply spl_callv (f:=73) (first:=[]) (cap:=[.pointer (some ⟨g1, 0, none⟩), .pointer (some ⟨g3, 0, none⟩)]) rfl;(·exact eT rfl);(·(repeat (first|exact eN|(apply eS;(·exact eT rfl)))));(·exact fun w' hh => at_c t (TH_w2 hh).1 (TH_w2 hh).2 _))|apply then_n|apply block_n|apply sp_seq|apply sp_region|apply spl_nil|apply sp_skip|apply sp_block|((first|apply spl_pure rfl|(apply spl_pure_g rfl;(·exact Gd.tf rfl rfl)));(·(first|((first|apply ex_move|apply ex_assign|apply ex_seql)<;>(exact eT rfl))|((first|apply ex_eql|apply ex_orT)<;>(first|exact eT rfl|exact eC|exact eG rfl))|((apply ex_addn)<;>(first|exact eT rfl|exact eC|(constructor<;>omega)))|((apply ex_loadown)<;>(first|exact eT rfl|exact Bk.own InH.mem|rfl))))))
    exact ⟨j + 1, ⟨by omega, by omega, by rw [hrun, hd2, takeWhile_step hpd, List.length_cons]; omega⟩, by omega, (by (repeat (first|exact ESub.nil|apply ESub.cons rfl))), rfl, (by (repeat (exact HKeep.refl)))⟩
  | false =>
    have hcond := (clsAt_word t j).trans hw
    have hj' : j = k + (((tx t).drop k).takeWhile isWord).length := by rw [hrun, takeWhile_head hw, List.length_nil]; omega
    have hex := extract_run (p := isWord) t k
    rw [← hj'] at hex
    repeat (first|(apply sp_cond_f;(·exact eT rfl);(·exact hcond))|apply then_n|apply sp_seq|apply sp_region|apply spl_nil|apply then_e|apply block_here|apply sp_exit|((first|apply spl_pure rfl|(apply spl_pure_g rfl;(·exact Gd.tf rfl rfl)));(·(first|((first|apply ex_move|apply ex_seql)<;>(exact eT rfl))|((first|apply ex_eql|apply ex_orT)<;>(first|exact eT rfl|exact eC|exact eG rfl))))))
    refine sp_drawn [(0, true), (1, true), (2, true), (3, true), (4, true), (5, true), (6, false), (7, true), (8, true), (9, false), (10, true), (11, false)] 12 (H ++ TH t g1 g3 g4) mixed (by kernel_rfl) (by (repeat (first|exact HKeep.refl|(apply HKeep.app;(·(repeat (first|exact Split.here|apply Split.cons))))|apply HKeep.drop (by first|assumption|omega)))) ?_
    by_cases h24 : 24 < (((tx t).drop k).takeWhile isWord).length
    · have ht : tokC c ((tx t).drop (k + 1)) = .err 7 := by unfold tokC; rw [if_pos hlet, ← hd, if_pos h24]
      have hL1 := lex_last hL (lexN_at_err hd hbl hha ht)
      have hY := hyE pre 1 (t.extract k j) k 7 H ((g6, .cells (fcells 1 (t.extract k j) k 7) 93 (0, 0)) :: TH t g1 g3 g4) hJ hL1 (by decide)
      repeat (first|(apply sp_regionI (id:=33))|(apply spi_pure rfl;(·(first|((apply ex_move)<;>(exact eT rfl))|(apply ex_loadowns<;>(first|exact eT rfl|exact Bk.own InH.mem|(rfl)))));(·rfl))|apply then_n|apply block_n|apply sp_seq|apply sp_region|apply spl_nil|((apply sp_cond_t);(·exact eT rfl);(·(exact decide_eq_true (by omega))))|((first|apply spl_pure rfl|apply wlk_read rfl rfl);(·(first|((first|apply ex_move|apply ex_fieldAddr'|apply ex_gtr)<;>(first|exact eT rfl|exact eC))|((apply ex_subn)<;>(first|exact eT rfl|(constructor<;>omega)))|((apply ex_loadown)<;>(first|exact eT rfl|exact Bk.own InH.mem|rfl))|((apply ex_sslice)<;>(first|exact eT rfl|(constructor<;>omega))))))|(apply spl_store1;(·exact eT rfl);(·(first|exact eT rfl|exact eC));(·rfl);(·(repeat (exact Upd.here)));(·rfl))|(apply effq;(·(intro h_;((repeat (first|exact HKeep.refl|(apply HKeep.app;(·(repeat (first|exact Split.here|apply Split.cons))))|apply HKeep.drop (by first|assumption|omega)))))))|apply wlk_nil|apply wlk_eff rfl)
      repeat (first|apply scope_r|(apply spi_yield rfl;(·exact eT rfl);(·exact eT rfl);(·exact fun w' hh => hY w' (hh.perm List.perm_middle.symm));(·rfl);(intro H' hye))|apply then_n|apply spl_nil|apply then_r|apply block_r|((apply sp_cond_t);(·exact eT rfl);(·(rfl)))|apply sp_ret|((first|apply spl_pure rfl|(apply spl_pure_g rfl;(·exact Gd.tf rfl rfl)));(·(first|((first|apply ex_move|apply ex_fieldAddr'|apply ex_not|apply ex_sneq)<;>(exact eT rfl))|((first|apply ex_neq|apply ex_orT)<;>(first|exact eT rfl|exact eC|exact eG rfl))|((apply ex_loadown)<;>(first|exact eG rfl|exact Bk.own InH.mem|rfl))))))
      repeat (apply scope_n)
      (apply retX_ok rfl;(·exact Res.none_))
      exact ⟨H', rfl, .inr (.inr ⟨7, k, by rw [hL1], hye⟩), by (repeat (first|exact HKeep.refl|(apply HKeep.app;(·(repeat (exact Split.here))))|apply HKeep.drop (by first|assumption|omega)))⟩
    · have ht : tokC c ((tx t).drop (k + 1)) = .tok 1 (((tx t).drop k).takeWhile isWord) (((tx t).drop k).takeWhile isWord).length := by unfold tokC; rw [if_pos hlet, ← hd, if_neg h24]
      have hn := tokL_len c _ _ _ _ ht
      rw [List.length_cons, List.length_drop, hlen] at hn
      have hN := lexN_at hd hbl hha ht
      rw [hex, ← hj'] at hN
      obtain ⟨hL1, q, hq⟩ := lex_more hL hN
      have hY := hyT pre ⟨1, t.extract k j, k⟩ H ((g6, .cells (fcells 1 (t.extract k j) k 0) 93 (0, 0)) :: TH t g1 g3 g4) hJ ⟨q, hq⟩
      repeat (first|(apply sp_regionI (id:=33))|(apply spi_pure rfl;(·(first|((apply ex_move)<;>(exact eT rfl))|(apply ex_loadowns<;>(first|exact eT rfl|exact Bk.own InH.mem|(rfl)))));(·rfl))|apply then_n|apply block_n|apply sp_seq|apply sp_region|apply spl_nil|(apply sp_cond_f;(·exact eT rfl);(·(exact decide_eq_false (by omega))))|apply sp_skip|((first|apply spl_pure rfl|apply wlk_read rfl rfl);(·(first|((first|apply ex_move|apply ex_fieldAddr'|apply ex_gtr)<;>(first|exact eT rfl|exact eC))|((apply ex_subn)<;>(first|exact eT rfl|(constructor<;>omega)))|((apply ex_loadown)<;>(first|exact eT rfl|exact Bk.own InH.mem|rfl))|((apply ex_sslice)<;>(first|exact eT rfl|(constructor<;>omega))))))|(apply spl_store1;(·exact eT rfl);(·(first|exact eT rfl|exact eC));(·rfl);(·(repeat (exact Upd.here)));(·rfl))|(apply effq;(·(intro h_;((repeat (first|exact HKeep.refl|(apply HKeep.app;(·(repeat (first|exact Split.here|apply Split.cons))))|apply HKeep.drop (by first|assumption|omega)))))))|apply wlk_nil|apply wlk_eff rfl)
      repeat (first|apply scope_r|(apply spi_yield rfl;(·exact eT rfl);(·exact eT rfl);(·exact fun w' hh => hY w' (hh.perm List.perm_middle.symm));(·rfl);(rintro ⟨y, H'⟩ ⟨hyt, hyf⟩;cases y))|apply then_n|apply spl_nil|apply then_r|apply block_r|((apply sp_cond_t);(·exact eT rfl);(·(rfl)))|apply sp_ret|((first|apply spl_pure rfl|(apply spl_pure_g rfl;(·exact Gd.tf rfl rfl)));(·(first|((first|apply ex_move|apply ex_fieldAddr'|apply ex_not|apply ex_sneq)<;>(exact eT rfl))|((first|apply ex_neq|apply ex_orT)<;>(first|exact eT rfl|exact eC|exact eG rfl))|((apply ex_loadown)<;>(first|exact eG rfl|exact Bk.own InH.mem|rfl))))))
      · skip
        repeat (apply scope_n)
        (apply retX_ok rfl;(·exact Res.none_))
        exact ⟨H', rfl, .inr (.inl ⟨pre, ⟨1, t.extract k j, k⟩, q, hq, hyf rfl⟩), by (repeat (first|exact HKeep.refl|(apply HKeep.app;(·(repeat (exact Split.here))))|apply HKeep.drop (by first|assumption|omega)))⟩
      · skip
        repeat (first|apply then_n|apply block_n|apply spl_nil|(apply sp_cond_f;(·exact eT rfl);(·(rfl)))|apply sp_skip|((first|apply spl_pure rfl|(apply spl_pure_g rfl;(·exact Gd.tf rfl rfl)));(·(first|((first|apply ex_move|apply ex_fieldAddr'|apply ex_not|apply ex_sneq)<;>(exact eT rfl))|((first|apply ex_neq|apply ex_orT)<;>(first|exact eT rfl|exact eC))|((apply ex_loadown)<;>(first|exact eT rfl|exact Bk.own InH.mem|rfl))))))
        exact ⟨(j, pre ++ [⟨1, t.extract k j, k⟩], H'), ⟨by (show j ≤ t.size; omega), hyt rfl, hL1⟩, by (show t.size - j < t.size - k; omega), (by (repeat (first|exact ESub.nil|apply ESub.cons rfl))), rfl, (by (repeat (first|exact HKeep.refl|(apply HKeep.app;(·(repeat (exact Split.here))))|apply HKeep.drop (by first|assumption|omega))))⟩
end Go.Proofs.Ytfdjlphfohnnnaa
/-
  The iterator of tokens: a round of its loop: digits.
-/
namespace Go.Proofs.Ytfdjlphfohnnnaa
open Go.RowKit Go.Sy
set_option linter.unusedVariables false
set_option linter.unusedSimpArgs false
attribute [local irreducible] Calls thenQ blockQ retQ Spc Spl SplI Spq Ex Ev Evs Gd Upd ESub HKeep Res Res1 wlk effQ Rem SrcAt Split tabA clsA TH scopeQ

set_option maxRecDepth 100000 in
set_option maxHeartbeats 4000000 in
theorem round_digit {Be : Nat} {w0 : World} {g1 g3 g4 l : Nat} {t : ByteArray} (ht : t.size < 1000000) {J : List Tk → Heap → Prop} {Jx : List Tk → Tk → Heap → Prop} {Je : Nat → Nat → Heap → Prop} (hY0 : Yld Be w0 l t J Jx Je)
    {k : Nat} {pre : List Tk} {H : Heap} (hk : k ≤ t.size) (hJ : J pre H) (hL : lexA t = (pre ++ (lexN ((tx t).drop k) k).1, (lexN ((tx t).drop k) k).2)) (hlt : k < t.size) {c : UInt8} (hb : t[k] = c) (hd : (tx t).drop k = c :: (tx t).drop (k + 1)) (hdig : isDigit c = true) :
    Spc Try.prog 149 Be (loopAt Try.f74) (rdQ Be w0 l g1 g3 g4 t J Jx Je k) [(4, true, .int .i64 (k : Int)), (0, true, .func (.yield l) #[] #[]), (1, true, .pointer (some ⟨g1, 0, none⟩)), (2, true, .pointer (some ⟨g4, 0, none⟩))] w0 (H ++ TH t g1 g3 g4) := by
  -- Try.func74 rfl 
  obtain ⟨hyT, hyE⟩ := hY0
  have hlen := tx_len t
  have hcl := clsAt_at hb
  obtain ⟨f3, f4, f5, f1, f2, f6, f7⟩ := clsF c
  rw [← hcl] at f1 f2 f3 f4 f5 f6 f7
  unfold rdQ
  have hlet : isLetter c = false := by
    rw [← f3]
    have := of_decide_eq_true (f4.trans hdig)
    exact decide_eq_false (by omega)
  have hC := of_decide_eq_true (f4.trans hdig)
  have hbl : isBlank c = false := f1 ▸ decide_eq_false (by omega)
  have hha : ¬ c.toNat = 35 := fun h => of_decide_eq_false (f2 ▸ decide_eq_false (by omega) : decide ((c.toNat : Int) = 35) = false) (by omega)
  repeat (first|(apply spl_callv (f:=73) (first:=[]) (cap:=[.pointer (some ⟨g1, 0, none⟩), .pointer (some ⟨g3, 0, none⟩)]) rfl;(·exact eT rfl);(·(repeat (first|exact eN|(apply eS;(·exact eT rfl)))));(·exact fun w' hh => at_c t (TH_w2 hh).1 (TH_w2 hh).2 _))|apply then_n|apply sp_seq|apply sp_region|apply spl_nil|((apply sp_cond_t);(·exact eT rfl);(·(exact decide_eq_true (by omega))))|(apply sp_cond_f;(·exact eT rfl);(·(exact decide_eq_false (by omega))))|apply sp_skip|apply sp_block|((apply spl_pure rfl);(·(first|(apply ex_buildE (r:=#[.int .i64 0, .string ⟨#[]⟩, .int .i64 (k : Int)]);(·(repeat (first|exact eN|(apply eS;(·(first|exact eT rfl|exact eC))))));(·rfl);(·rfl))|(apply ex_buildE (r:=fcells 0 ⟨#[]⟩ k 10);(·(repeat (first|exact eN|(apply eS;(·(first|exact eT rfl|exact eC))))));(·rfl);(·rfl))|((first|apply ex_move|apply ex_assign|apply ex_lss|apply ex_seql)<;>(exact eT rfl))|((first|apply ex_eql|apply ex_slen)<;>(first|exact eT rfl|exact eC))|((apply ex_loadown)<;>(first|exact eT rfl|exact Bk.own InH.mem|rfl)))))|(apply spl_alloc rfl;intro _ _)|(apply spl_stores;(·exact eT rfl);(·exact eT rfl);(·(repeat (exact Upd.here)));(·(rfl));(·(rfl));(·exact ones_of_all rfl)))
  rename_i g6 hg6
  refine sp_loop (X := Nat) (fun j => [(4, true, .int .i64 (j : Int)), (5, true, .int .i64 (k : Int)), (6, true, .pointer (some ⟨g6, 0, none⟩)), (0, true, .func (.yield l) #[] #[]), (1, true, .pointer (some ⟨g1, 0, none⟩)), (2, true, .pointer (some ⟨g4, 0, none⟩))]) (fun _ => w0) (fun _ => (g6, .cells (fcells 0 ⟨#[]⟩ k 10) 93 (0, 0)) :: (H ++ TH t g1 g3 g4))
    (fun j => k ≤ j ∧ j ≤ t.size ∧ (((tx t).drop k).takeWhile isDigit).length = (j - k) + (((tx t).drop j).takeWhile isDigit).length) (fun j => t.size - j) k ⟨Nat.le_refl _, by omega, by omega⟩ (by (repeat (first|exact ESub.nil|apply ESub.cons rfl))) rfl (by (repeat (exact HKeep.refl))) ?_
  rintro j ⟨hkj, hj, hrun⟩
  cases hw : headIs isDigit ((tx t).drop j) with
  | true =>
    have hcond := (clsAt_digit t j).trans hw
    have hlt2 : j < t.size := Nat.lt_of_not_le fun h => by rw [drop_end h] at hw; cases hw
    obtain ⟨d, hb2, hd2⟩ := drop_at hlt2
    have hpd : isDigit d = true := by rw [hd2] at hw; simpa [headIs] using hw
    repeat (first|(apply sp_cond_t;(·exact eT rfl);(·exact hcond))|(apply spl_callv (f:=73) (first:=[]) (cap:=[.pointer (some ⟨g1, 0, none⟩), .pointer (some ⟨g3, 0, none⟩)]) rfl;(·exact eT rfl);(·(repeat (first|exact eN|(apply eS;(·exact eT rfl)))));(·exact fun w' hh => at_c t (TH_w2 hh).1 (TH_w2 hh).2 _))|apply then_n|apply block_n|apply sp_seq|apply sp_region|apply spl_nil|apply sp_skip|apply sp_block|((apply spl_pure rfl);(·(first|((first|apply ex_move|apply ex_assign|apply ex_seql)<;>(exact eT rfl))|((apply ex_eql)<;>(first|exact eT rfl|exact eC))|((apply ex_addn)<;>(first|exact eT rfl|exact eC|(constructor<;>omega)))|((apply ex_loadown)<;>(first|exact eT rfl|exact Bk.own InH.mem|rfl))))))
    exact ⟨j + 1, ⟨by omega, by omega, by rw [hrun, hd2, takeWhile_step hpd, List.length_cons]; omega⟩, by omega, (by (repeat (first|exact ESub.nil|apply ESub.cons rfl))), rfl, (by (repeat (exact HKeep.refl)))⟩
  | false =>
    have hcond := (clsAt_digit t j).trans hw
    have hj' : j = k + (((tx t).drop k).takeWhile isDigit).length := by rw [hrun, takeWhile_head hw, List.length_nil]; omega
    have hex := extract_run (p := isDigit) t k
    rw [← hj'] at hex
    have hnd := clsAt_nd hw
    have hdr : ((tx t).drop k).dropWhile isDigit = (tx t).drop j := by rw [dropWhile_drop, List.drop_drop, ← hj']
    repeat (first|(apply sp_cond_f;(·exact eT rfl);(·exact hcond))|(apply spl_callv (f:=73) (first:=[]) (cap:=[.pointer (some ⟨g1, 0, none⟩), .pointer (some ⟨g3, 0, none⟩)]) rfl;(·exact eT rfl);(·(repeat (first|exact eN|(apply eS;(·exact eT rfl)))));(·exact fun w' hh => at_c t (TH_w2 hh).1 (TH_w2 hh).2 _))|apply then_n|apply sp_seq|apply sp_region|apply spl_nil|apply then_e|apply block_here|apply sp_exit|((apply spl_pure rfl);(·(first|((first|apply ex_move|apply ex_seql)<;>(exact eT rfl))|((apply ex_eql)<;>(first|exact eT rfl|exact eC))|((apply ex_loadown)<;>(first|exact eT rfl|exact Bk.own InH.mem|rfl))))))
    refine sp_drawn [(0, true), (1, true), (2, true), (3, true), (4, true), (5, true), (6, false), (7, true), (8, true), (9, false), (10, true), (11, false)] 12 (H ++ TH t g1 g3 g4) mixed (by kernel_rfl) (by (repeat (first|exact HKeep.refl|(apply HKeep.app;(·(repeat (first|exact Split.here|apply Split.cons))))|apply HKeep.drop (by first|assumption|omega)))) ?_
    by_cases hE : 7 < (((tx t).drop k).takeWhile isDigit).length ∨ headIs isWord ((tx t).drop j) = true
    · have ht : tokC c ((tx t).drop (k + 1)) = .err 11 := by unfold tokC; rw [if_neg (by rw [hlet]; simp), if_pos hdig, ← hd, hdr]; exact if_pos hE
      have hL1 := lex_last hL (lexN_at_err hd hbl hha ht)
      have hcond2 : ((decide ((j : Int) - k > 7) || decide (((clsAt t j : Nat) : Int) = 3)) || decide (((clsAt t j : Nat) : Int) = 5)) = true := by
        rw [Bool.or_assoc, hnd]
        rcases hE with h | h
        · rw [decide_eq_true (by omega), Bool.true_or]
        · rw [h, Bool.or_true]
      have hY := hyE pre 2 (t.extract k j) k 11 H ((g6, .cells (fcells 2 (t.extract k j) k 11) 93 (0, 0)) :: TH t g1 g3 g4) hJ hL1 (by decide)
      repeat (first|(apply sp_cond_t;(·exact eT rfl);(·exact hcond2))|(apply sp_regionI (id:=33))|(apply spl_callv (f:=73) (first:=[]) (cap:=[.pointer (some ⟨g1, 0, none⟩), .pointer (some ⟨g3, 0, none⟩)]) rfl;(·exact eT rfl);(·(repeat (first|exact eN|(apply eS;(·exact eT rfl)))));(·exact fun w' hh => at_c t (TH_w2 hh).1 (TH_w2 hh).2 _))|(apply spi_pure rfl;(·(first|((apply ex_move)<;>(exact eT rfl))|(apply ex_loadowns<;>(first|exact eT rfl|exact Bk.own InH.mem|(rfl)))));(·rfl))|apply then_n|apply block_n|apply sp_seq|apply sp_region|apply spl_nil|((first|apply spl_pure rfl|(apply spl_pure_g rfl;(·exact Gd.tf rfl rfl))|apply wlk_read rfl rfl);(·(first|((first|apply ex_move|apply ex_assign|apply ex_fieldAddr'|apply ex_gtr|apply ex_seql)<;>(first|exact eT rfl|exact eC))|((first|apply ex_eql|apply ex_orT)<;>(first|exact eT rfl|exact eC|exact eG rfl))|((apply ex_subn)<;>(first|exact eT rfl|(constructor<;>omega)))|((apply ex_loadown)<;>(first|exact eT rfl|exact Bk.own InH.mem|rfl))|((apply ex_sslice)<;>(first|exact eT rfl|(constructor<;>omega))))))|(apply spl_store1;(·exact eT rfl);(·(first|exact eT rfl|exact eC));(·rfl);(·(repeat (exact Upd.here)));(·rfl))|(apply effq;(·(intro h_;((repeat (first|exact HKeep.refl|(apply HKeep.app;(·(repeat (first|exact Split.here|apply Split.cons))))|apply HKeep.drop (by first|assumption|omega)))))))|apply wlk_nil|apply wlk_eff rfl)
      repeat (first|apply scope_r|(apply spi_yield rfl;(·exact eT rfl);(·exact eT rfl);(·exact fun w' hh => hY w' (hh.perm List.perm_middle.symm));(·rfl);(intro H' hye))|apply then_n|apply spl_nil|apply then_r|apply block_r|((apply sp_cond_t);(·exact eT rfl);(·(rfl)))|apply sp_ret|((first|apply spl_pure rfl|(apply spl_pure_g rfl;(·exact Gd.tf rfl rfl)));(·(first|((first|apply ex_move|apply ex_fieldAddr'|apply ex_not|apply ex_sneq)<;>(exact eT rfl))|((first|apply ex_neq|apply ex_orT)<;>(first|exact eT rfl|exact eC|exact eG rfl))|((apply ex_loadown)<;>(first|exact eG rfl|exact Bk.own InH.mem|rfl))))))
      repeat (apply scope_n)
      (apply retX_ok rfl;(·exact Res.none_))
      exact ⟨H', rfl, .inr (.inr ⟨11, k, by rw [hL1], hye⟩), by (repeat (first|exact HKeep.refl|(apply HKeep.app;(·(repeat (exact Split.here))))|apply HKeep.drop (by first|assumption|omega)))⟩
    · have ht : tokC c ((tx t).drop (k + 1)) = .tok 2 (((tx t).drop k).takeWhile isDigit) (((tx t).drop k).takeWhile isDigit).length := by unfold tokC; rw [if_neg (by rw [hlet]; simp), if_pos hdig, ← hd, hdr]; exact if_neg hE
      have hcond2 : ((decide ((j : Int) - k > 7) || decide (((clsAt t j : Nat) : Int) = 3)) || decide (((clsAt t j : Nat) : Int) = 5)) = false := by
        rw [Bool.or_assoc, hnd]
        have h1 : ¬ 7 < (((tx t).drop k).takeWhile isDigit).length := fun h => hE (.inl h)
        have h2 : headIs isWord ((tx t).drop j) = false := by
          cases hh : headIs isWord ((tx t).drop j) with
          | false => rfl
          | true => exact (hE (.inr hh)).elim
        rw [h2, Bool.or_false]
        exact decide_eq_false (by omega)
      have hn := tokL_len c _ _ _ _ ht
      rw [List.length_cons, List.length_drop, hlen] at hn
      have hN := lexN_at hd hbl hha ht
      rw [hex, ← hj'] at hN
      obtain ⟨hL1, q, hq⟩ := lex_more hL hN
      have hY := hyT pre ⟨2, t.extract k j, k⟩ H ((g6, .cells (fcells 2 (t.extract k j) k 0) 93 (0, 0)) :: TH t g1 g3 g4) hJ ⟨q, hq⟩
      repeat (first|(apply sp_cond_f;(·exact eT rfl);(·exact hcond2))|(apply sp_regionI (id:=33))|(apply spl_callv (f:=73) (first:=[]) (cap:=[.pointer (some ⟨g1, 0, none⟩), .pointer (some ⟨g3, 0, none⟩)]) rfl;(·exact eT rfl);(·(repeat (first|exact eN|(apply eS;(·exact eT rfl)))));(·exact fun w' hh => at_c t (TH_w2 hh).1 (TH_w2 hh).2 _))|(apply spi_pure rfl;(·(first|((apply ex_move)<;>(exact eT rfl))|(apply ex_loadowns<;>(first|exact eT rfl|exact Bk.own InH.mem|(rfl)))));(·rfl))|apply then_n|apply block_n|apply sp_seq|apply sp_region|apply spl_nil|apply sp_skip|((first|apply spl_pure rfl|(apply spl_pure_g rfl;(·exact Gd.tf rfl rfl))|apply wlk_read rfl rfl);(·(first|((first|apply ex_move|apply ex_assign|apply ex_fieldAddr'|apply ex_gtr|apply ex_seql)<;>(first|exact eT rfl|exact eC))|((first|apply ex_eql|apply ex_orT)<;>(first|exact eT rfl|exact eC|exact eG rfl))|((apply ex_subn)<;>(first|exact eT rfl|(constructor<;>omega)))|((apply ex_loadown)<;>(first|exact eT rfl|exact Bk.own InH.mem|rfl))|((apply ex_sslice)<;>(first|exact eT rfl|(constructor<;>omega))))))|(apply spl_store1;(·exact eT rfl);(·(first|exact eT rfl|exact eC));(·rfl);(·(repeat (exact Upd.here)));(·rfl))|(apply effq;(·(intro h_;((repeat (first|exact HKeep.refl|(apply HKeep.app;(·(repeat (first|exact Split.here|apply Split.cons))))|apply HKeep.drop (by first|assumption|omega)))))))|apply wlk_nil|apply wlk_eff rfl)
      repeat (first|apply scope_r|(apply spi_yield rfl;(·exact eT rfl);(·exact eT rfl);(·exact fun w' hh => hY w' (hh.perm List.perm_middle.symm));(·rfl);(rintro ⟨y, H'⟩ ⟨hyt, hyf⟩;cases y))|apply then_n|apply spl_nil|apply then_r|apply block_r|((apply sp_cond_t);(·exact eT rfl);(·(rfl)))|apply sp_ret|((first|apply spl_pure rfl|(apply spl_pure_g rfl;(·exact Gd.tf rfl rfl)));(·(first|((first|apply ex_move|apply ex_fieldAddr'|apply ex_not|apply ex_sneq)<;>(exact eT rfl))|((first|apply ex_neq|apply ex_orT)<;>(first|exact eT rfl|exact eC|exact eG rfl))|((apply ex_loadown)<;>(first|exact eG rfl|exact Bk.own InH.mem|rfl))))))
      · skip
        repeat (apply scope_n)
        (apply retX_ok rfl;(·exact Res.none_))
        exact ⟨H', rfl, .inr (.inl ⟨pre, ⟨2, t.extract k j, k⟩, q, hq, hyf rfl⟩), by (repeat (first|exact HKeep.refl|(apply HKeep.app;(·(repeat (exact Split.here))))|apply HKeep.drop (by first|assumption|omega)))⟩
      · skip
        repeat (first|apply then_n|apply block_n|apply spl_nil|(apply sp_cond_f;(·exact eT rfl);(·(rfl)))|apply sp_skip|((first|apply spl_pure rfl|(apply spl_pure_g rfl;(·exact Gd.tf rfl rfl)));(·(first|((first|apply ex_move|apply ex_fieldAddr'|apply ex_not|apply ex_sneq)<;>(exact eT rfl))|((first|apply ex_neq|apply ex_orT)<;>(first|exact eT rfl|exact eC))|((apply ex_loadown)<;>(first|exact eT rfl|exact Bk.own InH.mem|rfl))))))
        exact ⟨(j, pre ++ [⟨2, t.extract k j, k⟩], H'), ⟨by (show j ≤ t.size; omega), hyt rfl, hL1⟩, by (show t.size - j < t.size - k; omega), (by (repeat (first|exact ESub.nil|apply ESub.cons rfl))), rfl, (by (repeat (first|exact HKeep.refl|(apply HKeep.app;(·(repeat (exact Split.here))))|apply HKeep.drop (by first|assumption|omega))))⟩
end Go.Proofs.Ytfdjlphfohnnnaa
/-
  The iterator of tokens: a round of its loop: symbols, other bytes.
-/
namespace Go.Proofs.Ytfdjlphfohnnnaa
open Go.RowKit Go.Sy
set_option linter.unusedVariables false
set_option linter.unusedSimpArgs false
attribute [local irreducible] Calls thenQ blockQ retQ Spc Spl SplI Spq Ex Ev Evs Gd Upd ESub HKeep Res Res1 wlk effQ Rem SrcAt Split tabA clsA TH scopeQ

set_option maxRecDepth 100000 in
set_option maxHeartbeats 4000000 in
theorem round_symbol {Be : Nat} {w0 : World} {g1 g3 g4 l : Nat} {t : ByteArray} (ht : t.size < 1000000) {J : List Tk → Heap → Prop} {Jx : List Tk → Tk → Heap → Prop} {Je : Nat → Nat → Heap → Prop} (hY0 : Yld Be w0 l t J Jx Je)
    {k : Nat} {pre : List Tk} {H : Heap} (hk : k ≤ t.size) (hJ : J pre H) (hL : lexA t = (pre ++ (lexN ((tx t).drop k) k).1, (lexN ((tx t).drop k) k).2)) (hlt : k < t.size) {c : UInt8} (hb : t[k] = c) (hd : (tx t).drop k = c :: (tx t).drop (k + 1)) (hsym : isSym c = true) :
    Spc Try.prog 149 Be (loopAt Try.f74) (rdQ Be w0 l g1 g3 g4 t J Jx Je k) [(4, true, .int .i64 (k : Int)), (0, true, .func (.yield l) #[] #[]), (1, true, .pointer (some ⟨g1, 0, none⟩)), (2, true, .pointer (some ⟨g4, 0, none⟩))] w0 (H ++ TH t g1 g3 g4) := by
  -- Try.func74 rfl 
  obtain ⟨hyT, hyE⟩ := hY0
  have hlen := tx_len t
  have hcl := clsAt_at hb
  obtain ⟨f3, f4, f5, f1, f2, f6, f7⟩ := clsF c
  rw [← hcl] at f1 f2 f3 f4 f5 f6 f7
  unfold rdQ
  have hC := of_decide_eq_true (f6.trans hsym)
  have hbl : isBlank c = false := f1 ▸ decide_eq_false (by omega)
  have hha : ¬ c.toNat = 35 := fun h => of_decide_eq_false (f2 ▸ decide_eq_false (by omega) : decide ((c.toNat : Int) = 35) = false) (by omega)
  have hlet : isLetter c = false := by rw [← f3]; exact decide_eq_false (by omega)
  have hdig : isDigit c = false := by rw [← f4]; exact decide_eq_false (by omega)
  have h34 : ¬ c.toNat = 34 := fun h => of_decide_eq_false (f7 ▸ decide_eq_false (by omega) : decide ((c.toNat : Int) = 34) = false) (by omega)
  have ht : tokC c ((tx t).drop (k + 1)) = .tok 4 [c] 1 := by unfold tokC; rw [if_neg (by rw [hlet]; simp), if_neg (by rw [hdig]; simp), if_neg h34, if_pos hsym]
  have hex : ofL [c] = t.extract k (k + 1) := by
    apply tx_inj
    rw [tx_ofL, tx_extract, List.drop_take, hd, Nat.add_sub_cancel_left]
    all_goals rfl
  have hN := lexN_at hd hbl hha ht
  rw [hex] at hN
  obtain ⟨hL1, q, hq⟩ := lex_more hL hN
  repeat (first|(apply spl_callv (f:=73) (first:=[]) (cap:=[.pointer (some ⟨g1, 0, none⟩), .pointer (some ⟨g3, 0, none⟩)]) rfl;(·exact eT rfl);(·(repeat (first|exact eN|(apply eS;(·exact eT rfl)))));(·exact fun w' hh => at_c t (TH_w2 hh).1 (TH_w2 hh).2 _))|apply then_n|apply sp_seq|apply sp_region|apply spl_nil|((apply sp_cond_t);(·exact eT rfl);(·(exact decide_eq_true (by omega))))|(apply sp_cond_f;(·exact eT rfl);(·(exact decide_eq_false (by omega))))|apply sp_skip|apply sp_block|((apply spl_pure rfl);(·(first|(apply ex_buildE (r:=#[.int .i64 0, .string ⟨#[]⟩, .int .i64 (k : Int)]);(·(repeat (first|exact eN|(apply eS;(·(first|exact eT rfl|exact eC))))));(·rfl);(·rfl))|(apply ex_buildE (r:=fcells 0 ⟨#[]⟩ k 10);(·(repeat (first|exact eN|(apply eS;(·(first|exact eT rfl|exact eC))))));(·rfl);(·rfl))|((first|apply ex_move|apply ex_assign|apply ex_lss|apply ex_seql)<;>(exact eT rfl))|((first|apply ex_eql|apply ex_slen)<;>(first|exact eT rfl|exact eC))|((apply ex_addn)<;>(first|exact eT rfl|exact eC|(constructor<;>omega)))|((apply ex_loadown)<;>(first|exact eT rfl|exact Bk.own InH.mem|rfl)))))|(apply spl_alloc rfl;intro _ _)|(apply spl_stores;(·exact eT rfl);(·exact eT rfl);(·(repeat (exact Upd.here)));(·(rfl));(·(rfl));(·exact ones_of_all rfl)))
  rename_i g6 hg6
  refine sp_drawn [(0, true), (1, true), (2, true), (3, true), (4, true), (5, true), (6, false), (7, true), (8, true), (9, false), (10, true), (11, false)] 12 (H ++ TH t g1 g3 g4) mixed (by kernel_rfl) (by (repeat (first|exact HKeep.refl|(apply HKeep.app;(·(repeat (first|exact Split.here|apply Split.cons))))|apply HKeep.drop (by first|assumption|omega)))) ?_
  have hY := hyT pre ⟨4, t.extract k (k + 1), k⟩ H ((g6, .cells (fcells 4 (t.extract k (k + 1)) k 0) 93 (0, 0)) :: TH t g1 g3 g4) hJ ⟨q, hq⟩
  repeat (first|(apply sp_regionI (id:=33))|(apply spi_pure rfl;(·(first|((apply ex_move)<;>(exact eT rfl))|(apply ex_loadowns<;>(first|exact eT rfl|exact Bk.own InH.mem|(rfl)))));(·rfl))|apply then_n|apply block_n|apply sp_seq|apply spl_nil|((apply wlk_read rfl rfl);(·(first|((first|apply ex_move|apply ex_fieldAddr')<;>(exact eT rfl))|((apply ex_loadown)<;>(first|exact eT rfl|exact Bk.own InH.mem|rfl))|((apply ex_sslice)<;>(first|exact eT rfl|(constructor<;>omega))))))|(apply spl_store1;(·exact eT rfl);(·(first|exact eT rfl|exact eC));(·rfl);(·(repeat (exact Upd.here)));(·rfl))|(apply effq;(·(intro h_;((repeat (first|exact HKeep.refl|(apply HKeep.app;(·(repeat (first|exact Split.here|apply Split.cons))))|apply HKeep.drop (by first|assumption|omega)))))))|apply wlk_nil|apply wlk_eff rfl)
  repeat (first|apply scope_r|(apply spi_yield rfl;(·exact eT rfl);(·exact eT rfl);(·exact fun w' hh => hY w' (hh.perm List.perm_middle.symm));(·rfl);(rintro ⟨y, H'⟩ ⟨hyt, hyf⟩;cases y))|apply then_n|apply spl_nil|apply then_r|apply block_r|((apply sp_cond_t);(·exact eT rfl);(·(rfl)))|apply sp_ret|((first|apply spl_pure rfl|(apply spl_pure_g rfl;(·exact Gd.tf rfl rfl)));(·(first|((first|apply ex_move|apply ex_fieldAddr'|apply ex_not|apply ex_sneq)<;>(exact eT rfl))|((first|apply ex_neq|apply ex_orT)<;>(first|exact eT rfl|exact eC|exact eG rfl))|((apply ex_loadown)<;>(first|exact eG rfl|exact Bk.own InH.mem|rfl))))))
  · skip
    repeat (apply scope_n)
    (apply retX_ok rfl;(·exact Res.none_))
    exact ⟨H', rfl, .inr (.inl ⟨pre, ⟨4, t.extract k (k + 1), k⟩, q, hq, hyf rfl⟩), by (repeat (first|exact HKeep.refl|(apply HKeep.app;(·(repeat (exact Split.here))))|apply HKeep.drop (by first|assumption|omega)))⟩
  · skip
    repeat (first|apply then_n|apply block_n|apply spl_nil|(apply sp_cond_f;(·exact eT rfl);(·(rfl)))|apply sp_skip|((first|apply spl_pure rfl|(apply spl_pure_g rfl;(·exact Gd.tf rfl rfl)));(·(first|((first|apply ex_move|apply ex_fieldAddr'|apply ex_not|apply ex_sneq)<;>(exact eT rfl))|((first|apply ex_neq|apply ex_orT)<;>(first|exact eT rfl|exact eC))|((apply ex_loadown)<;>(first|exact eT rfl|exact Bk.own InH.mem|rfl))))))
    exact ⟨((k + 1), pre ++ [⟨4, t.extract k (k + 1), k⟩], H'), ⟨by (show (k + 1) ≤ t.size; omega), hyt rfl, hL1⟩, by (show t.size - (k + 1) < t.size - k; omega), (by (repeat (first|exact ESub.nil|apply ESub.cons rfl))), rfl, (by (repeat (first|exact HKeep.refl|(apply HKeep.app;(·(repeat (exact Split.here))))|apply HKeep.drop (by first|assumption|omega))))⟩

set_option maxRecDepth 100000 in
set_option maxHeartbeats 4000000 in
theorem round_other {Be : Nat} {w0 : World} {g1 g3 g4 l : Nat} {t : ByteArray} (ht : t.size < 1000000) {J : List Tk → Heap → Prop} {Jx : List Tk → Tk → Heap → Prop} {Je : Nat → Nat → Heap → Prop} (hY0 : Yld Be w0 l t J Jx Je)
    {k : Nat} {pre : List Tk} {H : Heap} (hk : k ≤ t.size) (hJ : J pre H) (hL : lexA t = (pre ++ (lexN ((tx t).drop k) k).1, (lexN ((tx t).drop k) k).2)) (hlt : k < t.size) {c : UInt8} (hb : t[k] = c) (hd : (tx t).drop k = c :: (tx t).drop (k + 1)) (h1 : isBlank c = false) (hha : ¬ c.toNat = 35) (hlet : isLetter c = false) (hdig : isDigit c = false) (h34 : ¬ c.toNat = 34) (hsym : isSym c = false) :
    Spc Try.prog 149 Be (loopAt Try.f74) (rdQ Be w0 l g1 g3 g4 t J Jx Je k) [(4, true, .int .i64 (k : Int)), (0, true, .func (.yield l) #[] #[]), (1, true, .pointer (some ⟨g1, 0, none⟩)), (2, true, .pointer (some ⟨g4, 0, none⟩))] w0 (H ++ TH t g1 g3 g4) := by
  -- Try.func74 rfl 
  obtain ⟨hyT, hyE⟩ := hY0
  have hlen := tx_len t
  have hcl := clsAt_at hb
  obtain ⟨f3, f4, f5, f1, f2, f6, f7⟩ := clsF c
  rw [← hcl] at f1 f2 f3 f4 f5 f6 f7
  unfold rdQ
  have hbl : isBlank c = false := h1
  have hn1 : ¬ ((clsAt t k : Nat) : Int) = 1 := fun h => by rw [decide_eq_true h] at f1; rw [h1] at f1; cases f1
  have hn2 : ¬ ((clsAt t k : Nat) : Int) = 2 := fun h => by rw [decide_eq_true h] at f2; exact hha (by have := of_decide_eq_true f2.symm; omega)
  have hn3 : ¬ ((clsAt t k : Nat) : Int) = 3 := fun h => by rw [decide_eq_true h, hlet] at f3; cases f3
  have hn4 : ¬ ((clsAt t k : Nat) : Int) = 4 := fun h => by rw [decide_eq_true h, hdig] at f4; cases f4
  have hn6 : ¬ ((clsAt t k : Nat) : Int) = 6 := fun h => by rw [decide_eq_true h, hsym] at f6; cases f6
  have hn7 : ¬ ((clsAt t k : Nat) : Int) = 7 := fun h => by rw [decide_eq_true h] at f7; exact h34 (by have := of_decide_eq_true f7.symm; omega)
  have ht : tokC c ((tx t).drop (k + 1)) = .err 10 := by unfold tokC; rw [if_neg (by rw [hlet]; simp), if_neg (by rw [hdig]; simp), if_neg h34, if_neg (by rw [hsym]; simp)]
  have hL1 := lex_last hL (lexN_at_err hd hbl hha ht)
  repeat (first|(apply sp_regionI (id:=33))|(apply spl_callv (f:=73) (first:=[]) (cap:=[.pointer (some ⟨g1, 0, none⟩), .pointer (some ⟨g3, 0, none⟩)]) rfl;(·exact eT rfl);(·(repeat (first|exact eN|(apply eS;(·exact eT rfl)))));(·exact fun w' hh => at_c t (TH_w2 hh).1 (TH_w2 hh).2 _))|(apply spi_pure rfl;(·(first|((apply ex_move)<;>(exact eT rfl))|(apply ex_loadowns<;>(first|exact eT rfl|exact Bk.own InH.mem|(rfl)))));(·rfl))|apply then_n|apply block_n|apply sp_seq|apply sp_region|apply spl_nil|((apply sp_cond_t);(·exact eT rfl);(·(exact decide_eq_true (by omega))))|(apply sp_cond_f;(·exact eT rfl);(·(exact decide_eq_false (by omega))))|apply sp_skip|apply sp_block|((apply spl_pure rfl);(·(first|(apply ex_buildE (r:=#[.int .i64 0, .string ⟨#[]⟩, .int .i64 (k : Int)]);(·(repeat (first|exact eN|(apply eS;(·(first|exact eT rfl|exact eC))))));(·rfl);(·rfl))|(apply ex_buildE (r:=fcells 0 ⟨#[]⟩ k 10);(·(repeat (first|exact eN|(apply eS;(·(first|exact eT rfl|exact eC))))));(·rfl);(·rfl))|((first|apply ex_move|apply ex_assign|apply ex_lss|apply ex_seql)<;>(exact eT rfl))|((first|apply ex_eql|apply ex_slen)<;>(first|exact eT rfl|exact eC))|((apply ex_loadown)<;>(first|exact eT rfl|exact Bk.own InH.mem|rfl)))))|(apply spl_alloc rfl;intro _ _)|(apply spl_stores;(·exact eT rfl);(·exact eT rfl);(·(repeat (exact Upd.here)));(·(rfl));(·(rfl));(·exact ones_of_all rfl)))
  rename_i g6 hg6
  have hY := hyE pre 0 (⟨#[]⟩) k 10 H ((g6, .cells (fcells 0 (⟨#[]⟩) k 10) 93 (0, 0)) :: TH t g1 g3 g4) hJ hL1 (by decide)
  repeat (first|apply scope_r|(apply spi_yield rfl;(·exact eT rfl);(·exact eT rfl);(·exact fun w' hh => hY w' (hh.perm List.perm_middle.symm));(·rfl);(intro H' hye))|apply then_n|apply spl_nil|apply then_r|apply block_r|((apply sp_cond_t);(·exact eT rfl);(·(rfl)))|apply sp_ret|((first|apply spl_pure rfl|(apply spl_pure_g rfl;(·exact Gd.tf rfl rfl)));(·(first|((first|apply ex_move|apply ex_fieldAddr'|apply ex_not|apply ex_sneq)<;>(exact eT rfl))|((first|apply ex_neq|apply ex_orT)<;>(first|exact eT rfl|exact eC|exact eG rfl))|((apply ex_loadown)<;>(first|exact eG rfl|exact Bk.own InH.mem|rfl))))))
  repeat (apply scope_n)
  (apply retX_ok rfl;(·exact Res.none_))
  exact ⟨H', rfl, .inr (.inr ⟨10, k, by rw [hL1], hye⟩), by (repeat (first|exact HKeep.refl|(apply HKeep.app;(·(repeat (exact Split.here))))|apply HKeep.drop (by first|assumption|omega)))⟩
end Go.Proofs.Ytfdjlphfohnnnaa
/-
  The iterator of tokens: a round of its loop: strings, gaps.
-/
namespace Go.Proofs.Ytfdjlphfohnnnaa
open Go.RowKit Go.Sy
set_option linter.unusedVariables false
set_option linter.unusedSimpArgs false
attribute [local irreducible] Calls thenQ blockQ retQ Spc Spl SplI Spq Ex Ev Evs Gd Upd ESub HKeep Res Res1 wlk effQ Rem SrcAt Split tabA clsA TH scopeQ

set_option maxRecDepth 100000 in
set_option maxHeartbeats 4000000 in
theorem round_quote {Be : Nat} {w0 : World} {g1 g3 g4 l : Nat} {t : ByteArray} (ht : t.size < 1000000) {J : List Tk → Heap → Prop} {Jx : List Tk → Tk → Heap → Prop} {Je : Nat → Nat → Heap → Prop} (hY0 : Yld Be w0 l t J Jx Je)
    {k : Nat} {pre : List Tk} {H : Heap} (hk : k ≤ t.size) (hJ : J pre H) (hL : lexA t = (pre ++ (lexN ((tx t).drop k) k).1, (lexN ((tx t).drop k) k).2)) (hlt : k < t.size) {c : UInt8} (hb : t[k] = c) (hd : (tx t).drop k = c :: (tx t).drop (k + 1)) (h34 : c.toNat = 34) :
    Spc Try.prog 149 Be (loopAt Try.f74) (rdQ Be w0 l g1 g3 g4 t J Jx Je k) [(4, true, .int .i64 (k : Int)), (0, true, .func (.yield l) #[] #[]), (1, true, .pointer (some ⟨g1, 0, none⟩)), (2, true, .pointer (some ⟨g4, 0, none⟩))] w0 (H ++ TH t g1 g3 g4) := by
  -- Try.func74 rfl 
  obtain ⟨hyT, hyE⟩ := hY0
  have hlen := tx_len t
  have hcl := clsAt_at hb
  obtain ⟨f3, f4, f5, f1, f2, f6, f7⟩ := clsF c
  rw [← hcl] at f1 f2 f3 f4 f5 f6 f7
  unfold rdQ
  have hC : ((clsAt t k : Nat) : Int) = 7 := of_decide_eq_true (f7.trans (decide_eq_true (by omega)))
  have hbl : isBlank c = false := f1 ▸ decide_eq_false (by omega)
  have hha : ¬ c.toNat = 35 := by omega
  have hlet : isLetter c = false := by rw [← f3]; exact decide_eq_false (by omega)
  have hdig : isDigit c = false := by rw [← f4]; exact decide_eq_false (by omega)
  have hUn : ∀ {w' : World}, Calls Try.prog 75 #[.string (t.extract (k : Int).toNat t.size)] w' (Ret w' (.tuple #[.string (unqR (t.extract k t.size)).1, .int .i64 ((unqR (t.extract k t.size)).2 : Nat)])) := fun {w'} => unquoted_c _ (by
    show (t.extract k t.size).size < 10000000
    rw [ByteArray.size_extract]; omega)
  have hux : unqR (t.extract k t.size) = match unqL ((tx t).drop (k + 1)) with | none => (⟨#[]⟩, 0) | some p => (ofL p.1, p.2 + 1) := by
    unfold unqR
    rw [tx_extract, List.take_of_length_le (by rw [hlen]; exact Nat.le_refl _), List.drop_drop]
    all_goals rfl
  cases hu : unqL ((tx t).drop (k + 1)) with
  | none =>
    rw [hu] at hux
    simp only at hux
    rw [hux] at hUn
    have ht : tokC c ((tx t).drop (k + 1)) = .err 10 := by unfold tokC; rw [if_neg (by rw [hlet]; simp), if_neg (by rw [hdig]; simp), if_pos h34, hu]
    have hL1 := lex_last hL (lexN_at_err hd hbl hha ht)
    repeat (first|(apply sp_regionI (id:=33))|(apply spl_callv (f:=73) (first:=[]) (cap:=[.pointer (some ⟨g1, 0, none⟩), .pointer (some ⟨g3, 0, none⟩)]) rfl;(·exact eT rfl);(·(repeat (first|exact eN|(apply eS;(·exact eT rfl)))));(·exact fun w' hh => at_c t (TH_w2 hh).1 (TH_w2 hh).2 _))|(apply spl_callp rfl;(·(repeat (first|exact eN|(apply eS;(·exact eT rfl)))));(·exact fun w' hh => hUn (w' := w')))|(apply spi_pure rfl;(·(first|((apply ex_move)<;>(exact eT rfl))|(apply ex_loadowns<;>(first|exact eT rfl|exact Bk.own InH.mem|(rfl)))));(·rfl))|apply then_n|apply block_n|apply sp_seq|apply sp_region|apply spl_nil|((apply sp_cond_t);(·exact eT rfl);(·(exact decide_eq_true (by omega))))|(apply sp_cond_f;(·exact eT rfl);(·(exact decide_eq_false (by omega))))|apply sp_skip|apply sp_block|((apply spl_pure rfl);(·(first|(apply ex_buildE (r:=#[.int .i64 0, .string ⟨#[]⟩, .int .i64 (k : Int)]);(·(repeat (first|exact eN|(apply eS;(·(first|exact eT rfl|exact eC))))));(·rfl);(·rfl))|(apply ex_buildE (r:=fcells 0 ⟨#[]⟩ k 10);(·(repeat (first|exact eN|(apply eS;(·(first|exact eT rfl|exact eC))))));(·rfl);(·rfl))|((first|apply ex_move|apply ex_assign|apply ex_lss|apply ex_gtr|apply ex_seql)<;>(first|exact eT rfl|exact eC))|((first|apply ex_eql|apply ex_slen)<;>(first|exact eT rfl|exact eC))|((apply ex_addn)<;>(first|exact eT rfl|(constructor<;>omega)))|((first|apply ex_loadown|apply ex_extract)<;>(first|exact eT rfl|exact Bk.own InH.mem|rfl))|((apply ex_sslice_l)<;>(first|exact eT rfl|(constructor<;>omega))))))|(apply spl_alloc rfl;intro _ _)|(apply spl_stores;(·exact eT rfl);(·exact eT rfl);(·(repeat (exact Upd.here)));(·(rfl));(·(rfl));(·exact ones_of_all rfl)))
    rename_i g6 hg6
    have hY := hyE pre 0 (⟨#[]⟩) k 10 H ((g6, .cells (fcells 0 (⟨#[]⟩) k 10) 93 (0, 0)) :: TH t g1 g3 g4) hJ hL1 (by decide)
    repeat (first|apply scope_r|(apply spi_yield rfl;(·exact eT rfl);(·exact eT rfl);(·exact fun w' hh => hY w' (hh.perm List.perm_middle.symm));(·rfl);(intro H' hye))|apply then_n|apply spl_nil|apply then_r|apply block_r|((apply sp_cond_t);(·exact eT rfl);(·(rfl)))|apply sp_ret|((first|apply spl_pure rfl|(apply spl_pure_g rfl;(·exact Gd.tf rfl rfl)));(·(first|((first|apply ex_move|apply ex_fieldAddr'|apply ex_not|apply ex_sneq)<;>(exact eT rfl))|((first|apply ex_neq|apply ex_orT)<;>(first|exact eT rfl|exact eC|exact eG rfl))|((apply ex_loadown)<;>(first|exact eG rfl|exact Bk.own InH.mem|rfl))))))
    repeat (apply scope_n)
    (apply retX_ok rfl;(·exact Res.none_))
    exact ⟨H', rfl, .inr (.inr ⟨10, k, by rw [hL1], hye⟩), by (repeat (first|exact HKeep.refl|(apply HKeep.app;(·(repeat (exact Split.here))))|apply HKeep.drop (by first|assumption|omega)))⟩
  | some p =>
    obtain ⟨s, n⟩ := p
    rw [hu] at hux
    simp only at hux
    rw [hux] at hUn
    have ht : tokC c ((tx t).drop (k + 1)) = .tok 3 s (n + 1) := by unfold tokC; rw [if_neg (by rw [hlet]; simp), if_neg (by rw [hdig]; simp), if_pos h34, hu]
    have hn := unqL_len _ _ _ hu
    rw [List.length_drop, hlen] at hn
    obtain ⟨hL1, q, hq⟩ := lex_more hL (lexN_at hd hbl hha ht)
    repeat (first|(apply sp_regionI (id:=33))|(apply spl_callv (f:=73) (first:=[]) (cap:=[.pointer (some ⟨g1, 0, none⟩), .pointer (some ⟨g3, 0, none⟩)]) rfl;(·exact eT rfl);(·(repeat (first|exact eN|(apply eS;(·exact eT rfl)))));(·exact fun w' hh => at_c t (TH_w2 hh).1 (TH_w2 hh).2 _))|(apply spl_callp rfl;(·(repeat (first|exact eN|(apply eS;(·exact eT rfl)))));(·exact fun w' hh => hUn (w' := w')))|(apply spi_pure rfl;(·(first|((apply ex_move)<;>(exact eT rfl))|(apply ex_loadowns<;>(first|exact eT rfl|exact Bk.own InH.mem|(rfl)))));(·rfl))|apply then_n|apply block_n|apply sp_seq|apply sp_region|apply spl_nil|((apply sp_cond_t);(·exact eT rfl);(·(exact decide_eq_true (by omega))))|(apply sp_cond_f;(·exact eT rfl);(·(exact decide_eq_false (by omega))))|apply sp_skip|apply sp_block|((apply spl_pure rfl);(·(first|(apply ex_buildE (r:=#[.int .i64 0, .string ⟨#[]⟩, .int .i64 (k : Int)]);(·(repeat (first|exact eN|(apply eS;(·(first|exact eT rfl|exact eC))))));(·rfl);(·rfl))|(apply ex_buildE (r:=fcells 0 ⟨#[]⟩ k 10);(·(repeat (first|exact eN|(apply eS;(·(first|exact eT rfl|exact eC))))));(·rfl);(·rfl))|((first|apply ex_move|apply ex_assign|apply ex_fieldAddr'|apply ex_lss|apply ex_gtr|apply ex_seql)<;>(first|exact eT rfl|exact eC))|((first|apply ex_eql|apply ex_slen)<;>(first|exact eT rfl|exact eC))|((apply ex_addn)<;>(first|exact eT rfl|(constructor<;>omega)))|((first|apply ex_loadown|apply ex_extract)<;>(first|exact eT rfl|exact Bk.own InH.mem|rfl))|((apply ex_sslice_l)<;>(first|exact eT rfl|(constructor<;>omega))))))|(apply spl_alloc rfl;intro _ _)|(apply spl_store1;(·exact eT rfl);(·(first|exact eT rfl|exact eC));(·rfl);(·(repeat (exact Upd.here)));(·rfl))|(apply spl_stores;(·exact eT rfl);(·exact eT rfl);(·(repeat (exact Upd.here)));(·(rfl));(·(rfl));(·exact ones_of_all rfl)))
    rename_i g6 hg6
    have hY := hyT pre ⟨3, ofL s, k⟩ H ((g6, .cells (fcells 3 (ofL s) k 0) 93 (0, 0)) :: TH t g1 g3 g4) hJ ⟨q, hq⟩
    repeat (first|apply scope_r|(apply spi_yield rfl;(·exact eT rfl);(·exact eT rfl);(·exact fun w' hh => hY w' (hh.perm List.perm_middle.symm));(·rfl);(rintro ⟨y, H'⟩ ⟨hyt, hyf⟩;cases y))|apply then_n|apply spl_nil|apply then_r|apply block_r|((apply sp_cond_t);(·exact eT rfl);(·(rfl)))|apply sp_ret|((first|apply spl_pure rfl|(apply spl_pure_g rfl;(·exact Gd.tf rfl rfl)));(·(first|((first|apply ex_move|apply ex_fieldAddr'|apply ex_not|apply ex_sneq)<;>(exact eT rfl))|((first|apply ex_neq|apply ex_orT)<;>(first|exact eT rfl|exact eC|exact eG rfl))|((apply ex_loadown)<;>(first|exact eG rfl|exact Bk.own InH.mem|rfl))))))
    · skip
      repeat (apply scope_n)
      (apply retX_ok rfl;(·exact Res.none_))
      exact ⟨H', rfl, .inr (.inl ⟨pre, ⟨3, ofL s, k⟩, q, hq, hyf rfl⟩), by (repeat (first|exact HKeep.refl|(apply HKeep.app;(·(repeat (exact Split.here))))|apply HKeep.drop (by first|assumption|omega)))⟩
    · skip
      repeat (first|apply then_n|apply block_n|apply spl_nil|(apply sp_cond_f;(·exact eT rfl);(·(rfl)))|apply sp_skip|((first|apply spl_pure rfl|(apply spl_pure_g rfl;(·exact Gd.tf rfl rfl)));(·(first|((first|apply ex_move|apply ex_fieldAddr'|apply ex_not|apply ex_sneq)<;>(exact eT rfl))|((first|apply ex_neq|apply ex_orT)<;>(first|exact eT rfl|exact eC))|((apply ex_loadown)<;>(first|exact eT rfl|exact Bk.own InH.mem|rfl))))))
      exact ⟨((k + (n + 1)), pre ++ [⟨3, ofL s, k⟩], H'), ⟨by (show (k + (n + 1)) ≤ t.size; omega), hyt rfl, hL1⟩, by (show t.size - (k + (n + 1)) < t.size - k; omega), (by (repeat (first|exact ESub.nil|apply ESub.cons rfl))), rfl, (by (repeat (first|exact HKeep.refl|(apply HKeep.app;(·(repeat (exact Split.here))))|apply HKeep.drop (by first|assumption|omega))))⟩

set_option maxRecDepth 100000 in
set_option maxHeartbeats 4000000 in
theorem round_blank {Be : Nat} {w0 : World} {g1 g3 g4 l : Nat} {t : ByteArray} (ht : t.size < 1000000) {J : List Tk → Heap → Prop} {Jx : List Tk → Tk → Heap → Prop} {Je : Nat → Nat → Heap → Prop} (hY0 : Yld Be w0 l t J Jx Je)
    {k : Nat} {pre : List Tk} {H : Heap} (hk : k ≤ t.size) (hJ : J pre H) (hL : lexA t = (pre ++ (lexN ((tx t).drop k) k).1, (lexN ((tx t).drop k) k).2)) (hlt : k < t.size) {c : UInt8} (hb : t[k] = c) (hd : (tx t).drop k = c :: (tx t).drop (k + 1)) (h1 : isBlank c = true) :
    Spc Try.prog 149 Be (loopAt Try.f74) (rdQ Be w0 l g1 g3 g4 t J Jx Je k) [(4, true, .int .i64 (k : Int)), (0, true, .func (.yield l) #[] #[]), (1, true, .pointer (some ⟨g1, 0, none⟩)), (2, true, .pointer (some ⟨g4, 0, none⟩))] w0 (H ++ TH t g1 g3 g4) := by
  -- Try.func74 rfl 
  obtain ⟨hyT, hyE⟩ := hY0
  have hlen := tx_len t
  have hcl := clsAt_at hb
  obtain ⟨f3, f4, f5, f1, f2, f6, f7⟩ := clsF c
  rw [← hcl] at f1 f2 f3 f4 f5 f6 f7
  unfold rdQ
  have hC : ((clsAt t k : Nat) : Int) = 1 := of_decide_eq_true (f1.trans h1)
  have hN : lexN ((tx t).drop k) k = lexN ((tx t).drop (k + 1)) (k + 1) := lexN_skip (by rw [hd]; simp [skipM, h1]) (by rw [hd, List.length_cons])
  rw [hN] at hL
  repeat (first|(apply spl_callv (f:=73) (first:=[]) (cap:=[.pointer (some ⟨g1, 0, none⟩), .pointer (some ⟨g3, 0, none⟩)]) rfl;(·exact eT rfl);(·(repeat (first|exact eN|(apply eS;(·exact eT rfl)))));(·exact fun w' hh => at_c t (TH_w2 hh).1 (TH_w2 hh).2 _))|apply then_n|apply sp_seq|apply sp_region|apply spl_nil|apply then_e|apply block_here|apply block_past rfl|((apply sp_cond_t);(·exact eT rfl);(·(exact decide_eq_true (by omega))))|apply sp_skip|apply sp_exit|apply sp_block|((apply spl_pure rfl);(·(first|(apply ex_buildE (r:=#[.int .i64 0, .string ⟨#[]⟩, .int .i64 (k : Int)]);(·(repeat (first|exact eN|(apply eS;(·(first|exact eT rfl|exact eC))))));(·rfl);(·rfl))|(apply ex_buildE (r:=fcells 0 ⟨#[]⟩ k 10);(·(repeat (first|exact eN|(apply eS;(·(first|exact eT rfl|exact eC))))));(·rfl);(·rfl))|((first|apply ex_move|apply ex_assign|apply ex_lss|apply ex_seql)<;>(exact eT rfl))|((first|apply ex_eql|apply ex_slen)<;>(first|exact eT rfl|exact eC))|((apply ex_addn)<;>(first|exact eT rfl|exact eC|(constructor<;>omega)))|((apply ex_loadown)<;>(first|exact eT rfl|exact Bk.own InH.mem|rfl)))))|(apply spl_alloc rfl;intro _ _)|(apply spl_stores;(·exact eT rfl);(·exact eT rfl);(·(repeat (exact Upd.here)));(·(rfl));(·(rfl));(·exact ones_of_all rfl)))
  exact ⟨(k + 1, pre, H), ⟨hlt, hJ, hL⟩, by (show t.size - (k + 1) < t.size - k; omega), (by (repeat (first|exact ESub.nil|apply ESub.cons rfl))), rfl, (by (repeat (first|exact HKeep.refl|(apply HKeep.app;(·(repeat (first|exact Split.here|apply Split.cons))))|apply HKeep.drop (by first|assumption|omega))))⟩

set_option maxRecDepth 100000 in
set_option maxHeartbeats 4000000 in
theorem round_hash {Be : Nat} {w0 : World} {g1 g3 g4 l : Nat} {t : ByteArray} (ht : t.size < 1000000) {J : List Tk → Heap → Prop} {Jx : List Tk → Tk → Heap → Prop} {Je : Nat → Nat → Heap → Prop} (hY0 : Yld Be w0 l t J Jx Je)
    {k : Nat} {pre : List Tk} {H : Heap} (hk : k ≤ t.size) (hJ : J pre H) (hL : lexA t = (pre ++ (lexN ((tx t).drop k) k).1, (lexN ((tx t).drop k) k).2)) (hlt : k < t.size) {c : UInt8} (hb : t[k] = c) (hd : (tx t).drop k = c :: (tx t).drop (k + 1)) (h35 : c.toNat = 35) :
    Spc Try.prog 149 Be (loopAt Try.f74) (rdQ Be w0 l g1 g3 g4 t J Jx Je k) [(4, true, .int .i64 (k : Int)), (0, true, .func (.yield l) #[] #[]), (1, true, .pointer (some ⟨g1, 0, none⟩)), (2, true, .pointer (some ⟨g4, 0, none⟩))] w0 (H ++ TH t g1 g3 g4) := by
  -- Try.func74 rfl 
  obtain ⟨hyT, hyE⟩ := hY0
  have hlen := tx_len t
  have hcl := clsAt_at hb
  obtain ⟨f3, f4, f5, f1, f2, f6, f7⟩ := clsF c
  rw [← hcl] at f1 f2 f3 f4 f5 f6 f7
  unfold rdQ
  have hC : ((clsAt t k : Nat) : Int) = 2 := of_decide_eq_true (f2.trans (decide_eq_true (by omega)))
  have hbl : isBlank c = false := f1 ▸ decide_eq_false (by omega)
  have hi0 : skipM true ((tx t).drop (k + 1)) = skipM false ((tx t).drop k) := by rw [hd]; simp [skipM, hbl, h35]
  repeat (first|(apply spl_callv (f:=73) (first:=[]) (cap:=[.pointer (some ⟨g1, 0, none⟩), .pointer (some ⟨g3, 0, none⟩)]) rfl;(·exact eT rfl);(·(repeat (first|exact eN|(apply eS;(·exact eT rfl)))));(·exact fun w' hh => at_c t (TH_w2 hh).1 (TH_w2 hh).2 _))|apply then_n|apply sp_seq|apply sp_region|apply spl_nil|((apply sp_cond_t);(·exact eT rfl);(·(exact decide_eq_true (by omega))))|(apply sp_cond_f;(·exact eT rfl);(·(exact decide_eq_false (by omega))))|apply sp_skip|apply sp_block|((apply spl_pure rfl);(·(first|(apply ex_buildE (r:=#[.int .i64 0, .string ⟨#[]⟩, .int .i64 (k : Int)]);(·(repeat (first|exact eN|(apply eS;(·(first|exact eT rfl|exact eC))))));(·rfl);(·rfl))|(apply ex_buildE (r:=fcells 0 ⟨#[]⟩ k 10);(·(repeat (first|exact eN|(apply eS;(·(first|exact eT rfl|exact eC))))));(·rfl);(·rfl))|((first|apply ex_move|apply ex_assign|apply ex_lss|apply ex_seql)<;>(exact eT rfl))|((first|apply ex_eql|apply ex_slen)<;>(first|exact eT rfl|exact eC))|((apply ex_loadown)<;>(first|exact eT rfl|exact Bk.own InH.mem|rfl)))))|(apply spl_alloc rfl;intro _ _)|(apply spl_stores;(·exact eT rfl);(·exact eT rfl);(·(repeat (exact Upd.here)));(·(rfl));(·(rfl));(·exact ones_of_all rfl)))
  rename_i g6 hg6
  refine sp_loop (X := Nat) (fun j => [(4, true, .int .i64 (j : Int)), (0, true, .func (.yield l) #[] #[]), (1, true, .pointer (some ⟨g1, 0, none⟩)), (2, true, .pointer (some ⟨g4, 0, none⟩))]) (fun _ => w0) (fun _ => H ++ TH t g1 g3 g4)
    (fun j => k ≤ j ∧ j ≤ t.size ∧ (j = k ∨ k < j ∧ skipM true ((tx t).drop j) = skipM false ((tx t).drop k))) (fun j => t.size - j) k ⟨Nat.le_refl _, hk, .inl rfl⟩ (by (repeat (first|exact ESub.nil|apply ESub.cons rfl))) rfl (by (repeat (first|exact HKeep.refl|(apply HKeep.app;(·(repeat (first|exact Split.here|apply Split.cons))))|apply HKeep.drop (by first|assumption|omega)))) ?_
  rintro j ⟨hkj, hj, hjj⟩
  have hfin : k < j → skipM false ((tx t).drop k) = skipM false ((tx t).drop j) → ∃ x : Nat × List Tk × Heap, (x.1 ≤ t.size ∧ J x.2.1 x.2.2 ∧ lexA t = (x.2.1 ++ (lexN ((tx t).drop x.1) x.1).1, (lexN ((tx t).drop x.1) x.1).2)) ∧ t.size - x.1 < t.size - k ∧ x = (j, pre, H) := fun h1 h2 =>
    ⟨(j, pre, H), ⟨hj, hJ, by
      have : lexN ((tx t).drop k) k = lexN ((tx t).drop j) (k + (j - k)) := lexN_skip h2 (by rw [List.length_drop, List.length_drop, hlen]; omega)
      rw [Nat.add_sub_cancel' hkj] at this
      rw [hL, this]⟩, by (show t.size - j < t.size - k; omega), rfl⟩
  by_cases hlt2 : j < t.size
  · obtain ⟨b2, hb2, hd2⟩ := drop_at hlt2
    by_cases hb10 : b2.toNat = 10
    · have hkj' : k < j := by
        rcases hjj with h | h
        · subst h; rw [hb] at hb2; subst hb2; omega
        · exact h.1
      have hnl : skipM false ((tx t).drop k) = skipM false ((tx t).drop j) := by
        rcases hjj with h | h
        · omega
        · rw [← h.2, skip_nl _ (.inr ⟨_, _, hd2, hb10⟩)]
      have hcond : (decide ((j : Int) < t.size) && !decide ((b2.toNat : Int) = 10)) = false := by simp [hb10]
      repeat (first|(apply sp_cond_f;(·exact eT rfl);(·exact hcond))|apply then_n|apply sp_seq|apply sp_region|apply spl_nil|apply then_e|apply block_here|apply block_past rfl|apply sp_exit|((first|apply spl_pure rfl|(apply spl_pure_g rfl;(·exact Gd.tt rfl rfl)));(·(first|(apply ex_sindexE hlt2 hb2;(·exact eG rfl);(·exact eG rfl))|((first|apply ex_move|apply ex_lss|apply ex_sneq|apply ex_andT)<;>(first|exact eT rfl|exact eG rfl))|((first|apply ex_neq|apply ex_slen)<;>(first|exact eT rfl|exact eC|exact eG rfl))|((apply ex_loadown)<;>(first|exact eT rfl|exact Bk.own InH.mem|rfl))))))
      obtain ⟨x, hx, hm, rfl⟩ := hfin hkj' hnl
      exact ⟨_, hx, hm, (by (repeat (first|exact ESub.nil|apply ESub.cons rfl))), rfl, (by (repeat (exact HKeep.refl)))⟩
    · have hcond : (decide ((j : Int) < t.size) && !decide ((b2.toNat : Int) = 10)) = true := by simp [hb10]; omega
      repeat (first|(apply sp_cond_t;(·exact eT rfl);(·exact hcond))|apply then_n|apply block_n|apply sp_seq|apply sp_region|apply spl_nil|apply sp_skip|apply sp_block|((first|apply spl_pure rfl|(apply spl_pure_g rfl;(·exact Gd.tt rfl rfl)));(·(first|(apply ex_sindexE hlt2 hb2;(·exact eG rfl);(·exact eG rfl))|((first|apply ex_move|apply ex_assign|apply ex_lss|apply ex_sneq|apply ex_andT)<;>(first|exact eT rfl|exact eG rfl))|((first|apply ex_neq|apply ex_slen)<;>(first|exact eT rfl|exact eC|exact eG rfl))|((apply ex_addn)<;>(first|exact eT rfl|exact eC|(constructor<;>omega)))|((apply ex_loadown)<;>(first|exact eT rfl|exact Bk.own InH.mem|rfl))))))
      refine ⟨j + 1, ⟨by omega, by omega, .inr ⟨by omega, ?_⟩⟩, by omega, (by (repeat (first|exact ESub.nil|apply ESub.cons rfl))), rfl, (by (repeat (exact HKeep.refl)))⟩
      rcases hjj with h | h
      · subst h; exact hi0
      · rw [← h.2, hd2]; simp [skipM, hb10]
  · have hj2 : j = t.size := by omega
    have hkj' : k < j := by omega
    have hnl : skipM false ((tx t).drop k) = skipM false ((tx t).drop j) := by
      rcases hjj with h | h
      · omega
      · rw [← h.2, skip_nl _ (.inl (drop_end (by omega)))]
    have hdead : decide ((j : Int) < (t.size : Int)) = false := decide_eq_false (by omega)
    repeat (first|(apply sp_cond_f;(·exact eT rfl);(·(rw [hdead];rfl)))|apply then_n|apply sp_seq|apply sp_region|apply spl_nil|apply then_e|apply block_here|apply block_past rfl|apply sp_exit|((first|apply spl_pure rfl|(apply spl_pure_g rfl;(·exact Gd.tt rfl rfl)));(·(first|(apply ex_index_dead hdead)|((first|apply ex_move|apply ex_lss|apply ex_sneq|apply ex_andT)<;>(first|exact eT rfl|exact eG rfl))|((first|apply ex_neq|apply ex_slen)<;>(first|exact eT rfl|exact eC|exact eG rfl))|((apply ex_loadown)<;>(first|exact eT rfl|exact Bk.own InH.mem|rfl))))))
    obtain ⟨x, hx, hm, rfl⟩ := hfin hkj' hnl
    exact ⟨_, hx, hm, (by (repeat (first|exact ESub.nil|apply ESub.cons rfl))), rfl, (by (repeat (exact HKeep.refl)))⟩
end Go.Proofs.Ytfdjlphfohnnnaa
/-
  Contracts: the iterator of tokens.
-/
namespace Go.Proofs.Ytfdjlphfohnnnaa
open Go.RowKit Go.Sy
set_option linter.unusedVariables false
set_option linter.unusedSimpArgs false
attribute [local irreducible] Calls thenQ blockQ retQ Spc Spl SplI Spq Ex Ev Evs Gd Upd ESub HKeep Res Res1 wlk effQ Rem SrcAt Split tabA clsA TH scopeQ

set_option maxRecDepth 100000 in
set_option maxHeartbeats 400000 in
theorem tokens2_c {Be : Nat} {w0 : World} {g1 g3 g4 l : Nat} {t : ByteArray} (ht : t.size < 1000000) {J : List Tk → Heap → Prop} {Jx : List Tk → Tk → Heap → Prop} {Je : Nat → Nat → Heap → Prop} (hY0 : Yld Be w0 l t J Jx Je)
    {H : Heap} (hJ : J [] H) {w : World} (hh : Hp Be w0 (H ++ TH t g1 g3 g4) w) :
    Calls Try.prog 74 #[.func (.yield l) #[] #[], .pointer (some ⟨g1, 0, none⟩), .pointer (some ⟨g4, 0, none⟩)] w (tokR Be w0 g1 g3 g4 t J Jx Je) := by
  refine sp_enterM (vs := [_, _, _]) Try.func74 rfl Try.ntmps74 rfl hh ?_
  have hlen := tx_len t
  clear hh
  repeat (first|apply sp_scope|apply sp_label|apply then_n|apply sp_seq|apply sp_region|apply spl_nil|apply sp_block|((apply spl_pure rfl);(·(((apply ex_assign)<;>(exact eC))))))
  refine sp_loop (X := Nat × List Tk × Heap) (fun x => [(4, true, .int .i64 (x.1 : Int)), (0, true, .func (.yield l) #[] #[]), (1, true, .pointer (some ⟨g1, 0, none⟩)), (2, true, .pointer (some ⟨g4, 0, none⟩))]) (fun _ => w0) (fun x => x.2.2 ++ TH t g1 g3 g4)
    (fun x => x.1 ≤ t.size ∧ J x.2.1 x.2.2 ∧ lexA t = (x.2.1 ++ (lexN ((tx t).drop x.1) x.1).1, (lexN ((tx t).drop x.1) x.1).2)) (fun x => t.size - x.1) (0, [], H) ⟨Nat.zero_le _, hJ, lexA_N t⟩ (by (repeat (first|exact ESub.nil|apply ESub.cons rfl))) rfl (by (repeat (exact HKeep.refl))) ?_
  clear hJ
  rintro ⟨k, pre, H⟩ ⟨hk, hJ, hL⟩
  replace hk : k ≤ t.size := hk
  replace hJ : J pre H := hJ
  replace hL : lexA t = (pre ++ (lexN ((tx t).drop k) k).1, (lexN ((tx t).drop k) k).2) := hL
  dsimp only
  by_cases hlt : k < t.size
  · obtain ⟨c, hb, hd⟩ := drop_at hlt
    cases h1 : isBlank c with
    | true => exact round_blank ht hY0 hk hJ hL hlt hb hd h1
    | false =>
      by_cases h35 : c.toNat = 35
      · exact round_hash ht hY0 hk hJ hL hlt hb hd h35
      · cases hlet : isLetter c with
        | true => exact round_letter ht hY0 hk hJ hL hlt hb hd hlet
        | false =>
          cases hdig : isDigit c with
          | true => exact round_digit ht hY0 hk hJ hL hlt hb hd hdig
          | false =>
            by_cases h34 : c.toNat = 34
            · exact round_quote ht hY0 hk hJ hL hlt hb hd h34
            · cases hsym : isSym c with
              | true => exact round_symbol ht hY0 hk hJ hL hlt hb hd hsym
              | false => exact round_other ht hY0 hk hJ hL hlt hb hd h1 h35 hlet hdig h34 hsym
  · repeat (first|apply scope_n|apply then_n|apply sp_seq|apply sp_region|apply spl_nil|apply then_e|apply block_here|(apply sp_cond_f;(·exact eT rfl);(·(exact decide_eq_false (by omega))))|apply sp_exit|((apply spl_pure rfl);(·(first|(apply ex_loadown (v:=.string t);(·exact eT rfl);(·exact Bk.own InH.mem);(·rfl))|((first|apply ex_move|apply ex_lss)<;>(exact eT rfl))|((apply ex_slen)<;>(exact eT rfl))))))
    have hL2 : lexA t = (pre, none) := by rw [hL, drop_end (by omega), lexN_nil rfl]; simp
    (apply endX_ok rfl;(·exact Res.none_))
    exact ⟨H, rfl, .inl ⟨by rw [hL2]; exact hJ, by rw [hL2]⟩, by (repeat (exact HKeep.refl))⟩
end Go.Proofs.Ytfdjlphfohnnnaa
/-
  Contracts: the lexer's Lex: the rounds of its loop.
-/
namespace Go.Proofs.Ytfdjlphfohnnnaa
open Go.RowKit Go.Sy
set_option linter.unusedVariables false
set_option linter.unusedSimpArgs false
def tkC (x : Tk) : Array Value := #[.int .i64 (x.kind : Int), .string x.text, .int .i64 (x.pos : Int)]
def flatT (l : List Tk) : List Value := l.flatMap fun x => (tkC x).toList
theorem flatT_len (l : List Tk) : (flatT l).length = l.length * 3 := flat_len fun _ _ => rfl
theorem flatT_snoc (l : List Tk) (x : Tk) : flatT (l ++ [x]) = flatT l ++ (tkC x).toList := by simp [flatT]
/-- The loop's own code. -/
def rangeOf (f : Func) : Code × Code := match f.body with | some (.seq _ (.seq _ (.seq _ (.seq (.seq _ (.block _ (.rangeFunc _ _ a b))) _)))) => (a, b) | _ => (.skip, .skip)
/-- Lex's own blocks: in the loop; after an error. -/
def LB (gA gB gC gO : Nat) (r : RowS) (l : List Tk) : Heap := (gO, .cells #[r.val l.length] 49 (0, 0)) :: (r.hp (flatT l) 53 ++ [(gC, .cells #[.int .i64 0] 3 (0, 0)), (gB, .cells #[.int .i64 0] 27 (0, 0)), (gA, .cells #[.slice none 0 0] 49 (0, 0))])
def LE (gA gB gC e a : Nat) : Heap := [(gC, .cells #[.int .i64 (a : Int)] 3 (0, 0)), (gB, .cells #[.int .i64 (e : Int)] 27 (0, 0)), (gA, .cells #[.slice none 0 0] 49 (0, 0))]
theorem LB_n {gA gB gC gO cap : Nat} {tl : List Value} {l : List Tk} {R : Heap} : LB gA gB gC gO ⟨none, cap, tl⟩ l ++ R = (gO, .cells #[.slice none l.length cap] 49 (0, 0)) :: (gC, .cells #[.int .i64 0] 3 (0, 0)) :: (gB, .cells #[.int .i64 0] 27 (0, 0)) :: (gA, .cells #[.slice none 0 0] 49 (0, 0)) :: R := rfl
theorem LB_s {gA gB gC gO g cap : Nat} {tl : List Value} {l : List Tk} {R : Heap} : LB gA gB gC gO ⟨some g, cap, tl⟩ l ++ R = (gO, .cells #[.slice (some ⟨g, 0, none⟩) l.length cap] 49 (0, 0)) :: (g, .cells (flatT l ++ tl).toArray 53 (0, 0)) :: (gC, .cells #[.int .i64 0] 3 (0, 0)) :: (gB, .cells #[.int .i64 0] 27 (0, 0)) :: (gA, .cells #[.slice none 0 0] 49 (0, 0)) :: R := rfl
theorem LE_e {gA gB gC e a : Nat} {R : Heap} : LE gA gB gC e a ++ R = (gC, .cells #[.int .i64 (a : Int)] 3 (0, 0)) :: (gB, .cells #[.int .i64 (e : Int)] 27 (0, 0)) :: (gA, .cells #[.slice none 0 0] 49 (0, 0)) :: R := rfl
def LOk (w0 : World) (r : RowS) (l : List Tk) : Prop := r.ok 3 l.length (flatT l) ∧ (∀ g, r.g = some g → w0.heap.size ≤ g) ∧ l.length ≤ 5000
theorem LOk.start {w0 : World} : LOk w0 RowS.start [] := ⟨⟨rfl, rfl, rfl⟩, fun g h => (by cases h), Nat.zero_le _⟩
def lenv (gA gB gC gO : Nat) : Env := [(2, true, .pointer (some ⟨gA, 0, none⟩)), (3, true, .pointer (some ⟨gB, 0, none⟩)), (4, true, .pointer (some ⟨gC, 0, none⟩)), (5, true, .pointer (some ⟨gO, 0, none⟩))]
attribute [local irreducible] Calls thenQ blockQ retQ Spc Spl SplI SpcM Spq Ex Ev Evs Gd Upd ESub HKeep Res Res1 wlk effQ Rem SrcAt Split tabA clsA TH scopeQ markQ rndQ asgQ

set_option maxRecDepth 100000 in
set_option maxHeartbeats 400000 in
theorem lex_roundT {Be : Nat} {w0 : World} {l gA gB gC gO d0 : Nat} {fn : FuncId} {tmps : Array Value} {pre : List Tk} {tk : Tk} {r : RowS} {R : Heap} (hA : w0.heap.size ≤ gA) (hB : w0.heap.size ≤ gB) (hC : w0.heap.size ≤ gC) (hO : w0.heap.size ≤ gO) (hr : LOk w0 r pre)
    {rec : Loop} (hrec : rec = { state := .ready, pending := none, fn, tmps, params := #[12], assign := (rangeOf Try.f26).1, body := (rangeOf Try.f26).2, defers := d0 }) :
    SpcM (some l) [] Try.prog 35 Be (rangeOf Try.f26).1 (asgQ Try.prog 35 Be l rec w0 (fun x : Bool × Heap => x.1) (fun x => x.2 ++ R)
      (fun x => (x.1 = true → ∃ r', LOk w0 r' (pre ++ [tk]) ∧ x.2 = (l, .loop rec) :: (d0, .deferred (some [])) :: LB gA gB gC gO r' (pre ++ [tk])) ∧ (x.1 = false → pre.length = 5000 ∧ x.2 = (l, .loop { rec with state := .done, pending := some .ret }) :: (d0, .deferred (some [])) :: LE gA gB gC 7 tk.pos)))
      ((12, true, fv tk.kind tk.text tk.pos 0) :: lenv gA gB gC gO) w0 ((l, .loop rec) :: (d0, .deferred (some [])) :: (LB gA gB gC gO r pre ++ R)) := by
  -- Try.func26 rfl 
  unfold fv lenv
  have hl1 : (pre ++ [tk]).length = pre.length + 1 := by simp
  have hone : ∀ u ∈ (tkC tk).toList, u.oneCell' = true := fun u hu => by simp [tkC] at hu; rcases hu with rfl | rfl | rfl <;> rfl
  repeat (first|apply spm_region rfl|apply spl_nil|(apply spl_alloc rfl;intro _ _)|(apply spl_stores;(·exact eT rfl);(·exact eT rfl);(·(repeat (exact Upd.here)));(·(rfl));(·(rfl));(·exact ones_of_all rfl)))
  rename_i g6 hg6
  refine asg_n ((g6, .cells (fcells tk.kind tk.text tk.pos 0) 93 (0, 0)) :: (d0, .deferred (some [])) :: (LB gA gB gC gO r pre ++ R)) (List.Perm.swap _ _ _) ?_
  subst hrec
  dsimp only
  rcases r with ⟨_ | g, cap, tl⟩
  · rw [LB_n]
    obtain ⟨⟨h0, rfl, hb0⟩, -, hle⟩ := hr
    have h5 : ¬ (pre.length : Int) = 5000 := by omega
    repeat (first|apply spm_seq|apply spm_region rfl|apply spm_block|apply spm_skip|(apply spm_cond_f;(·exact eT rfl);(·(first|exact decide_eq_false (by omega)|rfl)))|apply then_n|apply block_n|apply spl_nil|((apply spl_pure rfl);(·(first|(apply ex_loadpartE (cs':=tkC tk);(·exact eT rfl);(·exact Bk.own InH.mem);(·rfl);(·rfl))|((first|apply ex_assign|apply ex_fieldAddr'|apply ex_seql|apply ex_sneq|apply ex_len)<;>(exact eT rfl))|((first|apply ex_eql|apply ex_neq)<;>(first|exact eT rfl|exact eC))|(apply ex_loadown<;>(first|exact eT rfl|exact Bk.own InH.mem|rfl)))))|(apply spl_store1;(·exact eT rfl);(·exact eT rfl);(·rfl);(·(repeat (first|exact Upd.here|apply Upd.there)));(·rfl))|(apply spl_buildSlice rfl;(·rfl);(·(repeat (first|exact eN|(apply eS;(·exact eT rfl)))));(·rfl);(·rfl);(·rfl);intro _ _)|(refine spl_append_grow (olds := []) (news := (tkC tk).toList) (m := 1) (by (exact eT rfl)) (by (exact eT rfl)) (fun w' hh => CellsAt.nil) (by rw [h0]; rfl) (fun w' hh => SrcAt.slice (CellsAt.own hh.ownI (fun j u hj => by rw [List.getElem?_toArray]; exact hj)) rfl rfl hone) (by omega) (by omega) rfl rfl rfl rfl ?_;intro gN capN tN hgN hcN hlN))
    refine rnd_n _ (true, (l, _) :: (d0, _) :: LB gA gB gC gO ⟨some gN, capN, tN⟩ (pre ++ [tk])) ((List.Perm.cons _ (List.Perm.swap _ _ _)).trans (List.Perm.swap _ _ _)) ⟨fun _ => ⟨⟨some gN, capN, tN⟩, ⟨⟨?_, ?_, ?_⟩, ?_, ?_⟩, rfl⟩, fun h => (by cases h)⟩ rfl ?_
    · rw [hl1]; exact hcN
    · show (flatT (pre ++ [tk]) ++ tN).length = capN * 3
      rw [flatT_snoc]; rw [hb0]
      exact hlN
    · rw [flatT_len]
    · rintro g h; cases h; exact hgN
    · rw [hl1]; omega
    · show HKeep w0 ((l, _) :: (d0, _) :: (LB gA gB gC gO ⟨some gN, capN, tN⟩ (pre ++ [tk]) ++ R)) _
      rw [LB_s, hl1, flatT_snoc]; rw [hb0]
      (repeat (first|exact HKeep.refl|apply HKeep.keep|(apply HKeep.pick;(·(repeat (first|exact Rem.here|apply Rem.there))))|apply HKeep.drop (by first|assumption|omega)))
  · rw [LB_s]
    obtain ⟨⟨h0, h1, h2⟩, h3, hle⟩ := hr
    replace h3 := h3 g rfl
    by_cases h5 : pre.length = 5000
    · have h5' : (pre.length : Int) = 5000 := by omega
      repeat (first|apply spm_seq|apply spm_region rfl|apply spm_block|((apply spm_cond_t);(·exact eT rfl);(·(exact decide_eq_true (by omega))))|(apply spm_cond_f;(·exact eT rfl);(·(rfl)))|apply then_n|apply spl_nil|((apply spl_pure rfl);(·(first|((first|apply ex_assign|apply ex_fieldAddr'|apply ex_seql|apply ex_sneq|apply ex_len)<;>(exact eT rfl))|((first|apply ex_eql|apply ex_neq)<;>(first|exact eT rfl|exact eC))|(apply ex_loadown<;>(first|exact eT rfl|exact Bk.own InH.mem|rfl))))))
      refine spm_drawn [(0, true), (1, true), (2, true), (3, false), (4, false), (5, false)] 6 _ mixed (by kernel_rfl) rfl (HKeep.keep (HKeep.keep (HKeep.keep (HKeep.keep (HKeep.keep (HKeep.drop hC (HKeep.drop hB (HKeep.drop hA HKeep.refl)))))))) ?_
      repeat (first|apply spm_ret|apply then_n|apply spl_nil|apply then_r|apply block_r|((apply wlk_read rfl rfl);(·(first|((apply ex_fieldAddr')<;>(exact eT rfl))|(apply ex_loadown<;>(first|exact eT rfl|exact Bk.own InH.mem|rfl)))))|(apply spl_store1;(·exact eT rfl);(·(first|exact eT rfl|exact eC));(·rfl);(·(repeat (first|exact Upd.here|apply Upd.there)));(·rfl))|(apply effq;(·(intro h_;((repeat (first|exact HKeep.refl|apply HKeep.keep|apply HKeep.drop (by first|assumption|omega)))))))|apply wlk_nil|apply wlk_eff rfl)
      refine rnd_r _ (false, (l, _) :: (d0, _) :: LE gA gB gC 7 tk.pos) (List.Perm.refl _) ⟨fun h => (by cases h), fun _ => ⟨h5, rfl⟩⟩ rfl ?_
      show HKeep w0 ((l, _) :: (d0, _) :: (LE gA gB gC 7 tk.pos ++ R)) _
      rw [LE_e]
      (repeat (first|exact HKeep.refl|apply HKeep.keep|(apply HKeep.pick;(·(repeat (first|exact Rem.here|apply Rem.there))))|apply HKeep.drop (by first|assumption|omega)))
    · have h5' : ¬ (pre.length : Int) = 5000 := by omega
      repeat (first|apply spm_seq|apply spm_region rfl|apply spm_block|apply spm_skip|(apply spm_cond_f;(·exact eT rfl);(·(first|exact decide_eq_false (by omega)|rfl)))|apply then_n|apply block_n|apply spl_nil|((apply spl_pure rfl);(·(first|(apply ex_loadpartE (cs':=tkC tk);(·exact eT rfl);(·exact Bk.own InH.mem);(·rfl);(·rfl))|((first|apply ex_assign|apply ex_fieldAddr'|apply ex_seql|apply ex_sneq|apply ex_len)<;>(exact eT rfl))|((first|apply ex_eql|apply ex_neq)<;>(first|exact eT rfl|exact eC))|(apply ex_loadown<;>(first|exact eT rfl|exact Bk.own InH.mem|rfl)))))|(apply spl_store1;(·exact eT rfl);(·exact eT rfl);(·rfl);(·(repeat (first|exact Upd.here|apply Upd.there)));(·rfl))|(apply spl_buildSlice rfl;(·rfl);(·(repeat (first|exact eN|(apply eS;(·exact eT rfl)))));(·rfl);(·rfl);(·rfl);intro _ _)|(refine spl_append_own (xs := flatT pre) (tail := tl) (news := (tkC tk).toList) (m := 1) (by (exact eT rfl)) (by (exact eT rfl)) (by (repeat (first|exact Rem.here|apply Rem.there))) (by assumption) h2 h1 h0 (fun w' hh => SrcAt.slice (CellsAt.own hh.ownI (fun j u hj => by rw [List.getElem?_toArray]; exact hj)) rfl rfl hone) rfl (by omega) rfl rfl rfl rfl ?_;intro gN capN tN hgN hcN hlN))
      refine rnd_n _ (true, (l, _) :: (d0, _) :: LB gA gB gC gO ⟨some gN, capN, tN⟩ (pre ++ [tk])) ((List.Perm.cons _ (List.Perm.swap _ _ _)).trans (List.Perm.swap _ _ _)) ⟨fun _ => ⟨⟨some gN, capN, tN⟩, ⟨⟨?_, ?_, ?_⟩, ?_, ?_⟩, rfl⟩, fun h => (by cases h)⟩ rfl ?_
      · rw [hl1]; exact hcN
      · show (flatT (pre ++ [tk]) ++ tN).length = capN * 3
        rw [flatT_snoc]; skip
        exact hlN
      · rw [flatT_len]
      · rintro g h; cases h; exact hgN
      · rw [hl1]; omega
      · show HKeep w0 ((l, _) :: (d0, _) :: (LB gA gB gC gO ⟨some gN, capN, tN⟩ (pre ++ [tk]) ++ R)) _
        rw [LB_s, hl1, flatT_snoc]; skip
        (repeat (first|exact HKeep.refl|apply HKeep.keep|(apply HKeep.pick;(·(repeat (first|exact Rem.here|apply Rem.there))))|apply HKeep.drop (by first|assumption|omega)))

set_option maxRecDepth 100000 in
set_option maxHeartbeats 400000 in
theorem lex_roundE {Be : Nat} {w0 : World} {l gA gB gC gO d0 : Nat} {fn : FuncId} {tmps : Array Value} {pre : List Tk} {k a e : Nat} {s : ByteArray} (he : e ≠ 0) {r : RowS} {R : Heap} (hA : w0.heap.size ≤ gA) (hB : w0.heap.size ≤ gB) (hC : w0.heap.size ≤ gC) (hO : w0.heap.size ≤ gO) (hr : LOk w0 r pre)
    {rec : Loop} (hrec : rec = { state := .ready, pending := none, fn, tmps, params := #[12], assign := (rangeOf Try.f26).1, body := (rangeOf Try.f26).2, defers := d0 }) :
    SpcM (some l) [] Try.prog 35 Be (rangeOf Try.f26).1 (asgQ Try.prog 35 Be l rec w0 (fun x : Heap => false) (fun x => x ++ R)
      (fun x => x = (l, .loop { rec with state := .done, pending := some .ret }) :: (d0, .deferred (some [])) :: LE gA gB gC e a))
      ((12, true, fv k s a e) :: lenv gA gB gC gO) w0 ((l, .loop rec) :: (d0, .deferred (some [])) :: (LB gA gB gC gO r pre ++ R)) := by
  -- Try.func26 rfl 
  unfold fv lenv
  have hcond : (!decide ((e : Int) = 0)) = true := by simp; omega
  repeat (first|apply spm_region rfl|apply spl_nil|(apply spl_alloc rfl;intro _ _)|(apply spl_stores;(·exact eT rfl);(·exact eT rfl);(·(repeat (exact Upd.here)));(·(rfl));(·(rfl));(·exact ones_of_all rfl)))
  rename_i g6 hg6
  refine asg_n ((g6, .cells (fcells k s a e) 93 (0, 0)) :: (d0, .deferred (some [])) :: (LB gA gB gC gO r pre ++ R)) (List.Perm.swap _ _ _) ?_
  subst hrec
  dsimp only
  rcases r with ⟨_ | g, cap, tl⟩
  · rw [LB_n]
    repeat (first|apply spm_seq|apply spm_region rfl|apply spm_block|(apply spm_cond_t;(·exact eT rfl);(·exact hcond))|apply then_n|apply spl_nil|((apply spl_pure rfl);(·(first|((first|apply ex_assign|apply ex_fieldAddr'|apply ex_sneq)<;>(exact eT rfl))|((apply ex_neq)<;>(first|exact eT rfl|exact eC))|(apply ex_loadown<;>(first|exact eT rfl|exact Bk.own InH.mem|rfl))))))
    refine spm_drawn [(0, true), (1, true), (2, true), (3, true), (4, true), (5, false), (6, false), (7, false)] 8 _ mixed (by kernel_rfl) rfl (HKeep.keep (HKeep.keep (HKeep.keep (HKeep.keep (HKeep.drop hC (HKeep.drop hB (HKeep.drop hA HKeep.refl))))))) ?_
    repeat (first|apply spm_ret|apply then_n|apply spl_nil|apply then_r|apply block_r|((apply wlk_read rfl rfl);(·(first|((apply ex_fieldAddr')<;>(exact eT rfl))|(apply ex_loadown<;>(first|exact eT rfl|exact Bk.own InH.mem|rfl)))))|(apply spl_store1;(·exact eT rfl);(·(first|exact eT rfl|exact eC));(·rfl);(·(repeat (first|exact Upd.here|apply Upd.there)));(·rfl))|(apply effq;(·(intro h_;((repeat (first|exact HKeep.refl|apply HKeep.keep|apply HKeep.drop (by first|assumption|omega)))))))|apply wlk_nil|apply wlk_eff rfl)
    refine rnd_r _ ((l, _) :: (d0, _) :: LE gA gB gC e a) (List.Perm.refl _) rfl rfl ?_
    show HKeep w0 ((l, _) :: (d0, _) :: (LE gA gB gC e a ++ R)) _
    rw [LE_e]
    (repeat (first|exact HKeep.refl|apply HKeep.keep|(apply HKeep.pick;(·(repeat (first|exact Rem.here|apply Rem.there))))|apply HKeep.drop (by first|assumption|omega)))
  · rw [LB_s]
    obtain ⟨-, h3, -⟩ := hr
    replace h3 := h3 g rfl
    repeat (first|apply spm_seq|apply spm_region rfl|apply spm_block|(apply spm_cond_t;(·exact eT rfl);(·exact hcond))|apply then_n|apply spl_nil|((apply spl_pure rfl);(·(first|((first|apply ex_assign|apply ex_fieldAddr'|apply ex_sneq)<;>(exact eT rfl))|((apply ex_neq)<;>(first|exact eT rfl|exact eC))|(apply ex_loadown<;>(first|exact eT rfl|exact Bk.own InH.mem|rfl))))))
    refine spm_drawn [(0, true), (1, true), (2, true), (3, true), (4, true), (5, false), (6, false), (7, false)] 8 _ mixed (by kernel_rfl) rfl (HKeep.keep (HKeep.keep (HKeep.keep (HKeep.keep (HKeep.keep (HKeep.drop hC (HKeep.drop hB (HKeep.drop hA HKeep.refl)))))))) ?_
    repeat (first|apply spm_ret|apply then_n|apply spl_nil|apply then_r|apply block_r|((apply wlk_read rfl rfl);(·(first|((apply ex_fieldAddr')<;>(exact eT rfl))|(apply ex_loadown<;>(first|exact eT rfl|exact Bk.own InH.mem|rfl)))))|(apply spl_store1;(·exact eT rfl);(·(first|exact eT rfl|exact eC));(·rfl);(·(repeat (first|exact Upd.here|apply Upd.there)));(·rfl))|(apply effq;(·(intro h_;((repeat (first|exact HKeep.refl|apply HKeep.keep|apply HKeep.drop (by first|assumption|omega)))))))|apply wlk_nil|apply wlk_eff rfl)
    refine rnd_r _ ((l, _) :: (d0, _) :: LE gA gB gC e a) (List.Perm.refl _) rfl rfl ?_
    show HKeep w0 ((l, _) :: (d0, _) :: (LE gA gB gC e a ++ R)) _
    rw [LE_e]
    (repeat (first|exact HKeep.refl|apply HKeep.keep|(apply HKeep.pick;(·(repeat (first|exact Rem.here|apply Rem.there))))|apply HKeep.drop (by first|assumption|omega)))
end Go.Proofs.Ytfdjlphfohnnnaa
/-
  Contracts: the lexer's Lex.
-/
namespace Go.Proofs.Ytfdjlphfohnnnaa
open Go.RowKit Go.Sy
set_option linter.unusedVariables false
set_option linter.unusedSimpArgs false
theorem lexR_big {t : ByteArray} (h : 20000 < t.size) : lexR t = ([], 7, -1) := by unfold lexR; rw [if_pos h]
theorem lexR_done {t : ByteArray} (h : ¬ 20000 < t.size) (h2 : (lexA t).1.length ≤ 5000) (h3 : (lexA t).2 = none) : lexR t = ((lexA t).1, 0, 0) := by
  unfold lexR; rw [if_neg h, List.getElem?_eq_none h2, h3]
theorem lexR_err {t : ByteArray} {e a : Nat} (h : ¬ 20000 < t.size) (h2 : (lexA t).1.length ≤ 5000) (h3 : (lexA t).2 = some (e, a)) : lexR t = ([], (e : Int), (a : Int)) := by
  unfold lexR; rw [if_neg h, List.getElem?_eq_none h2, h3]
theorem lexR_lim {t : ByteArray} {tk : Tk} {pre q : List Tk} (h : ¬ 20000 < t.size) (h2 : (lexA t).1 = pre ++ tk :: q) (h3 : pre.length = 5000) : lexR t = ([], 7, (tk.pos : Int)) := by
  unfold lexR; rw [if_neg h, h2, ← h3, List.getElem?_append_right (Nat.le_refl _), Nat.sub_self]
  rfl
theorem HKeep.dropAll {w0 : World} {A : Heap} (h : ∀ p ∈ A, w0.heap.size ≤ p.1) : HKeep w0 [] A := ⟨A, by simp, h⟩
/-- How the loop ended. -/
def lexI (w0 : World) (t : ByteArray) (x : Option (Nat × Nat) × RowS) : Prop := match x.1 with
  | none => LOk w0 x.2 (lexA t).1 ∧ (lexA t).2 = none
  | some p => lexR t = ([], (p.1 : Int), (p.2 : Int))
attribute [local irreducible] Calls thenQ blockQ retQ Spc Spl SplI SpcM Spq Ex Ev Evs Gd Upd ESub HKeep Res Res1 wlk effQ Rem SrcAt Split tabA clsA TH scopeQ markQ rndQ asgQ

set_option maxRecDepth 100000 in
set_option maxHeartbeats 400000 in
theorem lex_c {w : World} (t : ByteArray) (ht : t.size < 1000000000) : Calls Try.prog 26 #[.string t] w (RetH w (fun x : RowS => .tuple #[x.val (lexR t).1.length, .int .i64 (lexR t).2.1, .int .i64 (lexR t).2.2]) (fun x => x.hp (flatT (lexR t).1) 53) (fun x => x.ok 3 (lexR t).1.length (flatT (lexR t).1))) := by
  refine sp_enterD (vs := [_]) Try.func26 rfl Try.ntmps26 rfl ?_
  have hlen := tx_len t
  by_cases hbig : 20000 < t.size
  · skip
    repeat (first|apply spm_seq|apply spm_region rfl|apply spm_ret|((apply spm_cond_t);(·exact eT rfl);(·(exact decide_eq_true (by omega))))|apply then_n|apply spl_nil|apply then_r|((apply spl_pure rfl);(·(first|((first|apply ex_move|apply ex_gtr)<;>(first|exact eT rfl|exact eC))|((apply ex_slen)<;>(exact eT rfl)))))|(apply spl_alloc rfl;intro _ _)|(apply spl_store1;(·exact eT rfl);(·exact eC);(·rfl);(·(repeat (first|exact Upd.here|apply Upd.there)));(·rfl)))
    refine markH_none rfl (by ((apply Res.ofThree<;>((apply Res1.cell1;(·rfl);(·exact InH.mem);(·rfl)))))) ?_
    rw [lexR_big hbig]
    exact ⟨RowS.start, rfl, ⟨rfl, rfl, rfl⟩, by (repeat (first|exact HKeep.refl|apply HKeep.drop (by first|assumption|omega)))⟩
  · skip
    repeat (first|(apply spl_callh rfl;(·(repeat (first|exact eN|(apply eS;(·exact eT rfl)))));(·exact fun w' hh => tokens_c t);(rintro ⟨g1, g3, g4⟩ - hfr))|apply spm_seq|apply spm_region rfl|apply spm_block|apply spm_skip|(apply spm_cond_f;(·exact eT rfl);(·(exact decide_eq_false (by omega))))|apply then_n|apply spl_nil|((apply spl_pure rfl);(·(first|((first|apply ex_move|apply ex_gtr)<;>(first|exact eT rfl|exact eC))|((apply ex_slen)<;>(exact eT rfl)))))|(apply spl_alloc rfl;intro _ _))
    rename_i gA hA gB hB gC hC gO hO
    have hH : HKeep w ((gO, .cells #[.slice none 0 0] 49 (0, 0)) :: (gC, .cells #[.int .i64 0] 3 (0, 0)) :: (gB, .cells #[.int .i64 0] 27 (0, 0)) :: (gA, .cells #[.slice none 0 0] 49 (0, 0)) :: TH t g1 g3 g4) (TH t g1 g3 g4 ++ [(gO, .cells #[.slice none 0 0] 49 (0, 0)), (gC, .cells #[.int .i64 0] 3 (0, 0)), (gB, .cells #[.int .i64 0] 27 (0, 0)), (gA, .cells #[.slice none 0 0] 49 (0, 0))]) :=
      HKeep.perm List.perm_append_comm
    refine SpcM.sub ?_ ESub.refl hH
    refine spm_rangeFunc (gf := 74) (caps := [.pointer (some ⟨g1, 0, none⟩), .pointer (some ⟨g4, 0, none⟩)]) (X := Option (Nat × Nat) × RowS) (V := fun _ => .tuple #[]) (st := fun x => match x.1 with | none => .ready | some _ => .done) (pend := fun x => match x.1 with | none => none | some _ => some .ret)
      (HX := fun x => match x.1 with | none => LB gA gB gC gO x.2 (lexA t).1 ++ TH t g1 g3 g4 | some p => LE gA gB gC p.1 p.2 ++ TH t g1 g3 g4) (I := lexI w t) (by (exact eT rfl)) ?_ ?_
    · intro fn tmps l d0 hfr hl hd0 w1 hw1
      have hfr' : Fr 35 (lenv gA gB gC gO) { tmps := tmps, defers := [] } := hfr.sub (by unfold lenv; (repeat (first|exact ESub.nil|apply ESub.cons rfl)))
      obtain ⟨rec, hrec⟩ : ∃ rec : Loop, rec = { state := .ready, pending := none, fn, tmps, params := #[12], assign := (rangeOf Try.f26).1, body := (rangeOf Try.f26).2, defers := d0 } := ⟨_, rfl⟩
      have hst : rec.state = .ready := by rw [hrec]
      have hps : rec.params = #[12] := by rw [hrec]
      have htm : rec.tmps = tmps := by rw [hrec]
      have has : rec.assign = (rangeOf Try.f26).1 := by rw [hrec]
      have hY : Yld w.heap.size w l t (fun pre x => ∃ r, LOk w r pre ∧ x = (l, .loop rec) :: (d0, .deferred (some [])) :: LB gA gB gC gO r pre) (fun pre tk x => pre.length = 5000 ∧ x = (l, .loop { rec with state := .done, pending := some .ret }) :: (d0, .deferred (some [])) :: LE gA gB gC 7 tk.pos)
          (fun e a x => (lexA t).1.length ≤ 5000 ∧ x = (l, .loop { rec with state := .done, pending := some .ret }) :: (d0, .deferred (some [])) :: LE gA gB gC e a) := by
        refine ⟨fun pre tk H R hJ _ w' hw' => ?_, fun pre k s a e H R hJ hL he w' hw' => ?_⟩
        · obtain ⟨r, hr, rfl⟩ := hJ
          have h1 := lex_roundT (Be := w.heap.size) (l := l) (d0 := d0) (tk := tk) (R := R) hA hB hC hO hr hrec
          rw [← has] at h1
          exact yield_round hst hps (by rw [htm]; exact hfr') rfl h1 w' hw'
        · obtain ⟨r, hr, rfl⟩ := hJ
          have h1 := lex_roundE (Be := w.heap.size) (l := l) (d0 := d0) (k := k) (a := a) (s := s) (R := R) he hA hB hC hO hr hrec
          rw [← has] at h1
          have hpre : (lexA t).1 = pre := by rw [hL]
          have h2 := yield_round hst hps (by rw [htm]; exact hfr') rfl h1 w' hw'
          obtain ⟨fn', tmps', as', bo', h3, h4⟩ := h2
          refine ⟨fn', tmps', as', bo', h3, h4.mono ?_⟩
          rintro en w2 ⟨x, hx, hI, hp⟩
          exact ⟨x, hx, ⟨by rw [hpre]; exact hr.2.2, hI⟩, hp⟩
      have hc := tokens2_c (g1 := g1) (g3 := g3) (g4 := g4) (H := (l, .loop rec) :: (d0, .deferred (some [])) :: LB gA gB gC gO RowS.start []) (by omega) hY ⟨RowS.start, LOk.start, rfl⟩ (w := w1) (by rw [hrec]; exact hw1)
      refine hc.mono ?_
      rintro en w2 ⟨x, rfl, hI, hp⟩
      rcases hI with ⟨⟨r, hr, rfl⟩, hn⟩ | ⟨pre, tk, q, hq, h5, rfl⟩ | ⟨e, a, hea, h5, rfl⟩
      · refine ⟨(none, r), rfl, ⟨hr, hn⟩, ?_⟩
        rw [hrec] at hp
        exact hp
      · refine ⟨(some (7, tk.pos), RowS.start), rfl, lexR_lim hbig hq h5, ?_⟩
        rw [hrec] at hp
        exact hp
      · refine ⟨(some (e, a), RowS.start), rfl, lexR_err hbig h5 hea, ?_⟩
        rw [hrec] at hp
        exact hp
    · rintro d0 ⟨o, r⟩ hI hd0
      cases o with
      | none =>
        obtain ⟨⟨hok, hrf, hle⟩, hn⟩ := hI
        refine ⟨by simp, ?_⟩
        have hR := lexR_done hbig hle hn
        dsimp only
        rcases r with ⟨_ | g, cap, tl⟩
        · rw [LB_n]
          repeat (first|apply then_n|apply spm_seq|apply spm_region rfl|apply spm_ret|apply block_n|apply spl_nil|((apply spl_pure rfl);(·((apply ex_loadown<;>(first|exact eT rfl|exact Bk.own InH.mem|rfl)))))|(apply spl_store1;(·exact eT rfl);(·(first|exact eT rfl|exact eC));(·rfl);(·(repeat (first|exact Upd.here|apply Upd.there)));(·rfl)))
          refine markH_one rfl Upd.here (by ((apply Res.ofThree<;>((apply Res1.cell1;(·rfl);(·exact InH.mem);(·rfl)))))) ?_
          rw [hR]
          exact ⟨⟨none, cap, tl⟩, rfl, hok, HKeep.drop hd0 (HKeep.drop hO (HKeep.drop hC (HKeep.drop hB (HKeep.drop hA (HKeep.dropAll hfr)))))⟩
        · rw [LB_s]
          repeat (first|apply then_n|apply spm_seq|apply spm_region rfl|apply spm_ret|apply block_n|apply spl_nil|((apply spl_pure rfl);(·((apply ex_loadown<;>(first|exact eT rfl|exact Bk.own InH.mem|rfl)))))|(apply spl_store1;(·exact eT rfl);(·(first|exact eT rfl|exact eC));(·rfl);(·(repeat (first|exact Upd.here|apply Upd.there)));(·rfl)))
          refine markH_one rfl Upd.here (by ((apply Res.ofThree<;>((apply Res1.cell1;(·rfl);(·exact InH.mem);(·rfl)))))) ?_
          rw [hR]
          exact ⟨⟨some g, cap, tl⟩, rfl, hok, HKeep.drop hd0 (HKeep.drop hO (HKeep.keep (HKeep.drop hC (HKeep.drop hB (HKeep.drop hA (HKeep.dropAll hfr))))))⟩
      | some p =>
        refine ⟨by simp, ?_⟩
        have hR : lexR t = ([], (p.1 : Int), (p.2 : Int)) := hI
        dsimp only
        rw [LE_e]
        repeat (first|apply then_r|apply block_r)
        refine markH_one rfl Upd.here (by ((apply Res.ofThree<;>((apply Res1.cell1;(·rfl);(·exact InH.mem);(·rfl)))))) ?_
        rw [hR]
        exact ⟨RowS.start, rfl, ⟨rfl, rfl, rfl⟩, HKeep.drop hd0 (HKeep.drop hC (HKeep.drop hB (HKeep.drop hA (HKeep.dropAll hfr))))⟩
end Go.Proofs.Ytfdjlphfohnnnaa
/-
  Rules for reading the tokens that Lex hands back, and for comparing them; Lex at a text whose tokens are known.
-/
namespace Go.Proofs.Ytfdjlphfohnnnaa
open Go.RowKit Go.Sy
set_option linter.unusedVariables false
set_option linter.unusedSimpArgs false
def tkEq (s t : Tk) : Bool := decide ((s.kind : Int) = t.kind) && (decide (s.text = t.text) && decide ((s.pos : Int) = t.pos))
theorem tkEq_run (s t : Tk) (w : World) : (Op.equalIn 10000 53 (.agg (tkC s)) (.agg (tkC t))).run Try.prog w = .ok (tkEq s t) w := by
  rw [run_equalIn_struct w 9999 53 _ _ (by kernel_rfl) (by kernel_rfl)]
  simp only [Program.fieldsOf, Try.underlying53]
  rw [eqFields_int (t := 3) (a := (s.kind : Int)) (b := (t.kind : Int)) (by decide) rfl rfl rfl, eqFields_str (t := 9) (a := s.text) (b := t.text) (by decide) rfl rfl rfl, eqFields_int (t := 3) (a := (s.pos : Int)) (b := (t.pos : Int)) (by decide) rfl rfl rfl, eqFields_nil]
  unfold tkEq
  by_cases h1 : (s.kind : Int) = t.kind <;> by_cases h2 : s.text = t.text <;> by_cases h3 : (s.pos : Int) = t.pos <;> simp [h1, h2, h3]
theorem tkEq_refl (s : Tk) : tkEq s s = true := by simp [tkEq]
theorem tkEq_iff (s t : Tk) : tkEq s t = true ↔ s = t := by
  constructor
  · intro h
    simp only [tkEq, Bool.and_eq_true, decide_eq_true_iff] at h
    obtain ⟨h1, h2, h3⟩ := h
    cases s; cases t
    simp only at h1 h2 h3
    congr 1
    · omega
    · omega
  · rintro rfl; exact tkEq_refl _
/-- The tokens that Lex has handed back, as they are read. -/
theorem row_rd {Be : Nat} {w0 : World} {x : RowS} {l : List Tk} (hok : x.ok 3 l.length (flatT l)) (hn : l.length ≤ 9223372036854775807) {H : Heap} (hs : ∀ p ∈ x.hp (flatT l) 53, p ∈ H) (w : World) (hh : Hp Be w0 H w) :
    RdS w w.heap.size 3 tkC (x.g.map fun g => ⟨g, 0, none⟩) l.length l := by
  rcases x with ⟨_ | g, cap, tl⟩
  · obtain ⟨h, -, -⟩ := hok
    cases l with
    | nil => exact RdS.none_
    | cons a l => simp at h
  · have hm := hs (g, .cells (flatT l ++ tl).toArray 53 (0, 0)) (.head _)
    exact RdS.ofRow (hh.own _ hm) (hh.lt hm) rfl hn (fun _ _ => rfl)
section
variable {P : Program} {Be : Nat} {w0 : World} {H : Heap} {G : Bool} {e : Env} {ty : TypeId} {α : Type} {sz : Nat} {C : α → Array Value}
theorem ex_loadelemH {t : TypeId} {x : Operand} {ad : Addr} {i n : Nat} {xs : List α} {y : α} (h : Ev G e x (.pointer (some (ad.add (i * sz))))) {A : Option Addr} (hr : ∀ w, Hp Be w0 H w → RdS w w.heap.size sz C A n xs) (hA : A = some ad) (hsz : (C y).size = sz) (hy : xs[i]? = some y) [TAgg P t] [hs : TSize P t sz] : Ex P Be w0 H G e (.load t x) ty (.agg (C y)) := by
  subst hA
  refine ex_loadn h hsz fun w hh j v hj => ?_
  obtain ⟨ad', e', hb, hsz, hc⟩ := (hr w hh).elems i y hy
  cases e'
  exact hc j v hj
theorem ex_loadfieldH {t : TypeId} {x : Operand} {ad : Addr} {i k n : Nat} {xs : List α} {y : α} {v : Value} (h : Ev G e x (.pointer (some ((ad.add (i * sz)).add k)))) {A : Option Addr} (hr : ∀ w, Hp Be w0 H w → RdS w w.heap.size sz C A n xs) (hA : A = some ad) (hy : xs[i]? = some y) (hv : (C y)[k]? = some v) [TCell P t] : Ex P Be w0 H G e (.load t x) ty v := by
  subst hA
  refine ex_load1 h fun w hh => ?_
  obtain ⟨ad', e', hb, hsz, hc⟩ := (hr w hh).elems i y hy
  cases e'
  exact hc k v hv
end
attribute [local irreducible] Calls thenQ blockQ retQ Spc Spl SplI SpcM Spq Ex Ev Evs Gd Upd ESub HKeep Res Res1 wlk effQ Rem SrcAt Split lexR
theorem ex_tkeql {Be : Nat} {w0 : World} {H : Heap} {G : Bool} {e : Env} {ty t' : TypeId} {x y : Operand} {s t : Tk} (h1 : Ev G e x (.agg (tkC s))) (h2 : Ev G e y (.agg (tkC t))) : Ex Try.prog Be w0 H G e (.binOp .eql 53 x y t') ty (.bool (tkEq s t)) := ex_aggeql h1 h2 (by kernel_rfl) (tkEq_run s t)
theorem ex_tkeqT {Be : Nat} {w0 : World} {H : Heap} {G : Bool} {e : Env} {ty t' : TypeId} {x y : Operand} {s t : Tk} (h1 : Ev G e x (.agg (tkC s))) (h2 : Ev G e y (.agg (tkC t))) (h : tkEq s t = true) : Ex Try.prog Be w0 H G e (.binOp .eql 53 x y t') ty (.bool true) := by
  have := ex_tkeql (Be := Be) (w0 := w0) (H := H) (ty := ty) (t' := t') h1 h2
  rwa [h] at this
theorem lex_e {w : World} {t : ByteArray} {l : List Tk} {e n : Int} (hR : lexR t = (l, e, n)) (ht : t.size < 1000000000) : Calls Try.prog 26 #[.string t] w (RetH w (fun x : RowS => .tuple #[x.val l.length, .int .i64 e, .int .i64 n]) (fun x => x.hp (flatT l) 53) (fun x => x.ok 3 l.length (flatT l))) := by
  have := lex_c (w := w) t ht
  rw [hR] at this
  exact this
end Go.Proofs.Ytfdjlphfohnnnaa
/-
  Contracts: the sizes that the laws ask for; the place of a kind.
-/
namespace Go.Proofs.Ytfdjlphfohnnnaa
open Go.RowKit Go.Sy
set_option linter.unusedVariables false
set_option linter.unusedSimpArgs false
def smallB (x : ByteArray) : Bool := !decide ((100 : Int) < (x.size : Int))
def fewS (s : SlotR) : Bool := !(decide ((100 : Int) < (s.name.size : Int)) || decide ((15 : Int) < (s.ks.n : Int))) && s.kinds.all smallB
def fewK (k : KindR) : Bool := !(decide ((100 : Int) < (k.name.size : Int)) || decide ((15 : Int) < (k.ss.n : Int))) && k.slots.all fewS
def fewB (ks : List KindR) : Bool := !decide ((65 : Int) < (ks.length : Int)) && ks.all fewK
theorem drop_all {α : Type} {p : α → Bool} {xs : List α} {i : Nat} {x : α} (h : xs[i]? = some x) : (xs.drop i).all p = (p x && (xs.drop (i + 1)).all p) := by
  obtain ⟨h1, h2⟩ := List.getElem?_eq_some_iff.1 h
  rw [← List.getElem_cons_drop h1, h2, List.all_cons]
theorem drop_all_end {α : Type} {p : α → Bool} {xs : List α} {i : Nat} (h : xs.length ≤ i) : (xs.drop i).all p = true := by rw [List.drop_eq_nil_of_le h]; rfl
attribute [local irreducible] Calls thenQ blockQ retQ Spc Spl Spq Ex Ev Evs Gd Upd ESub HKeep Res Res1 wlk effQ Rem SrcAt Split
set_option maxRecDepth 100000 in
set_option maxHeartbeats 4000000 in
theorem Few_c {w : World} {A : Option Addr} {n c : Nat} {ks : List KindR} (h : RdKinds w w.heap.size ⟨A, n, c⟩ ks) :
    Calls Try.prog 28 #[.agg #[.slice A n c]] w (Ret w (.bool (fewB ks))) := by
  have hbd : n ≤ 9223372036854775807 := h.1.bound
  have hlen : ks.length = n := h.1.len
  refine sp_enter (vs := [_]) Try.func28 rfl Try.ntmps28 rfl ?_
  unfold fewB
  by_cases hbig : (65 : Int) < (n : Int)
  · rw [hlen, decide_eq_true hbig]
    repeat (first|(apply sp_cond_t;(·exact eT rfl);(·exact decide_eq_true hbig))|apply then_n|apply sp_seq|apply sp_region|apply spl_nil|apply then_r|apply sp_ret|((apply spl_pure rfl);(·(first|((first|apply ex_assign|apply ex_fieldAddr'|apply ex_gtr|apply ex_len)<;>(first|exact eT rfl|exact eC))|((apply ex_loadown)<;>(first|exact eT rfl|exact Bk.own InH.mem|rfl)))))|(apply spl_box;(·exact eT rfl);(·rfl);intro _ _))
    (apply ret_ok rfl;(·((apply Res.ofOne;((apply Res1.tmp;(·rfl))))))); rfl
  · rw [hlen, decide_eq_false hbig]
    repeat (first|(apply sp_cond_f;(·exact eT rfl);(·exact decide_eq_false hbig))|apply then_n|apply sp_seq|apply sp_region|apply spl_nil|apply sp_skip|apply sp_block|((apply spl_pure rfl);(·(first|((first|apply ex_assign|apply ex_fieldAddr'|apply ex_gtr|apply ex_len)<;>(first|exact eT rfl|exact eC))|((apply ex_loadown)<;>(first|exact eT rfl|exact Bk.own InH.mem|rfl)))))|(apply spl_box;(·exact eT rfl);(·rfl);intro _ _))
    rename_i g1 hg1
    refine sp_loop (X := Nat) (fun i => [(3, true, .int .i64 (i : Int)), (1, true, .pointer (some ⟨g1, 0, none⟩))]) (fun _ => w) (fun _ => [(g1, .cells #[.slice A n c] 24 (0, 0))]) (fun i => i ≤ n ∧ ks.all fewK = (ks.drop i).all fewK) (fun i => n - i) 0 ⟨Nat.zero_le _, rfl⟩ (by (repeat (first|exact ESub.nil|apply ESub.cons rfl))) rfl (by (repeat (exact HKeep.refl))) ?_
    rintro i ⟨hi, hinv⟩
    by_cases hlt : i < n
    · obtain ⟨ad, x, hA, hb, hx, hsz, hc⟩ := h.1.at_ hlt
      have hsl := h.2 x (List.mem_of_getElem? hx)
      have hbd2 := hsl.1.bound
      have hlen2 : x.slots.length = x.ss.n := hsl.1.len
      rw [drop_all hx] at hinv
      obtain ⟨hd, hhd⟩ : ∃ b, b = (decide ((100 : Int) < (x.name.size : Int)) || decide ((15 : Int) < (x.ss.n : Int))) := ⟨_, rfl⟩
      have hfk : fewK x = (!hd && x.slots.all fewS) := by unfold fewK; rw [hhd]
      rw [hfk] at hinv
      cases hd with
      | true =>
        rw [show (!true && x.slots.all fewS) = false from rfl, Bool.false_and] at hinv
        rw [hinv]
        repeat (first|(apply sp_cond_t;(·exact eT rfl);(·exact hhd.symm))|apply then_n|apply sp_seq|apply sp_region|apply spl_nil|apply then_r|apply block_r|((apply sp_cond_t);(·exact eT rfl);(·(exact decide_eq_true (by omega))))|apply sp_skip|apply sp_ret|apply sp_block|((first|apply spl_pure rfl|(apply spl_pure_g rfl;(·exact Gd.tf rfl rfl)));(·(first|(apply ex_loadelem;(·exact eT rfl);(·exact h.1);(·exact hA);(·exact hx))|((first|apply ex_move|apply ex_assign|apply ex_fieldAddr'|apply ex_lss|apply ex_gtr|apply ex_len)<;>(first|exact eT rfl|exact eC|exact eG rfl))|((first|apply ex_slen|apply ex_orT)<;>(first|exact eT rfl|exact eG rfl))|((first|apply ex_loadown|apply ex_indexAddr)<;>(first|exact eT rfl|exact eG rfl|exact Bk.own InH.mem|rfl|assumption)))))|(apply spl_alloc rfl;intro _ _)|(apply spl_stores;(·exact eT rfl);(·exact eT rfl);(·(repeat (exact Upd.here)));(·(rfl));(·(rfl));(·exact Ones.one)))
        (apply ret_ok rfl;(·((apply Res.ofOne;((apply Res1.tmp;(·rfl))))))); rfl
      | false =>
        rw [show (!false && x.slots.all fewS) = x.slots.all fewS from rfl] at hinv
        repeat (first|(apply sp_cond_f;(·exact eT rfl);(·exact hhd.symm))|apply then_n|apply sp_seq|apply sp_region|apply spl_nil|((apply sp_cond_t);(·exact eT rfl);(·(exact decide_eq_true (by omega))))|apply sp_skip|apply sp_block|((first|apply spl_pure rfl|(apply spl_pure_g rfl;(·exact Gd.tf rfl rfl)));(·(first|(apply ex_loadelem;(·exact eT rfl);(·exact h.1);(·exact hA);(·exact hx))|((first|apply ex_move|apply ex_assign|apply ex_fieldAddr'|apply ex_lss|apply ex_gtr|apply ex_len)<;>(first|exact eT rfl|exact eC|exact eG rfl))|((first|apply ex_slen|apply ex_orT)<;>(first|exact eT rfl|exact eG rfl))|((first|apply ex_loadown|apply ex_indexAddr)<;>(first|exact eT rfl|exact eG rfl|exact Bk.own InH.mem|rfl|assumption)))))|(apply spl_alloc rfl;intro _ _)|(apply spl_stores;(·exact eT rfl);(·exact eT rfl);(·(repeat (exact Upd.here)));(·(rfl));(·(rfl));(·exact Ones.one)))
        rename_i g4 hg4
        refine sp_loop (X := Nat) (fun j => [(5, true, .int .i64 (j : Int)), (4, true, .pointer (some ⟨g4, 0, none⟩)), (3, true, .int .i64 (i : Int)), (1, true, .pointer (some ⟨g1, 0, none⟩))]) (fun _ => w) (fun _ => [(g4, .cells x.cells 34 (0, 0)), (g1, .cells #[.slice A n c] 24 (0, 0))]) (fun j => j ≤ x.ss.n ∧ x.slots.all fewS = (x.slots.drop j).all fewS) (fun j => x.ss.n - j) 0 ⟨Nat.zero_le _, rfl⟩ (by (repeat (first|exact ESub.nil|apply ESub.cons rfl))) rfl (by (repeat (exact HKeep.refl))) ?_
        rintro j ⟨hj, hinv2⟩
        by_cases hlt2 : j < x.ss.n
        · obtain ⟨ad2, y, hA2, hb2, hy, hsz2, hc2⟩ := hsl.1.at_ hlt2
          have hst := hsl.2 y (List.mem_of_getElem? hy)
          have hbd3 := hst.1.bound
          have hlen3 : y.kinds.length = y.ks.n := hst.1.len
          rw [drop_all hy] at hinv2
          obtain ⟨hd2, hhd2⟩ : ∃ b, b = (decide ((100 : Int) < (y.name.size : Int)) || decide ((15 : Int) < (y.ks.n : Int))) := ⟨_, rfl⟩
          have hfs : fewS y = (!hd2 && y.kinds.all smallB) := by unfold fewS; rw [hhd2]
          rw [hfs] at hinv2
          cases hd2 with
          | true =>
            rw [show (!true && y.kinds.all smallB) = false from rfl, Bool.false_and] at hinv2
            rw [hinv2, Bool.false_and] at hinv
            rw [hinv]
            repeat (first|(apply sp_cond_t;(·exact eT rfl);(·exact hhd2.symm))|apply then_n|apply sp_seq|apply sp_region|apply spl_nil|apply then_r|apply block_r|((apply sp_cond_t);(·exact eT rfl);(·(exact decide_eq_true (by omega))))|apply sp_skip|apply sp_ret|apply sp_block|((first|apply spl_pure rfl|(apply spl_pure_g rfl;(·exact Gd.tf rfl rfl)));(·(first|(apply ex_loadfield (ad:=ad2) (i:=j) (k:=0);(·exact eT rfl);(·exact hsl.1);(·exact hA2);(·exact hy);(·rfl))|(apply ex_loadfield (ad:=ad2) (i:=j) (k:=1);(·exact eG rfl);(·exact hsl.1);(·exact hA2);(·exact hy);(·rfl))|((first|apply ex_move|apply ex_assign|apply ex_fieldAddr'|apply ex_lss|apply ex_gtr|apply ex_len)<;>(first|exact eT rfl|exact eC|exact eG rfl))|((first|apply ex_fieldAddr|apply ex_slen|apply ex_orT)<;>(first|exact eT rfl|exact eG rfl))|((first|apply ex_loadown|apply ex_indexAddr)<;>(first|exact eT rfl|exact eG rfl|exact Bk.own InH.mem|rfl|assumption))))))
            (apply ret_ok rfl;(·((apply Res.ofOne;((apply Res1.tmp;(·rfl))))))); rfl
          | false =>
            rw [show (!false && y.kinds.all smallB) = y.kinds.all smallB from rfl] at hinv2
            repeat (first|(apply sp_cond_f;(·exact eT rfl);(·exact hhd2.symm))|apply then_n|apply sp_seq|apply sp_region|apply spl_nil|((apply sp_cond_t);(·exact eT rfl);(·(exact decide_eq_true (by omega))))|apply sp_skip|apply sp_block|((first|apply spl_pure rfl|(apply spl_pure_g rfl;(·exact Gd.tf rfl rfl)));(·(first|(apply ex_loadfield (ad:=ad2) (i:=j) (k:=0);(·exact eT rfl);(·exact hsl.1);(·exact hA2);(·exact hy);(·rfl))|(apply ex_loadfield (ad:=ad2) (i:=j) (k:=1);(·exact eG rfl);(·exact hsl.1);(·exact hA2);(·exact hy);(·rfl))|((first|apply ex_move|apply ex_assign|apply ex_fieldAddr'|apply ex_lss|apply ex_gtr|apply ex_len)<;>(first|exact eT rfl|exact eC|exact eG rfl))|((first|apply ex_fieldAddr|apply ex_slen|apply ex_orT)<;>(first|exact eT rfl|exact eG rfl))|((first|apply ex_loadown|apply ex_indexAddr)<;>(first|exact eT rfl|exact eG rfl|exact Bk.own InH.mem|rfl|assumption))))))
            refine sp_loop (X := Nat) (fun m => [(6, true, .int .i64 (m : Int)), (5, true, .int .i64 (j : Int)), (4, true, .pointer (some ⟨g4, 0, none⟩)), (3, true, .int .i64 (i : Int)), (1, true, .pointer (some ⟨g1, 0, none⟩))]) (fun _ => w) (fun _ => [(g4, .cells x.cells 34 (0, 0)), (g1, .cells #[.slice A n c] 24 (0, 0))]) (fun m => m ≤ y.ks.n ∧ y.kinds.all smallB = (y.kinds.drop m).all smallB) (fun m => y.ks.n - m) 0 ⟨Nat.zero_le _, rfl⟩ (by (repeat (first|exact ESub.nil|apply ESub.cons rfl))) rfl (by (repeat (exact HKeep.refl))) ?_
            rintro m ⟨hm, hinv3⟩
            by_cases hlt3 : m < y.ks.n
            · obtain ⟨ad3, z, hA3, hb3, hz, hsz3, hc3⟩ := hst.1.at_ hlt3
              rw [drop_all hz] at hinv3
              by_cases hzb : (100 : Int) < (z.size : Int)
              · have hs0 : smallB z = false := by unfold smallB; rw [decide_eq_true hzb]; rfl
                rw [hs0, Bool.false_and] at hinv3
                rw [hinv3, Bool.false_and] at hinv2
                rw [hinv2, Bool.false_and] at hinv
                rw [hinv]
                repeat (first|(apply sp_cond_t;(·exact eT rfl);(·exact decide_eq_true hzb))|apply then_n|apply sp_seq|apply sp_region|apply spl_nil|apply then_r|apply block_r|((apply sp_cond_t);(·exact eT rfl);(·(exact decide_eq_true (by omega))))|apply sp_skip|apply sp_ret|apply sp_block|((apply spl_pure rfl);(·(first|(apply ex_loadfield (ad:=ad2) (i:=j) (k:=1);(·exact eT rfl);(·exact hsl.1);(·exact hA2);(·exact hy);(·rfl))|(apply ex_loadfield (ad:=ad3) (i:=m) (k:=0);(·exact eT rfl);(·exact hst.1);(·exact hA3);(·exact hz);(·rfl))|((first|apply ex_move|apply ex_assign|apply ex_fieldAddr'|apply ex_lss|apply ex_gtr|apply ex_len)<;>(first|exact eT rfl|exact eC))|((first|apply ex_fieldAddr|apply ex_slen)<;>(exact eT rfl))|((first|apply ex_loadown|apply ex_indexAddr)<;>(first|exact eT rfl|exact Bk.own InH.mem|rfl|assumption))))))
                (apply ret_ok rfl;(·((apply Res.ofOne;((apply Res1.tmp;(·rfl))))))); rfl
              · have hs0 : smallB z = true := by unfold smallB; rw [decide_eq_false hzb]; rfl
                rw [hs0, Bool.true_and] at hinv3
                repeat (first|(apply sp_cond_f;(·exact eT rfl);(·exact decide_eq_false hzb))|apply then_n|apply block_n|apply sp_seq|apply sp_region|apply spl_nil|((apply sp_cond_t);(·exact eT rfl);(·(exact decide_eq_true (by omega))))|apply sp_skip|apply sp_block|((apply spl_pure rfl);(·(first|(apply ex_loadfield (ad:=ad2) (i:=j) (k:=1);(·exact eT rfl);(·exact hsl.1);(·exact hA2);(·exact hy);(·rfl))|(apply ex_loadfield (ad:=ad3) (i:=m) (k:=0);(·exact eT rfl);(·exact hst.1);(·exact hA3);(·exact hz);(·rfl))|((first|apply ex_move|apply ex_assign|apply ex_fieldAddr'|apply ex_lss|apply ex_gtr|apply ex_len)<;>(first|exact eT rfl|exact eC))|((first|apply ex_fieldAddr|apply ex_slen)<;>(exact eT rfl))|(apply ex_addn<;>(first|exact eT rfl|exact eC|(constructor<;>omega)))|((first|apply ex_loadown|apply ex_indexAddr)<;>(first|exact eT rfl|exact Bk.own InH.mem|rfl|assumption))))))
                exact ⟨m + 1, ⟨hlt3, hinv3⟩, by (show y.ks.n - (m + 1) < y.ks.n - m; omega), (by (repeat (first|exact ESub.nil|apply ESub.cons rfl))), rfl, (by (repeat (exact HKeep.refl)))⟩
            · rw [drop_all_end (by omega)] at hinv3
              rw [hinv3, Bool.true_and] at hinv2
              repeat (first|apply then_n|apply block_n|apply sp_seq|apply sp_region|apply spl_nil|apply then_e|apply block_here|(apply sp_cond_f;(·exact eT rfl);(·(exact decide_eq_false (by omega))))|apply sp_exit|((apply spl_pure rfl);(·(first|(apply ex_loadfield (ad:=ad2) (i:=j) (k:=1);(·exact eT rfl);(·exact hsl.1);(·exact hA2);(·exact hy);(·rfl))|((first|apply ex_move|apply ex_assign|apply ex_fieldAddr'|apply ex_lss|apply ex_len)<;>(exact eT rfl))|((apply ex_fieldAddr)<;>(exact eT rfl))|(apply ex_addn<;>(first|exact eT rfl|exact eC|(constructor<;>omega)))|((first|apply ex_loadown|apply ex_indexAddr)<;>(first|exact eT rfl|exact Bk.own InH.mem|rfl|assumption))))))
              exact ⟨j + 1, ⟨hlt2, hinv2⟩, by (show x.ss.n - (j + 1) < x.ss.n - j; omega), (by (repeat (first|exact ESub.nil|apply ESub.cons rfl))), rfl, (by (repeat (exact HKeep.refl)))⟩
        · rw [drop_all_end (by omega)] at hinv2
          rw [hinv2, Bool.true_and] at hinv
          repeat (first|apply then_n|apply block_n|apply sp_seq|apply sp_region|apply spl_nil|apply then_e|apply block_here|(apply sp_cond_f;(·exact eT rfl);(·(exact decide_eq_false (by omega))))|apply sp_exit|((apply spl_pure rfl);(·(first|((first|apply ex_move|apply ex_assign|apply ex_fieldAddr'|apply ex_lss|apply ex_len)<;>(exact eT rfl))|(apply ex_addn<;>(first|exact eT rfl|exact eC|(constructor<;>omega)))|((apply ex_loadown)<;>(first|exact eT rfl|exact Bk.own InH.mem|rfl))))))
          exact ⟨i + 1, ⟨hlt, hinv⟩, by (show n - (i + 1) < n - i; omega), (by (repeat (first|exact ESub.nil|apply ESub.cons rfl))), rfl, (by (repeat (first|exact HKeep.refl|(apply HKeep.pick;(·(repeat (first|exact Rem.here|apply Rem.there))))|apply HKeep.drop (by first|assumption|omega))))⟩
    · rw [drop_all_end (by omega)] at hinv
      rw [hinv]
      repeat (first|apply then_n|apply sp_seq|apply sp_region|apply spl_nil|apply then_e|apply block_here|(apply sp_cond_f;(·exact eT rfl);(·(exact decide_eq_false (by omega))))|apply sp_ret|apply sp_exit|((apply spl_pure rfl);(·(first|((first|apply ex_move|apply ex_assign|apply ex_fieldAddr'|apply ex_lss|apply ex_len)<;>(first|exact eT rfl|exact eC))|((apply ex_loadown)<;>(first|exact eT rfl|exact Bk.own InH.mem|rfl))))))
      (apply ret_ok rfl;(·((apply Res.ofOne;((apply Res1.tmp;(·rfl))))))); rfl
/-- Catalogs in a slice. -/
abbrev CatR := Sl × List KindR
def catC (y : CatR) : Array Value := #[.slice y.1.a y.1.n y.1.c]
def RdCats (w : World) (Be : Nat) (A : Option Addr) (n : Nat) (cs : List CatR) : Prop := RdS w Be 1 catC A n cs ∧ ∀ y ∈ cs, RdKinds w Be y.1 y.2
set_option maxRecDepth 100000 in
set_option maxHeartbeats 4000000 in
theorem few_c {w : World} {A : Option Addr} {n c : Nat} {cs : List CatR} (h : RdCats w w.heap.size A n cs) :
    Calls Try.prog 10 #[.slice A n c] w (Ret w (.bool (cs.all fun y => fewB y.2))) := by
  have hbd : n ≤ 9223372036854775807 := h.1.bound
  have hlen : cs.length = n := h.1.len
  refine sp_enter (vs := [_]) Try.func10 rfl Try.ntmps10 rfl ?_
  repeat (first|apply then_n|apply sp_seq|apply sp_region|apply spl_nil|apply sp_block|((apply spl_pure rfl);(·(((apply ex_assign)<;>(exact eC))))))
  refine sp_loop (X := Nat) (fun i => [(3, true, .int .i64 (i : Int)), (0, true, .slice A n c)]) (fun _ => w) (fun _ => []) (fun i => i ≤ n ∧ (cs.all fun y => fewB y.2) = (cs.drop i).all fun y => fewB y.2) (fun i => n - i) 0 ⟨Nat.zero_le _, rfl⟩ (by (repeat (first|exact ESub.nil|apply ESub.cons rfl))) rfl (by (repeat (exact HKeep.refl))) ?_
  rintro i ⟨hi, hinv⟩
  by_cases hlt : i < n
  · obtain ⟨ad, x, hA, hb, hx, hsz, hc⟩ := h.1.at_ hlt
    rw [drop_all hx] at hinv
    have hK := h.2 x (List.mem_of_getElem? hx)
    cases hf : fewB x.2 with
    | false =>
      rw [hf, Bool.false_and] at hinv
      rw [hinv]
      repeat (first|(apply sp_cond_t;(·exact eT rfl);(·rfl))|(apply spl_callp rfl;(·(repeat (first|exact eN|(apply eS;(·exact eT rfl)))));(·exact fun w' hh => hf ▸ Few_c (c := x.1.c) (hK.hp hh)))|apply then_n|apply sp_seq|apply sp_region|apply spl_nil|apply then_r|apply block_r|((apply sp_cond_t);(·exact eT rfl);(·(exact decide_eq_true (by omega))))|apply sp_skip|apply sp_ret|apply sp_block|((apply spl_pure rfl);(·(first|(apply ex_loadelem;(·exact eT rfl);(·exact h.1);(·exact hA);(·exact hx))|((first|apply ex_move|apply ex_assign|apply ex_not|apply ex_lss|apply ex_len)<;>(first|exact eT rfl|exact eC))|((apply ex_indexAddr)<;>(first|exact eT rfl|assumption))))))
      (apply ret_ok rfl;(·((apply Res.ofOne;((apply Res1.tmp;(·rfl))))))); rfl
    | true =>
      rw [hf, Bool.true_and] at hinv
      repeat (first|(apply sp_cond_f;(·exact eT rfl);(·rfl))|(apply spl_callp rfl;(·(repeat (first|exact eN|(apply eS;(·exact eT rfl)))));(·exact fun w' hh => hf ▸ Few_c (c := x.1.c) (hK.hp hh)))|apply then_n|apply block_n|apply sp_seq|apply sp_region|apply spl_nil|((apply sp_cond_t);(·exact eT rfl);(·(exact decide_eq_true (by omega))))|apply sp_skip|apply sp_block|((apply spl_pure rfl);(·(first|(apply ex_loadelem;(·exact eT rfl);(·exact h.1);(·exact hA);(·exact hx))|((first|apply ex_move|apply ex_assign|apply ex_not|apply ex_lss|apply ex_len)<;>(exact eT rfl))|(apply ex_addn<;>(first|exact eT rfl|exact eC|(constructor<;>omega)))|((apply ex_indexAddr)<;>(first|exact eT rfl|assumption))))))
      exact ⟨i + 1, ⟨hlt, hinv⟩, by (show n - (i + 1) < n - i; omega), (by (repeat (first|exact ESub.nil|apply ESub.cons rfl))), rfl, (by (repeat (exact HKeep.refl)))⟩
  · rw [drop_all_end (by omega)] at hinv
    rw [hinv]
    repeat (first|apply then_n|apply sp_seq|apply sp_region|apply spl_nil|apply then_e|apply block_here|(apply sp_cond_f;(·exact eT rfl);(·(exact decide_eq_false (by omega))))|apply sp_ret|apply sp_exit|((apply spl_pure rfl);(·(((first|apply ex_move|apply ex_assign|apply ex_lss|apply ex_len)<;>(first|exact eT rfl|exact eC))))))
    (apply ret_ok rfl;(·((apply Res.ofOne;((apply Res1.tmp;(·rfl))))))); rfl
set_option maxRecDepth 100000 in
set_option maxHeartbeats 4000000 in
theorem place_c {w : World} {A : Option Addr} {n c : Nat} {ks : List KindR} {s : ByteArray} (h : RdS w w.heap.size 3 KindR.cells A n ks) :
    Calls Try.prog 25 #[.agg #[.slice A n c], .string s] w (Ret w (.int .i64 (idx ks fun x => decide (x.name = s)))) := by
  have hbd : n ≤ 9223372036854775807 := h.bound
  refine sp_enter (vs := [_, _]) Try.func25 rfl Try.ntmps25 rfl ?_
  repeat (first|apply then_n|apply sp_seq|apply sp_region|apply spl_nil|apply sp_block|((apply spl_pure rfl);(·(((apply ex_assign)<;>(exact eC)))))|(apply spl_box;(·exact eT rfl);(·rfl);intro _ _))
  rename_i g2 hg2
  refine sp_loop (X := Nat) (fun i => [(5, true, .int .i64 (i : Int)), (2, true, .pointer (some ⟨g2, 0, none⟩)), (1, true, .string s)]) (fun _ => w) (fun _ => [(g2, .cells #[.slice A n c] 24 (0, 0))]) (fun k => k ≤ n ∧ (ks.take k).any (fun x => decide (x.name = s)) = false) (fun k => n - k) 0 ⟨Nat.zero_le _, rfl⟩ (by (repeat (first|exact ESub.nil|apply ESub.cons rfl))) rfl (by (repeat (exact HKeep.refl))) ?_
  rintro k ⟨hk, hno⟩
  by_cases hlt : k < n
  · obtain ⟨ad, x, hA, hb, hx, hsz, hc⟩ := h.at_ hlt
    by_cases hp : x.name = s
    ·
      repeat (first|(apply sp_cond_t;(·exact eT rfl);(·exact decide_eq_true hp))|apply then_n|apply sp_seq|apply sp_region|apply spl_nil|apply then_r|apply block_r|((apply sp_cond_t);(·exact eT rfl);(·(exact decide_eq_true (by omega))))|apply sp_skip|apply sp_ret|apply sp_block|((apply spl_pure rfl);(·(first|(apply ex_loadfield (ad:=ad) (i:=k) (k:=0);(·exact eT rfl);(·exact h);(·exact hA);(·exact hx);(·rfl))|((first|apply ex_move|apply ex_assign|apply ex_fieldAddr'|apply ex_lss|apply ex_seql|apply ex_len)<;>(exact eT rfl))|((apply ex_fieldAddr)<;>(exact eT rfl))|((first|apply ex_loadown|apply ex_indexAddr)<;>(first|exact eT rfl|exact Bk.own InH.mem|rfl|assumption))))))
      (apply ret_ok rfl;(·((apply Res.ofOne;((apply Res1.tmp;(·rfl))))))); rw [idx_hit hno hx (decide_eq_true hp)]
    ·
      repeat (first|(apply sp_cond_f;(·exact eT rfl);(·exact decide_eq_false hp))|apply then_n|apply block_n|apply sp_seq|apply sp_region|apply spl_nil|((apply sp_cond_t);(·exact eT rfl);(·(exact decide_eq_true (by omega))))|apply sp_skip|apply sp_block|((apply spl_pure rfl);(·(first|(apply ex_loadfield (ad:=ad) (i:=k) (k:=0);(·exact eT rfl);(·exact h);(·exact hA);(·exact hx);(·rfl))|((first|apply ex_move|apply ex_assign|apply ex_fieldAddr'|apply ex_lss|apply ex_seql|apply ex_len)<;>(exact eT rfl))|((apply ex_fieldAddr)<;>(exact eT rfl))|(apply ex_addn<;>(first|exact eT rfl|exact eC|(constructor<;>omega)))|((first|apply ex_loadown|apply ex_indexAddr)<;>(first|exact eT rfl|exact Bk.own InH.mem|rfl|assumption))))))
      exact ⟨k + 1, ⟨by omega, any_miss hno hx (decide_eq_false hp)⟩, by omega, (by (repeat (first|exact ESub.nil|apply ESub.cons rfl))), rfl, (by (repeat (exact HKeep.refl)))⟩
  ·
    repeat (first|apply then_n|apply sp_seq|apply sp_region|apply spl_nil|apply then_e|apply block_here|(apply sp_cond_f;(·exact eT rfl);(·(exact decide_eq_false (by omega))))|apply sp_ret|apply sp_exit|((apply spl_pure rfl);(·(first|((first|apply ex_move|apply ex_assign|apply ex_fieldAddr'|apply ex_lss|apply ex_len)<;>(first|exact eT rfl|exact eC))|((apply ex_loadown)<;>(first|exact eT rfl|exact Bk.own InH.mem|rfl))))))
    (apply ret_ok rfl;(·((apply Res.ofOne;((apply Res1.tmp;(·rfl))))))); rw [idx_none hno (by rw [h.len]; omega)]
theorem few_sized {ks : List KindR} (h : fewB ks = true) : ks.length ≤ 65 ∧ ∀ k ∈ ks, k.name.size < 9223372036854775808 ∧ ∀ s ∈ k.slots, s.name.size < 9223372036854775808 := by
  unfold fewB at h
  rw [Bool.and_eq_true, Bool.not_eq_true', decide_eq_false_iff_not] at h
  refine ⟨by omega, fun k hk => ?_⟩
  have h2 := List.all_eq_true.1 h.2 k hk
  unfold fewK at h2
  rw [Bool.and_eq_true, Bool.not_eq_true', Bool.or_eq_false_iff, decide_eq_false_iff_not] at h2
  refine ⟨by omega, fun s hs => ?_⟩
  have h3 := List.all_eq_true.1 h2.2 s hs
  unfold fewS at h3
  rw [Bool.and_eq_true, Bool.not_eq_true', Bool.or_eq_false_iff, decide_eq_false_iff_not] at h3
  omega
end Go.Proofs.Ytfdjlphfohnnnaa
/-
  The parser of catalogs in plain terms.
-/
namespace Go.Proofs.Ytfdjlphfohnnnaa
open Go.RowKit Go.Sy
set_option linter.unusedVariables false
set_option linter.unusedSimpArgs false
structure PSlot where
  name : ByteArray
  kinds : List ByteArray
  normal : Nat
structure PKind where
  name : ByteArray
  vehicle : Bool
  slots : List PSlot
/-- An error with its offset. -/
abbrev PE := Int × Int
def failP (ts : List Tk) (en e : Int) : PE := match ts with | [] => (9, en) | t :: _ => (e, (t.pos : Int))
def isTk (s : ByteArray) (k : Nat) : List Tk → Bool
  | [] => false
  | t :: _ => decide ((t.kind : Int) = (k : Int)) && (decide (t.text = s) && decide ((t.pos : Int) = (t.pos : Int)))
def skipP (s : ByteArray) (k : Nat) (ts : List Tk) : List Tk := if isTk s k ts then ts.tail else ts
def wantP (s : ByteArray) (en : Int) (ts : List Tk) : Except PE (List Tk) := if isTk s 4 ts then .ok ts.tail else .error (failP ts en 8)
def nameP (chk : ByteArray → Int) (en : Int) : List Tk → Except PE (ByteArray × List Tk)
  | [] => .error (9, en)
  | t :: r => if (t.kind : Int) = 1 then (if chk t.text = 0 then .ok (t.text, r) else .error (chk t.text, (t.pos : Int))) else .error (8, (t.pos : Int))
def inL (l : List ByteArray) (s : ByteArray) : Bool := l.any fun x => decide (x = s)
def freshC (names : List ByteArray) (most : Nat) (s : ByteArray) : Int := if names.length = most then 7 else if inL names s then 3 else 0
def kindC (read : List PKind) (l : List ByteArray) (s : ByteArray) : Int :=
  if inL l s then 3 else match read.find? fun k => decide (k.name = s) with | none => 2 | some k => if k.vehicle then 4 else 0
def headName : List Tk → Bool
  | [] => false
  | t :: _ => decide ((t.kind : Int) = 1)
def moreP (read : List PKind) (en : Int) : List ByteArray → List Tk → Except PE (List ByteArray × List Tk)
  | l, [] => .ok (l, [])
  | l, t :: r => if (t.kind : Int) = 1 then (if kindC read l t.text = 0 then moreP read en (l ++ [t.text]) r else .error (kindC read l t.text, (t.pos : Int))) else .ok (l, t :: r)
def kindsP (read : List PKind) (en : Int) (l : List ByteArray) (ts : List Tk) : Except PE (List ByteArray × List Tk) :=
  match nameP (kindC read l) en ts with
  | .error e => .error e
  | .ok (x, r) => moreP read en (l ++ [x]) r
def colon : ByteArray := ⟨#[58]⟩
def plus : ByteArray := ⟨#[43]⟩
def semi : ByteArray := ⟨#[59]⟩
def lpar : ByteArray := ⟨#[40]⟩
def rpar : ByteArray := ⟨#[41]⟩
def wVehicle : ByteArray := ⟨#[118, 101, 104, 105, 99, 108, 101]⟩
def wKind : ByteArray := ⟨#[107, 105, 110, 100]⟩
def slotP (read : List PKind) (en : Int) (names : List ByteArray) (ts : List Tk) : Except PE (PSlot × List Tk) :=
  match nameP (freshC names 12) en ts with
  | .error e => .error e
  | .ok (nm, r) => match wantP colon en r with
    | .error e => .error e
    | .ok r => match kindsP read en [] r with
      | .error e => .error e
      | .ok (l, r) =>
        if isTk plus 4 r then
          match kindsP read en l r.tail with
          | .error e => .error e
          | .ok (l2, r) => .ok (⟨nm, l2, l.length⟩, r)
        else .ok (⟨nm, l, l.length⟩, r)
def slotsP (read : List PKind) (en : Int) : Nat → List PSlot → List Tk → Except PE (List PSlot × List Tk)
  | 0, ss, ts => .ok (ss, ts)
  | f + 1, ss, ts => match slotP read en (ss.map (·.name)) ts with
    | .error e => .error e
    | .ok (s, r) => if isTk semi 4 r then slotsP read en f (ss ++ [s]) r.tail else .ok (ss ++ [s], r)
/-- What follows a kind's name. -/
def bodyP (read : List PKind) (en : Int) (ts : List Tk) : Except PE (List PSlot × List Tk) :=
  if isTk lpar 4 ts then
    match slotsP read en ts.length [] ts.tail with
    | .error e => .error e
    | .ok (ss, r) => match wantP rpar en r with
      | .error e => .error e
      | .ok r => .ok (ss, r)
  else .ok ([], ts)
def headP (en : Int) (ts : List Tk) : Except PE (Bool × List Tk) :=
  if isTk wVehicle 1 ts then .ok (true, ts.tail) else if isTk wKind 1 ts then .ok (false, ts.tail) else .error (failP ts en 8)
def kindP (read : List PKind) (en : Int) (ts : List Tk) : Except PE (PKind × List Tk) :=
  match headP en ts with
  | .error e => .error e
  | .ok (v, r) => match nameP (freshC (read.map (·.name)) 60) en r with
    | .error e => .error e
    | .ok (nm, r) => match bodyP read en r with
      | .error e => .error e
      | .ok (ss, r) => match wantP semi en r with
        | .error e => .error e
        | .ok r => .ok (⟨nm, v, ss⟩, r)
def parseP (en : Int) : Nat → List PKind → List Tk → Except PE (List PKind)
  | 0, read, _ => .ok read
  | _ + 1, read, [] => .ok read
  | f + 1, read, t :: ts => match kindP read en (t :: ts) with
    | .error e => .error e
    | .ok (k, r) => parseP en f (read ++ [k]) r
/-- What Parse hands back. -/
def parseR (t : ByteArray) : List PKind × Int × Int :=
  if (lexR t).2.1 = 0 then
    match parseP (t.size : Int) (lexR t).1.length [] (lexR t).1 with
    | .error e => ([], e.1, e.2)
    | .ok ks => (ks, 0, 0)
  else ([], (lexR t).2.1, (lexR t).2.2)
/-! Each step takes something away. -/
theorem nameP_len {chk : ByteArray → Int} {en : Int} {ts r : List Tk} {x : ByteArray} (h : nameP chk en ts = .ok (x, r)) : r.length < ts.length := by
  cases ts with
  | nil => cases h
  | cons t q =>
    simp only [nameP] at h
    split at h
    · split at h
      · cases h; simp
      · cases h
    · cases h
theorem moreP_len {read : List PKind} {en : Int} : ∀ (ts : List Tk) (l : List ByteArray) {l' : List ByteArray} {r : List Tk}, moreP read en l ts = .ok (l', r) → r.length ≤ ts.length
  | [], l, l', r, h => by simp only [moreP] at h; cases h; exact Nat.le_refl _
  | t :: q, l, l', r, h => by
    simp only [moreP] at h
    split at h
    · split at h
      · have := moreP_len q _ h
        simp only [List.length_cons]; omega
      · cases h
    · cases h; exact Nat.le_refl _
theorem kindsP_len {read : List PKind} {en : Int} {l l' : List ByteArray} {ts r : List Tk} (h : kindsP read en l ts = .ok (l', r)) : r.length < ts.length := by
  unfold kindsP at h
  split at h
  · cases h
  · rename_i x q hn
    have h1 := nameP_len hn
    have h2 := moreP_len _ _ h
    omega
theorem wantP_len {s : ByteArray} {en : Int} {ts r : List Tk} (h : wantP s en ts = .ok r) : r.length < ts.length := by
  unfold wantP at h
  split at h
  · rename_i hi
    cases ts with
    | nil => cases hi
    | cons t q => cases h; simp
  · cases h
theorem isTk_tail {s : ByteArray} {k : Nat} {ts : List Tk} (h : isTk s k ts = true) : ts.tail.length < ts.length := by
  cases ts with
  | nil => cases h
  | cons t q => simp
theorem slotP_len {read : List PKind} {en : Int} {names : List ByteArray} {ts r : List Tk} {s : PSlot} (h : slotP read en names ts = .ok (s, r)) : r.length < ts.length := by
  unfold slotP at h
  split at h
  · cases h
  · rename_i h1
    split at h
    · cases h
    · rename_i h2
      split at h
      · cases h
      · rename_i h3
        have q1 := nameP_len h1
        have q2 := wantP_len h2
        have q3 := kindsP_len h3
        split at h
        · rename_i hp
          have q4 := isTk_tail hp
          split at h
          · cases h
          · rename_i h5
            have q5 := kindsP_len h5
            cases h
            omega
        · cases h
          omega
end Go.Proofs.Ytfdjlphfohnnnaa
