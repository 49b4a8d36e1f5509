/-
  The layer 'Sy', its operations: facts on types as classes, one law for each operation.
-/
import Derived.Test.YtoogicafefennaaSy
namespace Go.Sy
open Go.RowKit
set_option linter.unusedVariables false
set_option linter.unusedSimpArgs false

/-! ### Facts on types -/
class TSize (P : Program) (t : TypeId) (n : outParam Nat) : Prop where
  size : (P.info? t).map (·.size) = some n
class TBytes (P : Program) (t : TypeId) (n : outParam Nat) : Prop where
  bytes : (P.info? t).map (·.bytes) = some n
class TZero (P : Program) (t : TypeId) (z : outParam Value) : Prop where
  zero : (P.info? t).bind (·.zero) = some z
/-- No struct, no array. -/
class TCell (P : Program) (t : TypeId) : Prop where
  cell : (match P.underlying t with | some (.struct _) => false | some (.array _ _) => false | some _ => true | none => false) = true
class TAgg (P : Program) (t : TypeId) : Prop where
  agg : (match P.underlying t with | some (.struct _) => true | some (.array _ _) => true | _ => false) = true
class TStruct (P : Program) (t : TypeId) (fs : outParam (Array Field)) : Prop where
  struct : P.underlying t = some (.struct fs)
class TField (P : Program) (t : TypeId) (i : Nat) (off : outParam Nat) (ft : outParam TypeId) : Prop where
  field : (match P.underlying t with | some (.struct fs) => (match fs[i]? with | some f => decide (f.offset = off ∧ f.type = ft) && (match P.info? f.type with | some x => decide (x.size ≠ 0) | none => false) | none => false) | _ => false) = true
class TSlice (P : Program) (t : TypeId) (el : outParam TypeId) : Prop where
  slice : P.underlying t = some (.slice el)
class TMap (P : Program) (t : TypeId) (k el : outParam TypeId) : Prop where
  map : P.underlying t = some (.map k el)
class TArray (P : Program) (t : TypeId) (n : outParam Nat) (el : outParam TypeId) : Prop where
  array : P.underlying t = some (.array n el)
class TStr (P : Program) (t : TypeId) : Prop where
  str : P.underlying t = some .string
class TBool (P : Program) (t : TypeId) : Prop where
  bool : P.underlying t = some .bool
class TInt (P : Program) (t : TypeId) (k : outParam IntKind) : Prop where
  int : P.underlying t = some (.int k)
class TPtr (P : Program) (t : TypeId) (el : outParam TypeId) : Prop where
  ptr : P.underlying t = some (.pointer el)
/-- A function with a body. -/
class TFn (P : Program) (f : FuncId) : Prop where
  fn : (match P.funcs[f]? with | some fn => !(fn.name == "runtime.NumGoroutine") && fn.body.isSome | none => false) = true

section facts
variable {P : Program} {t : TypeId} (w : World)
theorem TSize.run {n : Nat} [h : TSize P t n] : (sizeOf t).run P w = .ok n w := by
  have := h.size
  cases hi : P.info? t with
  | none => rw [hi] at this; cases this
  | some i => rw [hi] at this; simp at this; simp [sizeOf, typeInfo, hi, this]
theorem TBytes.run {n : Nat} [h : TBytes P t n] : ∃ i, (typeInfo t).run P w = .ok i w ∧ i.bytes = n := by
  have := h.bytes
  cases hi : P.info? t with
  | none => rw [hi] at this; cases this
  | some i => rw [hi] at this; simp at this; exact ⟨i, by simp [typeInfo, hi], this⟩
theorem TZero.run {z : Value} [h : TZero P t z] : (zeroValue t).run P w = .ok z w := by
  have := h.zero
  cases hi : P.info? t with
  | none => rw [hi] at this; cases this
  | some i => rw [hi] at this; simp at this; simp [zeroValue, typeInfo, hi, this]
theorem TCell.run [h : TCell P t] : (isAgg t).run P w = .ok false w := by
  have := h.cell
  cases hi : P.underlying t with
  | none => rw [hi] at this; cases this
  | some i => rw [hi] at this; cases i <;> simp_all [isAgg, run_underlying hi]
theorem TAgg.run [h : TAgg P t] : (isAgg t).run P w = .ok true w := by
  have := h.agg
  cases hi : P.underlying t with
  | none => rw [hi] at this; cases this
  | some i => rw [hi] at this; cases i <;> simp_all [isAgg, run_underlying hi]
theorem TField.run {i off : Nat} {ft : TypeId} [h : TField P t i off ft] (a : Addr) : (Instr.fieldAt t (.pointer (some a)) i).run P w = .ok (.pointer (some (a.add off))) w := by
  have := h.field
  cases hu : P.underlying t with
  | none => rw [hu] at this; cases this
  | some d =>
    rw [hu] at this
    cases d <;> first | cases this | skip
    rename_i fs
    simp only at this
    cases hf : fs[i]? with
    | none => rw [hf] at this; cases this
    | some f =>
      rw [hf] at this
      simp only [Bool.and_eq_true, decide_eq_true_eq] at this
      obtain ⟨⟨h1, h2⟩, h3⟩ := this
      cases hi : P.info? f.type with
      | none => rw [hi] at h3; cases h3
      | some x =>
        rw [hi] at h3
        simp only [decide_eq_true_eq] at h3
        simp [Instr.fieldAt, run_underlying hu, hf, Instr.sureAddr, fieldPlace, sizeOf, typeInfo, hi, h3, h1]
theorem TFn.run {f : FuncId} [h : TFn P f] (args : Array Value) : (callFunc f args).run P w = .ok (.enter f args) w := by
  have := h.fn
  cases hf : P.funcs[f]? with
  | none => rw [hf] at this; cases this
  | some fn =>
    rw [hf] at this
    simp only [Bool.and_eq_true, Bool.not_eq_true'] at this
    obtain ⟨h1, h2⟩ := this
    have h3 : fn.body.isNone = false := by cases hb : fn.body <;> simp_all
    unfold callFunc
    simp only [Sem.run_bind, run_program, Result.andThen_ok, hf, h1, h3, Bool.false_eq_true, if_false, Sem.run_pure]
end facts

theorem ev_const (a : Act) (v : Value) : a.eval (.const v) = v := rfl
section
variable {P : Program} {Be : Nat} {w0 : World} {H : Heap} {G : Bool} {e : Env} {ty : TypeId}

theorem Ex.mk {op : Op} {v : Value} (h : ∀ N a w (o : Oper), o.op = op → o.type = ty → Fr N e a → Hp Be w0 H w → G = true → (execOp a.eval o).run P w = .ok (.value v) w) : Ex P Be w0 H G e op ty v := h

theorem ex_move {x : Operand} {v : Value} (h : Ev G e x v) : Ex P Be w0 H G e (.move x) ty v := by
  intro N a w o ho ht hf hh hG
  simp [execOp, ho, h N a hf hG]
theorem ex_assign {x : Operand} {v : Value} (h : Ev G e x v) : Ex P Be w0 H G e (.assign x) ty v := by
  intro N a w o ho ht hf hh hG
  simp [execOp, ho, h N a hf hG]

/-- 'c && b' -/
theorem ex_and {c b : Operand} {x y : Bool} (hc : Ev G e c (.bool x)) (hb : Ev (G && x) e b (.bool y)) : Ex P Be w0 H G e (.pick c b (.const (.bool false))) ty (.bool (x && y)) := by
  intro N a w o ho ht hf hh hG
  have h1 := hc N a hf hG
  cases x with
  | false => simp only [execOp, ho, h1, asBool, ev_const, Sem.run_bind, Sem.run_pure, Result.andThen_ok]; simp
  | true => simp [execOp, ho, h1, asBool, hb N a hf (by simp [hG])]
theorem ex_or {c b : Operand} {x y : Bool} (hc : Ev G e c (.bool x)) (hb : Ev (G && !x) e b (.bool y)) : Ex P Be w0 H G e (.pick c (.const (.bool true)) b) ty (.bool (x || y)) := by
  intro N a w o ho ht hf hh hG
  have h1 := hc N a hf hG
  cases x with
  | true => simp only [execOp, ho, h1, asBool, ev_const, Sem.run_bind, Sem.run_pure, Result.andThen_ok]; simp
  | false => simp [execOp, ho, h1, asBool, hb N a hf (by simp [hG])]
/-- The same where nothing guards the whole. -/
theorem ex_andT {c b : Operand} {x y : Bool} (hc : Ev true e c (.bool x)) (hb : Ev x e b (.bool y)) : Ex P Be w0 H true e (.pick c b (.const (.bool false))) ty (.bool (x && y)) :=
  ex_and hc (fun N a hf hG => hb N a hf (by simpa using hG))
theorem ex_orT {c b : Operand} {x y : Bool} (hc : Ev true e c (.bool x)) (hb : Ev (!x) e b (.bool y)) : Ex P Be w0 H true e (.pick c (.const (.bool true)) b) ty (.bool (x || y)) :=
  ex_or hc (fun N a hf hG => hb N a hf (by simpa using hG))

theorem ex_not {x : Operand} {t : TypeId} {b : Bool} (h : Ev G e x (.bool b)) : Ex P Be w0 H G e (.unOp .not t x) ty (.bool (!b)) := by
  intro N a w o ho ht hf hh hG
  simp [execOp, ho, h N a hf hG, Op.unary]

/-! ### Integers -/
theorem ex_int {bop : BinOp} {t t' : TypeId} {x y : Operand} {k : IntKind} {m n : Int} {v : Value} (h1 : Ev G e x (.int k m)) (h2 : Ev G e y (.int k n)) (hr : ∀ w, (binOp bop t (.int k m) (.int k n)).run P w = .ok v w) : Ex P Be w0 H G e (.binOp bop t x y t') ty v := by
  intro N a w o ho ht hf hh hG
  simp only [execOp, ho, h1 N a hf hG, h2 N a hf hG, Sem.run_bind]
  have : (eqGuard bop t x y (.int k m) (.int k n)).run P w = .ok () w := by
    unfold eqGuard
    cases bop <;> simp
  rw [this]
  simp [hr w]
theorem ex_add {t t' : TypeId} {x y : Operand} {k : IntKind} {m n : Int} (h1 : Ev G e x (.int k m)) (h2 : Ev G e y (.int k n)) : Ex P Be w0 H G e (.binOp .add t x y t') ty (.int k (k.wrap (m + n))) :=
  ex_int h1 h2 fun w => by simp [binOp, Op.intArith]
theorem ex_sub {t t' : TypeId} {x y : Operand} {k : IntKind} {m n : Int} (h1 : Ev G e x (.int k m)) (h2 : Ev G e y (.int k n)) : Ex P Be w0 H G e (.binOp .sub t x y t') ty (.int k (k.wrap (m - n))) :=
  ex_int h1 h2 fun w => by simp [binOp, Op.intArith]
theorem ex_mul {t t' : TypeId} {x y : Operand} {k : IntKind} {m n : Int} (h1 : Ev G e x (.int k m)) (h2 : Ev G e y (.int k n)) : Ex P Be w0 H G e (.binOp .mul t x y t') ty (.int k (k.wrap (m * n))) :=
  ex_int h1 h2 fun w => by simp [binOp, Op.intArith]
theorem ex_quo {t t' : TypeId} {x y : Operand} {k : IntKind} {m n : Int} (h1 : Ev G e x (.int k m)) (h2 : Ev G e y (.int k n)) (hn : n ≠ 0) : Ex P Be w0 H G e (.binOp .quo t x y t') ty (.int k (k.wrap (m.tdiv n))) :=
  ex_int h1 h2 fun w => by simp [binOp, Op.intDiv, hn]
theorem ex_rem {t t' : TypeId} {x y : Operand} {k : IntKind} {m n : Int} (h1 : Ev G e x (.int k m)) (h2 : Ev G e y (.int k n)) (hn : n ≠ 0) : Ex P Be w0 H G e (.binOp .rem t x y t') ty (.int k (m.tmod n)) :=
  ex_int h1 h2 fun w => by simp [binOp, Op.intDiv, hn]

theorem wrap64_in {n : Int} (h : -9223372036854775808 ≤ n ∧ n < 9223372036854775808) : IntKind.i64.wrap n = n := by
  rw [IntKind.wrap_i64]; omega
theorem ex_addn {t t' : TypeId} {x y : Operand} {m n : Int} (h1 : Ev G e x (.int .i64 m)) (h2 : Ev G e y (.int .i64 n)) (hb : -9223372036854775808 ≤ m + n ∧ m + n < 9223372036854775808) : Ex P Be w0 H G e (.binOp .add t x y t') ty (.int .i64 (m + n)) := by
  have := ex_add (P := P) (Be := Be) (w0 := w0) (H := H) (t := t) (t' := t') (ty := ty) h1 h2
  rwa [wrap64_in hb] at this
theorem ex_subn {t t' : TypeId} {x y : Operand} {m n : Int} (h1 : Ev G e x (.int .i64 m)) (h2 : Ev G e y (.int .i64 n)) (hb : -9223372036854775808 ≤ m - n ∧ m - n < 9223372036854775808) : Ex P Be w0 H G e (.binOp .sub t x y t') ty (.int .i64 (m - n)) := by
  have := ex_sub (P := P) (Be := Be) (w0 := w0) (H := H) (t := t) (t' := t') (ty := ty) h1 h2
  rwa [wrap64_in hb] at this
theorem ex_muln {t t' : TypeId} {x y : Operand} {m n : Int} (h1 : Ev G e x (.int .i64 m)) (h2 : Ev G e y (.int .i64 n)) (hb : -9223372036854775808 ≤ m * n ∧ m * n < 9223372036854775808) : Ex P Be w0 H G e (.binOp .mul t x y t') ty (.int .i64 (m * n)) := by
  have := ex_mul (P := P) (Be := Be) (w0 := w0) (H := H) (t := t) (t' := t') (ty := ty) h1 h2
  rwa [wrap64_in hb] at this

theorem ex_lss {t t' : TypeId} {x y : Operand} {k : IntKind} {m n : Int} (h1 : Ev G e x (.int k m)) (h2 : Ev G e y (.int k n)) : Ex P Be w0 H G e (.binOp .lss t x y t') ty (.bool (decide (m < n))) :=
  ex_int h1 h2 fun w => by simp [binOp, Op.intCmp]
theorem ex_leq {t t' : TypeId} {x y : Operand} {k : IntKind} {m n : Int} (h1 : Ev G e x (.int k m)) (h2 : Ev G e y (.int k n)) : Ex P Be w0 H G e (.binOp .leq t x y t') ty (.bool (decide (m ≤ n))) :=
  ex_int h1 h2 fun w => by simp [binOp, Op.intCmp]
theorem ex_gtr {t t' : TypeId} {x y : Operand} {k : IntKind} {m n : Int} (h1 : Ev G e x (.int k m)) (h2 : Ev G e y (.int k n)) : Ex P Be w0 H G e (.binOp .gtr t x y t') ty (.bool (decide (n < m))) :=
  ex_int h1 h2 fun w => by simp [binOp, Op.intCmp]
theorem ex_geq {t t' : TypeId} {x y : Operand} {k : IntKind} {m n : Int} (h1 : Ev G e x (.int k m)) (h2 : Ev G e y (.int k n)) : Ex P Be w0 H G e (.binOp .geq t x y t') ty (.bool (decide (n ≤ m))) :=
  ex_int h1 h2 fun w => by simp [binOp, Op.intCmp]
theorem ex_eql {t t' : TypeId} {x y : Operand} {k : IntKind} {m n : Int} (h1 : Ev G e x (.int k m)) (h2 : Ev G e y (.int k n)) : Ex P Be w0 H G e (.binOp .eql t x y t') ty (.bool (decide (m = n))) :=
  ex_int h1 h2 fun w => by simp [binOp, Op.intCmp]; rw [Bool.eq_iff_iff]; simp
theorem ex_neq {t t' : TypeId} {x y : Operand} {k : IntKind} {m n : Int} (h1 : Ev G e x (.int k m)) (h2 : Ev G e y (.int k n)) : Ex P Be w0 H G e (.binOp .neq t x y t') ty (.bool (!decide (m = n))) :=
  ex_int h1 h2 fun w => by simp [binOp, Op.intCmp]; rw [Bool.eq_iff_iff]; simp

/-! ### Strings -/
theorem bytes_toList (s : ByteArray) : s.toList = s.data.toList := Go.ByteArray.toList_eq s
theorem bytes_ext {s t : ByteArray} (h : s.toList = t.toList) : s = t := by
  rw [bytes_toList, bytes_toList] at h
  cases s; cases t
  simp only [ByteArray.mk.injEq]
  exact Array.toList_inj.1 h
/-- Strings compared: as a proposition. -/
theorem bytes_beq (s t : ByteArray) : (s.toList == t.toList) = decide (s = t) := by
  rw [Bool.eq_iff_iff]
  simp only [beq_iff_eq, decide_eq_true_eq]
  exact ⟨bytes_ext, fun h => by rw [h]⟩
/-- The order of strings. -/
def sless (s t : ByteArray) : Bool := Op.bytesLess s.data.toList t.data.toList

theorem ex_str {bop : BinOp} {t t' : TypeId} {x y : Operand} {r s : ByteArray} {v : Value} (h1 : Ev G e x (.string r)) (h2 : Ev G e y (.string s)) (hr : ∀ w, (Op.stringOp bop r s).run P w = .ok v w) : Ex P Be w0 H G e (.binOp bop t x y t') ty v := by
  intro N a w o ho ht hf hh hG
  simp only [execOp, ho, h1 N a hf hG, h2 N a hf hG, Sem.run_bind]
  have : (eqGuard bop t x y (.string r) (.string s)).run P w = .ok () w := by
    unfold eqGuard
    cases bop <;> simp
  rw [this]
  have h3 : binOp bop t (.string r) (.string s) = Op.stringOp bop r s := by cases bop <;> rfl
  simp [h3, hr w]
theorem ex_seql {t t' : TypeId} {x y : Operand} {r s : ByteArray} (h1 : Ev G e x (.string r)) (h2 : Ev G e y (.string s)) : Ex P Be w0 H G e (.binOp .eql t x y t') ty (.bool (decide (r = s))) :=
  ex_str h1 h2 fun w => by simp [Op.stringOp, bytes_beq]
theorem ex_sneq {t t' : TypeId} {x y : Operand} {r s : ByteArray} (h1 : Ev G e x (.string r)) (h2 : Ev G e y (.string s)) : Ex P Be w0 H G e (.binOp .neq t x y t') ty (.bool (!decide (r = s))) :=
  ex_str h1 h2 fun w => by simp [Op.stringOp, bytes_beq]
theorem ex_sgeq {t t' : TypeId} {x y : Operand} {r s : ByteArray} (h1 : Ev G e x (.string r)) (h2 : Ev G e y (.string s)) : Ex P Be w0 H G e (.binOp .geq t x y t') ty (.bool (!sless r s)) :=
  ex_str h1 h2 fun w => by simp [Op.stringOp, sless, bytes_toList]
theorem ex_slss {t t' : TypeId} {x y : Operand} {r s : ByteArray} (h1 : Ev G e x (.string r)) (h2 : Ev G e y (.string s)) : Ex P Be w0 H G e (.binOp .lss t x y t') ty (.bool (sless r s)) :=
  ex_str h1 h2 fun w => by simp [Op.stringOp, sless, bytes_toList]
theorem ex_sadd {t t' : TypeId} {x y : Operand} {r s : ByteArray} (h1 : Ev G e x (.string r)) (h2 : Ev G e y (.string s)) (hb : r.size + s.size < 9223372036854775808) : Ex P Be w0 H G e (.binOp .add t x y t') ty (.string (r ++ s)) :=
  ex_str h1 h2 fun w => by
    have : ¬ ((r.size + s.size : Nat) : Int) > IntKind.i64.max := by
      have : IntKind.i64.max = 9223372036854775807 := by decide
      omega
    simp only [Op.stringOp, if_neg this, Sem.run_pure]
theorem ex_beql {t t' : TypeId} {x y : Operand} {r s : Bool} (h1 : Ev G e x (.bool r)) (h2 : Ev G e y (.bool s)) [ht : TBool P t] : Ex P Be w0 H G e (.binOp .eql t x y t') ty (.bool (r == s)) := by
  intro N a w o ho _ hf hh hG
  simp only [execOp, ho, h1 N a hf hG, h2 N a hf hG, Sem.run_bind]
  have : (eqGuard .eql t x y (.bool r) (.bool s)).run P w = .ok () w := by unfold eqGuard; simp
  rw [this]
  have h3 : (Op.equal t (.bool r) (.bool s)).run P w = .ok (r == s) w := run_equalIn_bool w 9999 t r s ht.bool
  have h4 : binOp .eql t (.bool r) (.bool s) = (do pure (.bool ((← Op.equal t (.bool r) (.bool s))))) := rfl
  simp only [h4, Sem.run_bind, Sem.run_map, h3, Result.andThen_ok, Sem.run_pure]
theorem ex_bneq {t t' : TypeId} {x y : Operand} {r s : Bool} (h1 : Ev G e x (.bool r)) (h2 : Ev G e y (.bool s)) [ht : TBool P t] : Ex P Be w0 H G e (.binOp .neq t x y t') ty (.bool (!(r == s))) := by
  intro N a w o ho _ hf hh hG
  simp only [execOp, ho, h1 N a hf hG, h2 N a hf hG, Sem.run_bind]
  have : (eqGuard .neq t x y (.bool r) (.bool s)).run P w = .ok () w := by unfold eqGuard; simp
  rw [this]
  have h3 : (Op.equal t (.bool r) (.bool s)).run P w = .ok (r == s) w := run_equalIn_bool w 9999 t r s ht.bool
  have h4 : binOp .neq t (.bool r) (.bool s) = (do pure (.bool (!(← Op.equal t (.bool r) (.bool s))))) := rfl
  simp only [h4, Sem.run_bind, Sem.run_map, h3, Result.andThen_ok, Sem.run_pure]

theorem goInt_eq (n : Int) : goInt n = .int .i64 n := rfl
theorem ex_slen {x : Operand} {t : TypeId} {s : ByteArray} (h : Ev G e x (.string s)) [ht : TStr P t] : Ex P Be w0 H G e (.call ⟨.builtin .len, #[x], #[t]⟩) ty (.int .i64 s.size) := by
  intro N a w o ho _ hf hh hG
  simp [execOp, ho, h N a hf hG, resolve, invoke, builtin, Builtin.len_, run_underlying ht.str, goInt]
theorem ex_len {x : Operand} {t el : TypeId} {A : Option Addr} {n c : Nat} (h : Ev G e x (.slice A n c)) [ht : TSlice P t el] : Ex P Be w0 H G e (.call ⟨.builtin .len, #[x], #[t]⟩) ty (.int .i64 n) := by
  intro N a w o ho _ hf hh hG
  simp [execOp, ho, h N a hf hG, resolve, invoke, builtin, Builtin.len_, run_underlying ht.slice, goInt]

theorem ex_min {x y : Operand} {ts : Array TypeId} {k : IntKind} {m n : Int} (h1 : Ev G e x (.int k m)) (h2 : Ev G e y (.int k n)) : Ex P Be w0 H G e (.call ⟨.builtin .min, #[x, y], ts⟩) ty (.int k (if n < m then n else m)) := by
  intro N a w o ho _ hf hh hG
  simp [execOp, ho, h1 N a hf hG, h2 N a hf hG, resolve, invoke, builtin, Builtin.min_, Builtin.min2]
theorem ex_max {x y : Operand} {ts : Array TypeId} {k : IntKind} {m n : Int} (h1 : Ev G e x (.int k m)) (h2 : Ev G e y (.int k n)) : Ex P Be w0 H G e (.call ⟨.builtin .max, #[x, y], ts⟩) ty (.int k (if n > m then n else m)) := by
  intro N a w o ho _ hf hh hG
  simp [execOp, ho, h1 N a hf hG, h2 N a hf hG, resolve, invoke, builtin, Builtin.max_, Builtin.max2]

/-- 's[:h]', 's[l:]', 's[l:h]' of a slice. -/
theorem sliced0 (A : Option Addr) (h m s : Nat) : sliced A 0 h m s = .slice A h m := by
  unfold sliced
  simp [Addr.add]
theorem ex_slice_h {t el : TypeId} {x y : Operand} {A : Option Addr} {n c sz : Nat} {k : IntKind} {h : Int} (h1 : Ev G e x (.slice A n c)) (h2 : Ev G e y (.int k h)) (hb : 0 ≤ h ∧ h ≤ c) [ht : TSlice P t el] [hs : TSize P el sz] :
    Ex P Be w0 H G e (.slice t x none (some y) none) ty (.slice A h.toNat c) := by
  intro N a w o ho _ hf hh hG
  have he : P.elem t = el := by simp [Program.elem, ht.slice]
  simp only [execOp, ho, h1 N a hf hG, Option.map_none, Option.map_some, h2 N a hf hG, Instr.sliceAt, Sem.run_bind, run_underlying ht.slice, Result.andThen_ok]
  rw [run_slice_h w t A n c (by rw [he]; exact ht.slice) k h hb.1 hb.2, he, hs.run w]
  simp [sliced0]
/-- '==' of two structs. -/
theorem ex_aggeql {t t' : TypeId} {x y : Operand} {xs ys : Array Value} {b : Bool} (h1 : Ev G e x (.agg xs)) (h2 : Ev G e y (.agg ys)) (hm : P.eqGuardType P.depth t = false) (hr : ∀ w, (Op.equalIn 10000 t (.agg xs) (.agg ys)).run P w = .ok b w) : Ex P Be w0 H G e (.binOp .eql t x y t') ty (.bool b) := by
  intro N a w o ho _ hf hh hG
  simp only [execOp, ho, h1 N a hf hG, h2 N a hf hG, Sem.run_bind, run_eqGuard_agg w _ _ _ _ _ _ hm, Result.andThen_ok, run_eql_struct, hr w, Sem.run_pure]
theorem ex_sindex {x y : Operand} {t : TypeId} {k : IntKind} {s : ByteArray} {i : Nat} (h : Ev G e x (.string s)) (h2 : Ev G e y (.int k i)) (hi : i < s.size) [ht : TStr P t] : Ex P Be w0 H G e (.index t x y) ty (.int .u8 (s[i].toNat : Nat)) := by
  intro N a w o ho _ hf hh hG
  have h3 : s[i]? = some s[i] := by simp [getElem?_def, hi]
  simp [execOp, ho, h N a hf hG, h2 N a hf hG, Instr.index, asIntOf, run_underlying ht.str, h3]

theorem ex_extract {x : Operand} {i : Nat} {vs : Array Value} {v : Value} (h : Ev G e x (.tuple vs)) (hi : vs[i]? = some v) : Ex P Be w0 H G e (.extract x i) ty v := by
  intro N a w o ho _ hf hh hG
  simp [execOp, ho, h N a hf hG, Instr.extract, hi]

theorem ex_makeFunc {fn : Fn} {first cap : List Operand} {fs cs : List Value} (h1 : Evs G e first fs) (h2 : Evs G e cap cs) : Ex P Be w0 H G e (.makeFunc fn first.toArray cap.toArray) ty (.func fn fs.toArray cs.toArray) := by
  intro N a w o ho _ hf hh hG
  simp [execOp, ho, Instr.makeFunc, h1 N a hf hG, h2 N a hf hG]

theorem ex_nilCheck {x : Operand} {ad : Addr} (h : Ev G e x (.pointer (some ad))) : Ex P Be w0 H G e (.nilCheck x) ty (.pointer (some ad)) := by
  intro N a w o ho _ hf hh hG
  simp [execOp, ho, h N a hf hG]

/-! ### Memory -/
theorem ex_fieldAddr {t : TypeId} {x : Operand} {i off : Nat} {ft : TypeId} {ad : Addr} (h : Ev G e x (.pointer (some ad))) [TField P t i off ft] : Ex P Be w0 H G e (.fieldAddr t x i) ty (.pointer (some (ad.add off))) := by
  intro N a w o ho _ hf hh hG
  simp [execOp, ho, h N a hf hG, TField.run w ad (i := i) (off := off) (ft := ft) (P := P) (t := t)]
/-- At a block's own address. -/
theorem ex_fieldAddr' {t : TypeId} {x : Operand} {i off : Nat} {ft : TypeId} {g k : Nat} (h : Ev G e x (.pointer (some ⟨g, k, none⟩))) [TField P t i off ft] : Ex P Be w0 H G e (.fieldAddr t x i) ty (.pointer (some ⟨g, k + off, none⟩)) := by
  have := ex_fieldAddr (P := P) (Be := Be) (w0 := w0) (H := H) (ty := ty) (t := t) (i := i) h
  have h2 : (⟨g, k, none⟩ : Addr).add off = ⟨g, k + off, none⟩ := by
    unfold Addr.add
    split
    · rename_i h0; subst h0; rfl
    · rfl
  rwa [h2] at this
theorem ex_indexAddr {t el : TypeId} {x y : Operand} {k : IntKind} {i : Nat} {A : Option Addr} {ad : Addr} {n c sz : Nat} (h : Ev G e x (.slice A n c)) (h2 : Ev G e y (.int k i)) (hA : A = some ad) (hi : i < n) [ht : TSlice P t el] [hs : TSize P el sz] :
    Ex P Be w0 H G e (.indexAddr t x y) ty (.pointer (some (ad.add (i * sz)))) := by
  subst hA
  intro N a w o ho _ hf hh hG
  simp [execOp, ho, h N a hf hG, h2 N a hf hG, Instr.indexAt, asIntOf, run_underlying ht.slice, hs.run w, hi]

theorem ex_indexAddrI {t el : TypeId} {x y : Operand} {k : IntKind} {i : Int} {A : Option Addr} {ad : Addr} {n c sz : Nat} (h : Ev G e x (.slice A n c)) (h2 : Ev G e y (.int k i)) (hA : A = some ad) (hi : 0 ≤ i ∧ i < n) [ht : TSlice P t el] [hs : TSize P el sz] :
    Ex P Be w0 H G e (.indexAddr t x y) ty (.pointer (some (ad.add (i.toNat * sz)))) := by
  obtain ⟨j, rfl⟩ := Int.eq_ofNat_of_zero_le hi.1
  exact ex_indexAddr h h2 hA (by have := hi.2; omega)

/-- A load of one cell. -/
theorem ex_load1 {t : TypeId} {x : Operand} {ad : Addr} {v : Value} (h : Ev G e x (.pointer (some ad))) (hc : ∀ w, Hp Be w0 H w → w.cell? ad = some v) [TCell P t] : Ex P Be w0 H G e (.load t x) ty v := by
  intro N a w o ho _ hf hh hG
  simp [execOp, ho, h N a hf hG, Instr.loadAt, Instr.sureAddr, loadVar, TCell.run w (P := P) (t := t), hc w hh]
/-- One cell of an own block. -/
theorem ex_loadown {t : TypeId} {x : Operand} {g i : Nat} {cs : Array Value} {T : TypeId} {f : Nat × Nat} {v : Value} (h : Ev G e x (.pointer (some ⟨g, i, none⟩))) (hm : Bk Be w0 H g (.cells cs T f)) (hv : cs[i]? = some v) [TCell P t] : Ex P Be w0 H G e (.load t x) ty v :=
  ex_load1 h fun w hh => (hm.cell hh i).trans hv

theorem loadCells_of {w : World} {ad : Addr} {n : Nat} {cs : Array Value} (hs : cs.size = n) (h : ∀ j v, cs[j]? = some v → w.cell? (ad.add j) = some v) : (loadCells ad n).run P w = .ok cs w := by
  have := run_loadCells_list (P := P) w ad cs.toList (fun j v hj => h j v (by simpa using hj))
  rw [← hs]
  simpa using this
/-- A load of several. -/
theorem ex_loadn {t : TypeId} {x : Operand} {ad : Addr} {n : Nat} {cs : Array Value} (h : Ev G e x (.pointer (some ad))) (hn : cs.size = n) (hc : ∀ w, Hp Be w0 H w → ∀ j v, cs[j]? = some v → w.cell? (ad.add j) = some v) [TAgg P t] [hs : TSize P t n] : Ex P Be w0 H G e (.load t x) ty (.agg cs) := by
  intro N a w o ho _ hf hh hG
  simp [execOp, ho, h N a hf hG, Instr.loadAt, Instr.sureAddr, loadVar, TAgg.run w (P := P) (t := t), hs.run w, loadCells_of (P := P) hn (hc w hh)]
theorem addr_add0 (g j : Nat) : (⟨g, 0, none⟩ : Addr).add j = ⟨g, j, none⟩ := by
  unfold Addr.add
  split
  · rename_i h0; subst h0; rfl
  · simp
theorem addr_add (g i j : Nat) : (⟨g, i, none⟩ : Addr).add j = ⟨g, i + j, none⟩ := by
  unfold Addr.add
  split
  · rename_i h0; subst h0; rfl
  · simp
theorem ex_loadowns {t : TypeId} {x : Operand} {g n : Nat} {cs : Array Value} {T : TypeId} {f : Nat × Nat} (h : Ev G e x (.pointer (some ⟨g, 0, none⟩))) (hm : Bk Be w0 H g (.cells cs T f)) (hn : cs.size = n) [TAgg P t] [TSize P t n] : Ex P Be w0 H G e (.load t x) ty (.agg cs) :=
  ex_loadn h hn fun w hh j v hj => by rw [addr_add0]; exact (hm.cell hh j).trans hj
theorem ex_loadpart {t : TypeId} {x : Operand} {g i n : Nat} {cs : Array Value} {T : TypeId} {f : Nat × Nat} (h : Ev G e x (.pointer (some ⟨g, i, none⟩))) (hm : Bk Be w0 H g (.cells cs T f)) (hn : i + n ≤ cs.size) [TAgg P t] [TSize P t n] : Ex P Be w0 H G e (.load t x) ty (.agg (cs.extract i (i + n))) :=
  ex_loadn h (by simp; omega) fun w hh j v hj => by
    rw [addr_add]
    refine (hm.cell hh (i + j)).trans ?_
    rw [Array.getElem?_extract] at hj
    split at hj
    · exact hj
    · cases hj
end

theorem eqFields_str {P : Program} {w : World} {d t : Nat} {xs ys : Array Value} {f : Field} {fs : List Field} {a b : ByteArray} [ht : TStr P t] [TCell P t] (hn : f.name ≠ "_") (hft : f.type = t) (ha : xs[f.offset]? = some (.string a)) (hb : ys[f.offset]? = some (.string b)) :
    (Op.eqFields (d + 1) xs ys (f :: fs)).run P w = if a = b then (Op.eqFields (d + 1) xs ys fs).run P w else .ok false w := by
  have hp : ∀ (cs : Array Value) (v : Value), cs[f.offset]? = some v → (part f.type cs f.offset).run P w = .ok v w := fun cs v h => by
    simp [part, hft, TCell.run w (P := P) (t := t), h]
  have h1 := run_equalIn_string (P := P) w d t a b ht.str
  rw [← hft] at h1
  simp only [Op.eqFields, if_pos hn, Sem.run_bind, hp xs _ ha, hp ys _ hb, Result.andThen_ok, h1, bytes_beq]
  by_cases h : a = b
  · simp [h]
  · simp [h]
theorem eqFields_int {P : Program} {w : World} {d t : Nat} {xs ys : Array Value} {f : Field} {fs : List Field} {k : IntKind} {a b : Int} [ht : TInt P t k] [TCell P t] (hn : f.name ≠ "_") (hft : f.type = t) (ha : xs[f.offset]? = some (.int k a)) (hb : ys[f.offset]? = some (.int k b)) :
    (Op.eqFields (d + 1) xs ys (f :: fs)).run P w = if a = b then (Op.eqFields (d + 1) xs ys fs).run P w else .ok false w := by
  have hp : ∀ (cs : Array Value) (v : Value), cs[f.offset]? = some v → (part f.type cs f.offset).run P w = .ok v w := fun cs v h => by
    simp [part, hft, TCell.run w (P := P) (t := t), h]
  have h1 := run_equalIn_int (P := P) w d t k k a b ht.int
  rw [← hft] at h1
  simp only [Op.eqFields, if_pos hn, Sem.run_bind, hp xs _ ha, hp ys _ hb, Result.andThen_ok, h1]
  by_cases h : a = b
  · simp [h]
  · simp [h]
theorem eqFields_nil {P : Program} {w : World} {d : Nat} {xs ys : Array Value} : (Op.eqFields d xs ys []).run P w = .ok true w := rfl

/-! ### Operations that write -/
section
variable {P : Program} {N Be : Nat} {Q : Post} {e : Env} {w0 : World} {H : Heap} {ops : Array Oper} {rest : List Oper} {ty : TypeId} {pos : String} {after : Array Edge} {d : Nat}

theorem spl_alloc {t : TypeId} {z : Value} [hz : TZero P t z] (hN : Nat.blt d N = true)
    (k : ∀ g, w0.heap.size ≤ g → Spl P N Be ops Q rest ((d, true, .pointer (some ⟨g, 0, none⟩)) :: e) w0 ((g, .cells z.cells t (0, 0)) :: H)) :
    Spl P N Be ops Q (⟨some d, .alloc t, ty, pos, after, none⟩ :: rest) e w0 H := by
  intro a w hf hh
  have hd : d < N := by simpa [Nat.blt_eq] using hN
  refine wpList_plain rfl fun K hK => ?_
  have hr : (execOp a.eval ⟨some d, .alloc t, ty, pos, after, none⟩).run P w = .ok (.value (.pointer (some ⟨w.heap.size, 0, none⟩))) (w.alloc (.cells z.cells t)) := by
    simp [execOp, Instr.alloc, hz.run w, newVar, newRow]
  unfold Oper.wp
  rw [hr, Oper.upon_value]
  exact hK _ _ (k _ hh.size _ _ (hf.puttrue hd) (hh.alloc _))

theorem spl_box {t : TypeId} {x : Operand} {v : Value} (hx : Ev true e x v) (hN : Nat.blt d N = true)
    (k : ∀ g, w0.heap.size ≤ g → Spl P N Be ops Q rest ((d, true, .pointer (some ⟨g, 0, none⟩)) :: e) w0 ((g, .cells v.cells t (0, 0)) :: H)) :
    Spl P N Be ops Q (⟨some d, .box t x, ty, pos, after, none⟩ :: rest) e w0 H := by
  intro a w hf hh
  have hd : d < N := by simpa [Nat.blt_eq] using hN
  refine wpList_plain rfl fun K hK => ?_
  have hr : (execOp a.eval ⟨some d, .box t x, ty, pos, after, none⟩).run P w = .ok (.value (.pointer (some ⟨w.heap.size, 0, none⟩))) (w.alloc (.cells v.cells t)) := by
    simp [execOp, Instr.box, hx N a hf rfl, newVar, newRow]
  unfold Oper.wp
  rw [hr, Oper.upon_value]
  exact hK _ _ (k _ hh.size _ _ (hf.puttrue hd) (hh.alloc _))

/-- A store of one cell into an own block. -/
theorem spl_store1 {t : TypeId} {x y : Operand} {g i : Nat} {cs : Array Value} {T : TypeId} {v : Value} {H' : Heap} (hx : Ev true e x (.pointer (some ⟨g, i, none⟩))) (hy : Ev true e y v) (hv : v.oneCell' = true) [hs : TSize P t 1]
    (hu : Upd H g (.cells cs T (0, 0)) (.cells (cs.setIfInBounds i v) T (0, 0)) H') (hi : Nat.blt i cs.size = true) (k : Spl P N Be ops Q rest e w0 H') :
    Spl P N Be ops Q (⟨none, .store t x y, ty, pos, after, none⟩ :: rest) e w0 H := by
  intro a w hf hh
  refine wpList_plain rfl fun K hK => ?_
  have hi' : i < cs.size := by simpa [Nat.blt_eq] using hi
  have hg : w.heap[g]? = some (.cells cs T (0, 0)) := hh.own _ hu.mem
  have hc : w.cell? ⟨g, i, none⟩ = some cs[i] := by rw [hh.cell hu.mem i]; simp [hi']
  have hfz : w.frozen? ⟨g, i, none⟩ = false := by simp [World.frozen?, hg]
  have hcells : v.cells = #[v] := by cases v <;> simp_all [Value.oneCell', Value.cells]
  have hr : (execOp a.eval ⟨none, .store t x y, ty, pos, after, none⟩).run P w = .ok .skip (w.setCell ⟨g, i, none⟩ v) := by
    simp [execOp, hx N a hf rfl, hy N a hf rfl, Instr.storeAt, Instr.sureAddr, storeVar, hs.run w, hcells, storeCells, addr_add, run_store P w _ v _ hv, hc, hfz]
  unfold Oper.wp
  rw [hr, Oper.upon_skip]
  exact hK _ _ (k _ _ hf.putnone (hh.setCell hu))

theorem heap_setRow {w : World} {g : Nat} {cs cs' : Array Value} {T : TypeId} (hg : w.heap[g]? = some (.cells cs T (0, 0))) : (w.setRow g cs').heap[g]? = some (.cells cs' T (0, 0)) := by
  simp [World.setRow, Array.getElem?_modify, hg]

/-- A store over a whole own block. -/
theorem spl_stores {t : TypeId} {x y : Operand} {g n : Nat} {cs cs' : Array Value} {T : TypeId} {H' : Heap} (hx : Ev true e x (.pointer (some ⟨g, 0, none⟩))) (hy : Ev true e y (.agg cs')) [hs : TSize P t n]
    (hu : Upd H g (.cells cs T (0, 0)) (.cells cs' T (0, 0)) H') (hn : cs.size = n) (hn' : cs'.size = n) (h1 : ∀ v ∈ cs', v.oneCell' = true) (k : Spl P N Be ops Q rest e w0 H') :
    Spl P N Be ops Q (⟨none, .store t x y, ty, pos, after, none⟩ :: rest) e w0 H := by
  intro a w hf hh
  refine wpList_plain rfl fun K hK => ?_
  have hg : w.heap[g]? = some (.cells cs T (0, 0)) := hh.own _ hu.mem
  have hst := run_storeCells_at (P := P) g 0 T cs'.toList 0 cs w hg (by simp; omega) (fun v hv => h1 v (by simpa using hv))
  have hrow : (cs.toList.take (0 + 0) ++ cs'.toList ++ cs.toList.drop (0 + 0 + cs'.toList.length)).toArray = cs' := by
    have : cs.toList.drop cs'.size = [] := List.drop_eq_nil_of_le (by simp; omega)
    simp [this]
  rw [hrow] at hst
  have hr : (execOp a.eval ⟨none, .store t x y, ty, pos, after, none⟩).run P w = .ok .skip (w.setRow g cs') := by
    simp [execOp, hx N a hf rfl, hy N a hf rfl, Instr.storeAt, Instr.sureAddr, storeVar, hs.run w, Value.cells, hn', hst]
  unfold Oper.wp
  rw [hr, Oper.upon_skip]
  exact hK _ _ (k _ _ hf.putnone (hh.upd hu rfl rfl rfl (by simp [World.setRow]) (fun k _ hk => setRow_other w g k cs' hk) (setRow_heap w g cs cs' T (0, 0) hg)))

/-- A store over a part of an own block. -/
theorem spl_storep {t : TypeId} {x y : Operand} {g off n : Nat} {cs cs' : Array Value} {T : TypeId} {H' : Heap} (hx : Ev true e x (.pointer (some ⟨g, off, none⟩))) (hy : Ev true e y (.agg cs')) [hs : TSize P t n]
    (hu : Upd H g (.cells cs T (0, 0)) (.cells (cs.toList.take off ++ cs'.toList ++ cs.toList.drop (off + n)).toArray T (0, 0)) H') (hn : off + n ≤ cs.size) (hn' : cs'.size = n) (h1 : ∀ v ∈ cs', v.oneCell' = true) (k : Spl P N Be ops Q rest e w0 H') :
    Spl P N Be ops Q (⟨none, .store t x y, ty, pos, after, none⟩ :: rest) e w0 H := by
  intro a w hf hh
  refine wpList_plain rfl fun K hK => ?_
  have hg : w.heap[g]? = some (.cells cs T (0, 0)) := hh.own _ hu.mem
  have hst := run_storeCells_at (P := P) g off T cs'.toList 0 cs w hg (by simp; omega) (fun v hv => h1 v (by simpa using hv))
  simp only [Nat.add_zero, Array.length_toList, hn'] at hst
  have hr : (execOp a.eval ⟨none, .store t x y, ty, pos, after, none⟩).run P w = .ok .skip (w.setRow g (cs.toList.take off ++ cs'.toList ++ cs.toList.drop (off + n)).toArray) := by
    simp only [execOp, hx N a hf rfl, hy N a hf rfl, Instr.storeAt, Instr.sureAddr, storeVar, hs.run w, Value.cells, hn', hst, Sem.run_bind, Sem.run_pure, Result.andThen_ok, ne_eq, not_true_eq_false, if_false]
  unfold Oper.wp
  rw [hr, Oper.upon_skip]
  exact hK _ _ (k _ _ hf.putnone (hh.upd hu rfl rfl rfl (by simp [World.setRow]) (fun k _ hk => setRow_other w g k _ hk) (setRow_heap w g cs _ T (0, 0) hg)))

/-! ### Calls -/
/-- A call that hands back v and leaves all that was there as it was. -/
def Ret (w : World) (v : Value) : Ending → World → Prop := fun en w' => en = .returned v ∧ Below w.heap.size w w'

theorem exec_call {a : Act} {w : World} {f : FuncId} {xs : List Operand} {ts : Array TypeId} {vs : List Value} {o : Oper} {c : Operand} {first cap : Array Value} [TFn P f] (ho : o.op = .call ⟨.value c, xs.toArray, ts⟩) (hc : a.eval c = .func (.func f) first cap) (h : xs.map a.eval = vs) :
    (execOp a.eval o).run P w = .ok (.enter f (first ++ vs.toArray ++ cap)) w := by
  simp only [execOp, ho, resolve, Deferred.ofValue, hc, Sem.run_bind, Sem.run_pure, Result.andThen_ok, invoke]
  have h2 : Array.map a.eval xs.toArray = vs.toArray := by simp [h]
  rw [h2]
  exact TFn.run w _

/-- A call of a named function that only makes memory of its own. -/
theorem spl_callp {f : FuncId} {xs : List Operand} {ts : Array TypeId} {vs : List Value} {v : Value} [TFn P f] (hN : Nat.blt d N = true) (hx : Evs true e xs vs) (hc : ∀ w, Hp Be w0 H w → Calls P f vs.toArray w (Ret w v))
    (k : Spl P N Be ops Q rest ((d, true, v) :: e) w0 H) : Spl P N Be ops Q (⟨some d, .call ⟨.value (.func f), xs.toArray, ts⟩, ty, pos, after, none⟩ :: rest) e w0 H := by
  intro a w hf hh
  have hd : d < N := by simpa [Nat.blt_eq] using hN
  refine wpList_plain rfl fun K hK => ?_
  unfold Oper.wp
  rw [exec_call (f := f) (first := #[]) (cap := #[]) rfl rfl (hx N a hf rfl), Oper.upon_enter]
  simp only [List.nil_append, List.append_toArray, List.append_nil]
  refine (hc w hh).mono ?_
  rintro en w' ⟨rfl, hb⟩
  exact hK _ _ (k _ _ (hf.puttrue hd) (hh.below hb))

theorem spl_callp_g {f : FuncId} {xs : List Operand} {ts : Array TypeId} {vs : List Value} {v : Value} {g : Option (Nat × Bool)} {G : Bool} [TFn P f] (hN : Nat.blt d N = true) (hg : Gd ops e g G) (hx : Evs G e xs vs) (hc : G = true → ∀ w, Hp Be w0 H w → Calls P f vs.toArray w (Ret w v))
    (k : Spl P N Be ops Q rest ((d, G, v) :: e) w0 H) : Spl P N Be ops Q (⟨some d, .call ⟨.value (.func f), xs.toArray, ts⟩, ty, pos, after, g⟩ :: rest) e w0 H := by
  intro a w hf hh
  have hd : d < N := by simpa [Nat.blt_eq] using hN
  refine wpList_step fun K hK => ?_
  rw [hg N a _ hf rfl]
  cases hG : G with
  | true =>
    rw [if_pos rfl]
    unfold Oper.wp
    rw [exec_call (f := f) (first := #[]) (cap := #[]) rfl rfl (hx N a hf hG), Oper.upon_enter]
    simp only [List.nil_append, List.append_toArray, List.append_nil]
    refine (hc hG w hh).mono ?_
    rintro en w' ⟨rfl, hb⟩
    refine hK _ _ (k _ _ ?_ (hh.below hb))
    rw [hG]; exact hf.puttrue hd
  | false =>
    rw [if_neg (by simp)]
    refine hK _ _ (k _ _ ?_ hh)
    rw [hG]; exact hf.put (g := false) hd

/-- A call that hands back one of a family of values, of which something is known. -/
def RetP {X : Type} (w : World) (V : X → Value) (I : X → Prop) : Ending → World → Prop := fun en w' => ∃ x, en = .returned (V x) ∧ I x ∧ Below w.heap.size w w'
theorem spl_callb {f : FuncId} {xs : List Operand} {ts : Array TypeId} {vs : List Value} {X : Type} {V : X → Value} {I : X → Prop} [TFn P f] (hN : Nat.blt d N = true) (hx : Evs true e xs vs) (hc : ∀ w, Hp Be w0 H w → Calls P f vs.toArray w (RetP w V I))
    (k : ∀ x, I x → Spl P N Be ops Q rest ((d, true, V x) :: e) w0 H) : Spl P N Be ops Q (⟨some d, .call ⟨.value (.func f), xs.toArray, ts⟩, ty, pos, after, none⟩ :: rest) e w0 H := by
  intro a w hf hh
  have hd : d < N := by simpa [Nat.blt_eq] using hN
  refine wpList_plain rfl fun K hK => ?_
  unfold Oper.wp
  rw [exec_call (f := f) (first := #[]) (cap := #[]) rfl rfl (hx N a hf rfl), Oper.upon_enter]
  simp only [List.nil_append, List.append_toArray, List.append_nil]
  refine (hc w hh).mono ?_
  rintro en w' ⟨x, rfl, hI, hb⟩
  exact hK _ _ (k x hI _ _ (hf.puttrue hd) (hh.below hb))
theorem spl_callb_g {f : FuncId} {xs : List Operand} {ts : Array TypeId} {vs : List Value} {X : Type} [Inhabited X] {V : X → Value} {I : X → Prop} {g : Option (Nat × Bool)} {G : Bool} [TFn P f] (hN : Nat.blt d N = true) (hg : Gd ops e g G) (hx : Evs G e xs vs) (hc : G = true → ∀ w, Hp Be w0 H w → Calls P f vs.toArray w (RetP w V I))
    (k : ∀ x, (G = true → I x) → Spl P N Be ops Q rest ((d, G, V x) :: e) w0 H) : Spl P N Be ops Q (⟨some d, .call ⟨.value (.func f), xs.toArray, ts⟩, ty, pos, after, g⟩ :: rest) e w0 H := by
  intro a w hf hh
  have hd : d < N := by simpa [Nat.blt_eq] using hN
  refine wpList_step fun K hK => ?_
  rw [hg N a _ hf rfl]
  cases hG : G with
  | true =>
    rw [if_pos rfl]
    unfold Oper.wp
    rw [exec_call (f := f) (first := #[]) (cap := #[]) rfl rfl (hx N a hf hG), Oper.upon_enter]
    simp only [List.nil_append, List.append_toArray, List.append_nil]
    refine (hc hG w hh).mono ?_
    rintro en w' ⟨x, rfl, hI, hb⟩
    refine hK _ _ (k x (fun _ => hI) _ _ ?_ (hh.below hb))
    rw [hG]; exact hf.puttrue hd
  | false =>
    rw [if_neg (by simp)]
    refine hK _ _ (k default (fun h => by rw [hG] at h; cases h) _ _ ?_ hh)
    rw [hG]; exact hf.put (g := false) hd

/-- A call that hands back a value and blocks of its own. -/
def RetH {X : Type} (w : World) (V : X → Value) (HH : X → Heap) (I : X → Prop) : Ending → World → Prop := fun en w' => ∃ x, en = .returned (V x) ∧ I x ∧ Hp w.heap.size w (HH x) w'
theorem spl_callh {f : FuncId} {xs : List Operand} {ts : Array TypeId} {vs : List Value} {X : Type} {V : X → Value} {HH : X → Heap} {I : X → Prop} [TFn P f] (hN : Nat.blt d N = true) (hx : Evs true e xs vs) (hc : ∀ w, Hp Be w0 H w → Calls P f vs.toArray w (RetH w V HH I))
    (k : ∀ x, I x → (∀ p ∈ HH x, w0.heap.size ≤ p.1) → Spl P N Be ops Q rest ((d, true, V x) :: e) w0 (HH x ++ H)) : Spl P N Be ops Q (⟨some d, .call ⟨.value (.func f), xs.toArray, ts⟩, ty, pos, after, none⟩ :: rest) e w0 H := by
  intro a w hf hh
  have hd : d < N := by simpa [Nat.blt_eq] using hN
  refine wpList_plain rfl fun K hK => ?_
  unfold Oper.wp
  rw [exec_call (f := f) (first := #[]) (cap := #[]) rfl rfl (hx N a hf rfl), Oper.upon_enter]
  simp only [List.nil_append, List.append_toArray, List.append_nil]
  refine (hc w hh).mono ?_
  rintro en w' ⟨x, rfl, hI, hb⟩
  exact hK _ _ (k x hI (fun p hp => Nat.le_trans hh.size (hb.low p hp)) _ _ (hf.puttrue hd) (hh.append hb))
theorem spl_callhv {c : Operand} {f : FuncId} {first cap : List Value} {xs : List Operand} {ts : Array TypeId} {vs : List Value} {X : Type} {V : X → Value} {HH : X → Heap} {I : X → Prop} [TFn P f] (hN : Nat.blt d N = true) (hcv : Ev true e c (.func (.func f) first.toArray cap.toArray)) (hx : Evs true e xs vs)
    (hc : ∀ w, Hp Be w0 H w → Calls P f (first ++ vs ++ cap).toArray w (RetH w V HH I))
    (k : ∀ x, I x → (∀ p ∈ HH x, w0.heap.size ≤ p.1) → Spl P N Be ops Q rest ((d, true, V x) :: e) w0 (HH x ++ H)) : Spl P N Be ops Q (⟨some d, .call ⟨.value c, xs.toArray, ts⟩, ty, pos, after, none⟩ :: rest) e w0 H := by
  intro a w hf hh
  have hd : d < N := by simpa [Nat.blt_eq] using hN
  refine wpList_plain rfl fun K hK => ?_
  unfold Oper.wp
  rw [exec_call (f := f) rfl (hcv N a hf rfl) (hx N a hf rfl), Oper.upon_enter]
  simp only [List.append_toArray]
  refine (hc w hh).mono ?_
  rintro en w' ⟨x, rfl, hI, hb⟩
  exact hK _ _ (k x hI (fun p hp => Nat.le_trans hh.size (hb.low p hp)) _ _ (hf.puttrue hd) (hh.append hb))

/-- The same through a function value. -/
theorem spl_callv {c : Operand} {f : FuncId} {first cap : List Value} {xs : List Operand} {ts : Array TypeId} {vs : List Value} {v : Value} [TFn P f] (hN : Nat.blt d N = true) (hcv : Ev true e c (.func (.func f) first.toArray cap.toArray)) (hx : Evs true e xs vs)
    (hc : ∀ w, Hp Be w0 H w → Calls P f (first ++ vs ++ cap).toArray w (Ret w v))
    (k : Spl P N Be ops Q rest ((d, true, v) :: e) w0 H) : Spl P N Be ops Q (⟨some d, .call ⟨.value c, xs.toArray, ts⟩, ty, pos, after, none⟩ :: rest) e w0 H := by
  intro a w hf hh
  have hd : d < N := by simpa [Nat.blt_eq] using hN
  refine wpList_plain rfl fun K hK => ?_
  unfold Oper.wp
  rw [exec_call (f := f) rfl (hcv N a hf rfl) (hx N a hf rfl), Oper.upon_enter]
  simp only [List.append_toArray]
  refine (hc w hh).mono ?_
  rintro en w' ⟨rfl, hb⟩
  exact hK _ _ (k _ _ (hf.puttrue hd) (hh.below hb))

/-- A call of whatever effect: what it leaves is told by the caller. -/
theorem spl_callx {f : FuncId} {xs : List Operand} {ts : Array TypeId} {vs : List Value} [TFn P f] {X : Type} (V : X → Value) (W : X → World) (HH : X → Heap) (I : X → Prop) (hN : Nat.blt d N = true) (hx : Evs true e xs vs)
    (hc : ∀ w, Hp Be w0 H w → Calls P f vs.toArray w (fun en w' => ∃ x, en = .returned (V x) ∧ I x ∧ Hp Be (W x) (HH x) w'))
    (k : ∀ x, I x → Spl P N Be ops Q rest ((d, true, V x) :: e) (W x) (HH x)) : Spl P N Be ops Q (⟨some d, .call ⟨.value (.func f), xs.toArray, ts⟩, ty, pos, after, none⟩ :: rest) e w0 H := by
  intro a w hf hh
  have hd : d < N := by simpa [Nat.blt_eq] using hN
  refine wpList_plain rfl fun K hK => ?_
  unfold Oper.wp
  rw [exec_call (f := f) (first := #[]) (cap := #[]) rfl rfl (hx N a hf rfl), Oper.upon_enter]
  simp only [List.nil_append, List.append_toArray, List.append_nil]
  refine (hc w hh).mono ?_
  rintro en w' ⟨x, rfl, hI, hw⟩
  exact hK _ _ (k x hI _ _ (hf.puttrue hd) hw)
/-- The same where the result is dropped. -/
theorem spl_callx0 {f : FuncId} {xs : List Operand} {ts : Array TypeId} {vs : List Value} [TFn P f] {X : Type} (V : X → Value) (W : X → World) (HH : X → Heap) (I : X → Prop) (hx : Evs true e xs vs)
    (hc : ∀ w, Hp Be w0 H w → Calls P f vs.toArray w (fun en w' => ∃ x, en = .returned (V x) ∧ I x ∧ Hp Be (W x) (HH x) w'))
    (k : ∀ x, I x → Spl P N Be ops Q rest e (W x) (HH x)) : Spl P N Be ops Q (⟨none, .call ⟨.value (.func f), xs.toArray, ts⟩, ty, pos, after, none⟩ :: rest) e w0 H := by
  intro a w hf hh
  refine wpList_plain rfl fun K hK => ?_
  unfold Oper.wp
  rw [exec_call (f := f) (first := #[]) (cap := #[]) rfl rfl (hx N a hf rfl), Oper.upon_enter]
  simp only [List.nil_append, List.append_toArray, List.append_nil]
  refine (hc w hh).mono ?_
  rintro en w' ⟨x, rfl, hI, hw⟩
  exact hK _ _ (k x hI _ _ hf.putnone hw)

/-- Calls in a region that draws its order. -/
theorem spq_callp_g {f : FuncId} {xs : List Operand} {ts : Array TypeId} {vs : List Value} {v : Value} {g : Option (Nat × Bool)} {G : Bool} [TFn P f] (hN : Nat.blt d N = true) (hg : Gd ops e g G) (hx : Evs G e xs vs) (hc : G = true → ∀ w, Hp Be w0 H w → Calls P f vs.toArray w (Ret w v))
    (k : Spq P N Be ops Q rest ((d, G, v) :: e) w0 H) : Spq P N Be ops Q (⟨some d, .call ⟨.value (.func f), xs.toArray, ts⟩, ty, pos, after, g⟩ :: rest) e w0 H := by
  intro a hf
  have hd : d < N := by simpa [Nat.blt_eq] using hN
  refine wpQuiet_step fun K hK => ?_
  rw [hg N a _ hf rfl]
  cases hG : G with
  | true =>
    rw [if_pos rfl]
    refine ⟨v, fun w hw => ?_, hK _ (k _ ?_)⟩
    · unfold Oper.quietAt
      rw [exec_call (f := f) (first := #[]) (cap := #[]) rfl rfl (hx N a hf hG)]
      simp only [List.nil_append, List.append_toArray, List.append_nil, Oper.quietUpon, true_and]
      exact (hc hG w hw).mono fun en w' ⟨h1, h2⟩ => ⟨h1, hw.below h2⟩
    · rw [hG]; exact hf.puttrue hd
  | false =>
    rw [if_neg (by simp)]
    refine hK _ (k _ ?_)
    rw [hG]; exact hf.put (g := false) hd
theorem spq_callp {f : FuncId} {xs : List Operand} {ts : Array TypeId} {vs : List Value} {v : Value} [TFn P f] (hN : Nat.blt d N = true) (hx : Evs true e xs vs) (hc : ∀ w, Hp Be w0 H w → Calls P f vs.toArray w (Ret w v))
    (k : Spq P N Be ops Q rest ((d, true, v) :: e) w0 H) : Spq P N Be ops Q (⟨some d, .call ⟨.value (.func f), xs.toArray, ts⟩, ty, pos, after, none⟩ :: rest) e w0 H :=
  spq_callp_g hN Gd.none hx (fun _ => hc) k
theorem spq_callv {c : Operand} {f : FuncId} {first cap : List Value} {xs : List Operand} {ts : Array TypeId} {vs : List Value} {v : Value} [TFn P f] (hN : Nat.blt d N = true) (hcv : Ev true e c (.func (.func f) first.toArray cap.toArray)) (hx : Evs true e xs vs)
    (hc : ∀ w, Hp Be w0 H w → Calls P f (first ++ vs ++ cap).toArray w (Ret w v))
    (k : Spq P N Be ops Q rest ((d, true, v) :: e) w0 H) : Spq P N Be ops Q (⟨some d, .call ⟨.value c, xs.toArray, ts⟩, ty, pos, after, none⟩ :: rest) e w0 H := by
  intro a hf
  have hd : d < N := by simpa [Nat.blt_eq] using hN
  refine wpQuiet_step fun K hK => ?_
  rw [if_pos (by simp [Region.wanted])]
  refine ⟨v, fun w hw => ?_, hK _ (k _ (hf.puttrue hd))⟩
  unfold Oper.quietAt
  rw [exec_call (f := f) rfl (hcv N a hf rfl) (hx N a hf rfl)]
  simp only [List.append_toArray, Oper.quietUpon, true_and]
  exact (hc w hw).mono fun en w' ⟨h1, h2⟩ => ⟨h1, hw.below h2⟩
end

/-- A function that hands back a value and leaves all as it was. -/
theorem ret_below {Be : Nat} {w w0 w' : World} {H : Heap} {v : Value} (hBe : Be = w.heap.size) (hb : Below Be w w0) (hh : Hp Be w0 H w') : Ret w v (.returned v) w' := ⟨rfl, by subst hBe; exact hb.trans hh.belowBe⟩
theorem ret_same {w w' : World} {H : Heap} {v : Value} (hh : Hp w.heap.size w H w') : Ret w v (.returned v) w' := ⟨rfl, hh.belowBe⟩

theorem ret_ok {P : Program} {fn : Func} {rs : Array ResultVar} {w : World} {e : Env} {H : Heap} {v v0 : Value} (hr : fn.results = rs) (h : Res rs P w.heap.size e w H v) (hv : v = v0) : retQ P fn w.heap.size (Ret w v0) .ret e w H := by
  subst hr; subst hv
  exact ⟨v, h, fun w' hh => ret_same hh⟩
theorem retP_ok {P : Program} {fn : Func} {rs : Array ResultVar} {w : World} {e : Env} {H : Heap} {v : Value} {X : Type} {V : X → Value} {I : X → Prop} (hr : fn.results = rs) (h : Res rs P w.heap.size e w H v) (hv : ∃ x, v = V x ∧ I x) : retQ P fn w.heap.size (RetP w V I) .ret e w H := by
  subst hr
  obtain ⟨x, rfl, hI⟩ := hv
  exact ⟨_, h, fun w' hh => ⟨x, rfl, hI, hh.belowBe⟩⟩
theorem retH_ok {P : Program} {fn : Func} {rs : Array ResultVar} {w : World} {e : Env} {H' : Heap} {v : Value} {X : Type} {V : X → Value} {HH : X → Heap} {I : X → Prop} (hr : fn.results = rs) (h : Res rs P w.heap.size e w H' v) (hv : ∃ x, v = V x ∧ I x ∧ HKeep w (HH x) H') : retQ P fn w.heap.size (RetH w V HH I) .ret e w H' := by
  subst hr
  obtain ⟨x, rfl, hI, hk⟩ := hv
  exact ⟨_, h, fun w' hh => ⟨x, rfl, hI, hh.sub hk⟩⟩
theorem Ret.toP {w : World} {X : Type} {V : X → Value} {I : X → Prop} {x : X} (hI : I x) : ∀ en w', Ret w (V x) en w' → RetP w V I en w' := fun _ _ h => ⟨x, h.1, hI, h.2⟩
theorem ret_any {P : Program} {fn : Func} {rs : Array ResultVar} {Be : Nat} {w0 : World} {e : Env} {H : Heap} {v : Value} {R : Ending → World → Prop} (hr : fn.results = rs) (h : Res rs P Be e w0 H v) (k : ∀ w', Hp Be w0 H w' → R (.returned v) w') : retQ P fn Be R .ret e w0 H := by
  subst hr
  exact ⟨v, h, k⟩
theorem end_any {P : Program} {fn : Func} {rs : Array ResultVar} {Be : Nat} {w0 : World} {e : Env} {H : Heap} {v : Value} {R : Ending → World → Prop} (hr : fn.results = rs) (h : Res rs P Be e w0 H v) (k : ∀ w', Hp Be w0 H w' → R (.returned v) w') : retQ P fn Be R .normal e w0 H := by
  subst hr
  exact ⟨v, h, k⟩

theorem ones_of_all {cs : Array Value} (h : cs.toList.all (·.oneCell') = true) : ∀ v ∈ cs, v.oneCell' = true := fun v hv => List.all_eq_true.1 h v (by simpa using hv)
/-- All cells are single ones. -/
class Ones (cs : Array Value) : Prop where
  one : ∀ v ∈ cs, v.oneCell' = true

section
variable {P : Program} {Be : Nat} {w0 : World} {H : Heap} {G : Bool} {e : Env} {ty : TypeId}
theorem Res1.cell {x : Tmp} {t : TypeId} {g n : Nat} {cs : Array Value} {T : TypeId} {f : Nat × Nat} (h : look e x = some (true, .pointer (some ⟨g, 0, none⟩))) (hm : (g, Obj.cells cs T f) ∈ H) (hn : cs.size = n) [TAgg P t] [hs : TSize P t n] : Res1 (.cell x t) P Be e w0 H (.agg cs) := by
  intro N a w hf hh
  have := hf.get x true _ h
  simp only [gv] at this
  simp [rv, this, asAddr, loadVar, TAgg.run w (P := P) (t := t), hs.run w, loadCells_of (P := P) (w := w) (ad := ⟨g, 0, none⟩) hn fun j v hj => by rw [addr_add0]; exact (hh.cell hm j).trans hj]
theorem Res1.cell1 {x : Tmp} {t : TypeId} {g : Nat} {cs : Array Value} {v : Value} {T : TypeId} {f : Nat × Nat} (h : look e x = some (true, .pointer (some ⟨g, 0, none⟩))) (hm : (g, Obj.cells cs T f) ∈ H) (hv : cs[0]? = some v) [TCell P t] : Res1 (.cell x t) P Be e w0 H v := by
  intro N a w hf hh
  have := hf.get x true _ h
  simp only [gv] at this
  simp [rv, this, asAddr, loadVar, TCell.run w (P := P) (t := t), (hh.cell hm 0).trans hv]

/-! ### Struct values -/
end
/-- Where the fields lie: offset and number of cells. -/
class TPlaces (P : Program) (t : TypeId) (pl : outParam (List (Nat × Nat))) : Prop where
  places : (match P.underlying t with | some (.struct fs) => fs.toList.mapM (fun f => (P.info? f.type).map fun i => (f.offset, i.size)) | _ => none) = some pl

def splice (z : List Value) (off : Nat) (xs : List Value) : List Value := z.take off ++ xs ++ z.drop (off + xs.length)
def fillL (pl : List (Nat × Nat)) : List Value → List (Nat × Value) → List Value
  | z, [] => z
  | z, (i, v) :: r => match pl[i]? with
    | some (off, _) => fillL pl (splice z off v.cells.toList) r
    | none => fillL pl z r
def fillOk (pl : List (Nat × Nat)) (n : Nat) : List (Nat × Value) → Bool
  | [] => true
  | (i, v) :: r => (match pl[i]? with | some (off, size) => Nat.beq v.cells.toList.length size && Nat.ble (off + size) n | none => false) && fillOk pl n r

theorem length_splice {z xs : List Value} {off : Nat} (h : off + xs.length ≤ z.length) : (splice z off xs).length = z.length := by
  simp [splice]; omega

theorem fold_set : ∀ (xs : List Value) (k off : Nat) (cells : Array Value), off + k + xs.length ≤ cells.size →
    (xs.zipIdx k).foldl (fun cs (c, j) => cs.setIfInBounds (off + j) c) cells = (splice cells.toList (off + k) xs).toArray
  | [], k, off, cells, h => by simp [splice]
  | x :: xs, k, off, cells, h => by
    simp only [List.zipIdx_cons, List.foldl_cons]
    rw [fold_set xs (k + 1) off _ (by simp at h ⊢; omega)]
    congr 1
    have h' : off + k < cells.toList.length := by simp at h ⊢; omega
    simp only [Array.toList_setIfInBounds]
    generalize cells.toList = l at h'
    rw [show off + (k + 1) = off + k + 1 by omega]
    generalize off + k = n at h'
    simp only [splice, List.length_cons]
    rw [List.set_eq_take_append_cons_drop, if_pos h']
    rw [List.take_append, List.take_of_length_le (by simp; omega), List.length_take, Nat.min_eq_left (by omega), show n + 1 - n = 1 by omega, List.take_succ_cons, List.take_zero]
    rw [List.drop_append, List.drop_eq_nil_of_le (by simp; omega), List.length_take, Nat.min_eq_left (by omega), show n + 1 + xs.length - n = xs.length + 1 by omega, List.drop_succ_cons, List.drop_drop]
    simp [Nat.add_assoc, Nat.add_comm 1]

theorem fill_of {pl : List (Nat × Nat)} : ∀ (ps : List (Nat × Value)) (z : List Value), fillOk pl z.length ps = true → Instr.fill (pl.toArray[·]?) z.toArray ps = some (fillL pl z ps).toArray
  | [], z, _ => rfl
  | (i, v) :: r, z, h => by
    simp only [fillOk, Bool.and_eq_true] at h
    obtain ⟨h1, h2⟩ := h
    simp only [Instr.fill, fillL, List.getElem?_toArray]
    cases hp : pl[i]? with
    | none => rw [hp] at h1; cases h1
    | some p =>
      obtain ⟨off, size⟩ := p
      rw [hp] at h1
      simp only [Bool.and_eq_true] at h1
      have h3 : v.cells.size = size := by have := Nat.eq_of_beq_eq_true h1.1; simpa using this
      have h4 : off + size ≤ z.length := Nat.le_of_ble_eq_true h1.2
      simp only
      rw [if_neg (by simp [h3]; omega)]
      have h5 : Array.foldl (fun cs x => cs.setIfInBounds (off + x.2) x.1) z.toArray v.cells.zipIdx = (splice z off v.cells.toList).toArray := by
        rw [← Array.foldl_toList, Array.toList_zipIdx]
        have := fold_set v.cells.toList 0 off z.toArray (by simp [h3]; omega)
        simpa using this
      rw [h5]
      have h6 := fill_of (pl := pl) r (splice z off v.cells.toList) (by rw [length_splice (by simp [h3]; omega)]; exact h2)
      simpa only [List.getElem?_toArray] using h6
section
variable {P : Program} {Be : Nat} {w0 : World} {H : Heap} {G : Bool} {e : Env} {ty : TypeId}
theorem TPlaces.run {t : TypeId} {pl : List (Nat × Nat)} [h : TPlaces P t pl] (w : World) : ∃ fs, P.underlying t = some (.struct fs) ∧ (fs.mapM fun f => do pure (f.offset, ← sizeOf f.type) : Sem _).run P w = .ok pl.toArray w := by
  have := h.places
  cases hu : P.underlying t with
  | none => rw [hu] at this; cases this
  | some d =>
    rw [hu] at this
    cases d <;> first | cases this | skip
    rename_i fs
    refine ⟨fs, rfl, ?_⟩
    simp only at this
    rw [← Array.toArray_toList (xs := fs), List.mapM_toArray]
    generalize fs.toList = l at this
    have key : ∀ (l : List Field) (pl : List (Nat × Nat)), l.mapM (fun f => (P.info? f.type).map fun i => (f.offset, i.size)) = some pl → (l.mapM fun f => do pure (f.offset, ← sizeOf f.type) : Sem _).run P w = .ok pl w := by
      intro l
      induction l with
      | nil => intro pl h; simp at h; simp [h]
      | cons f l ih =>
        intro pl h
        simp only [List.mapM_cons, Option.bind_eq_bind, Option.bind_eq_some_iff, Option.pure_def, Option.some.injEq] at h
        obtain ⟨x, hx, xs, hxs, rfl⟩ := h
        cases hi : P.info? f.type with
        | none => rw [hi] at hx; cases hx
        | some i =>
          rw [hi] at hx
          simp at hx
          have := ih xs hxs
          simp only [List.mapM_cons, Sem.run_bind, sizeOf, typeInfo, hi, run_program, Result.andThen_ok, Sem.run_pure] at this ⊢
          simp only [this, Result.andThen_ok, Sem.run_pure, hx]
    have h2 := key l pl this
    simp only [Sem.run_map, h2, Result.andThen_ok]

def zipI : List (Nat × Operand) → List Value → List (Nat × Value)
  | (i, _) :: ps, v :: vs => (i, v) :: zipI ps vs
  | _, _ => []
theorem zipI_map (f : Operand → Value) : ∀ (ps : List (Nat × Operand)), zipI ps (ps.map fun p => f p.2) = ps.map fun p => (p.1, f p.2)
  | [] => rfl
  | p :: ps => by simp only [List.map_cons, zipI, zipI_map f ps]

/-- 'T{..}': the parts written over the zero value. -/
theorem ex_build {t : TypeId} {z : Value} {pl : List (Nat × Nat)} {ps : List (Nat × Operand)} {vs : List Value} [hz : TZero P t z] [hp : TPlaces P t pl] (h : Evs G e (ps.map (·.2)) vs) (hok : fillOk pl z.cells.toList.length (zipI ps vs) = true) :
    Ex P Be w0 H G e (.build t ps.toArray) ty (.agg (fillL pl z.cells.toList (zipI ps vs)).toArray) := by
  intro N a w o ho _ hf hh hG
  have hv := h N a hf hG
  obtain ⟨fs, hu, hm⟩ := hp.run w
  have hvs : zipI ps vs = ps.map fun p => (p.1, a.eval p.2) := by rw [← hv, List.map_map]; exact zipI_map a.eval ps
  have hfill := fill_of (pl := pl) (zipI ps vs) z.cells.toList hok
  simp only [Array.toArray_toList] at hfill
  have h3 : (Array.map (fun x => (x.1, a.eval x.2)) ps.toArray).toList = zipI ps vs := by simp [hvs]
  simp only [execOp, ho, Instr.build, Sem.run_bind, hz.run w, Result.andThen_ok, run_underlying hu, hm, h3, hfill, Sem.run_pure]
end

/-! ### '[]T{..}' -/
theorem fill_seq {size : Nat} : ∀ (vs : List Value) (k : Nat) (z : List Value), (∀ v ∈ vs, v.cells.size = size) → z.length = (k + vs.length) * size →
    Instr.fill (fun i => some (i * size, size)) z.toArray ((List.range' k vs.length).zip vs) = some (z.take (k * size) ++ vs.flatMap fun v => v.cells.toList).toArray
  | [], k, z, _, hl => by simp at hl; simp [Instr.fill, List.take_of_length_le (Nat.le_of_eq hl)]
  | v :: vs, k, z, hv, hl => by
    have h3 : v.cells.size = size := hv v (by simp)
    simp only [List.length_cons] at hl
    have h40 : (k + (vs.length + 1)) * size = k * size + size + vs.length * size := by
      have e1 := Nat.add_mul k (vs.length + 1) size
      have e2 := Nat.add_mul vs.length 1 size
      omega
    have h4 : k * size + size ≤ z.length := by omega
    simp only [List.length_cons, List.range'_succ, List.zip_cons_cons, Instr.fill]
    rw [if_neg (by simp [h3]; omega)]
    have h5 : Array.foldl (fun cs x => cs.setIfInBounds (k * size + x.2) x.1) z.toArray v.cells.zipIdx = (splice z (k * size) v.cells.toList).toArray := by
      rw [← Array.foldl_toList, Array.toList_zipIdx]
      have := fold_set v.cells.toList 0 (k * size) z.toArray (by simp [h3]; omega)
      simpa using this
    rw [h5]
    have ih := fill_seq vs (k + 1) (splice z (k * size) v.cells.toList) (fun u hu => hv u (by simp [hu])) (by rw [length_splice (by simp [h3]; omega), hl]; congr 1; omega)
    rw [ih]
    congr 2
    have h6 : (splice z (k * size) v.cells.toList).take ((k + 1) * size) = z.take (k * size) ++ v.cells.toList := by
      unfold splice
      have hk : (k + 1) * size = k * size + size := by have e1 := Nat.add_mul k 1 size; omega
      have hlt : (List.take (k * size) z ++ v.cells.toList).length = (k + 1) * size := by
        have h7 : v.cells.toList.length = size := by simpa using h3
        rw [List.length_append, List.length_take, h7, hk]; omega
      rw [List.take_append, hlt, Nat.sub_self, List.take_zero, List.append_nil, ← hlt, List.take_length]
    rw [h6]
    simp [List.flatMap_cons]
section
variable {P : Program} {N Be : Nat} {Q : Post} {e : Env} {w0 : World} {H : Heap} {ops : Array Oper} {rest : List Oper} {ty : TypeId} {pos : String} {after : Array Edge} {d : Nat}
theorem run_buildSlice {t el size : Nat} {z : Value} {vs : List Value} [ht : TSlice P t el] [hs : TSize P el size] [hz : TZero P el z] (w : World) (hzs : z.cells.size = size) (hsz : ∀ v ∈ vs, v.cells.size = size) (hb : vs.length * size ≤ 16777216) :
    (Instr.buildSlice t vs.length ((List.range vs.length).zip vs).toArray).run P w = .ok (.slice (some ⟨w.heap.size, 0, none⟩) vs.length vs.length) (w.alloc (.cells (vs.flatMap fun v => v.cells.toList).toArray el)) := by
  have hf : ∀ (zs : Array Value), zs.size = vs.length * size → Instr.fill (fun i => some (i * size, size)) zs ((List.range vs.length).zip vs) = some (vs.flatMap fun v => v.cells.toList).toArray := fun zs h => by
    have := fill_seq (size := size) vs 0 zs.toList hsz (by simp [h])
    rw [← List.range_eq_range'] at this
    simpa using this
  by_cases h0 : vs.length * size = 0
  · simp only [Instr.buildSlice, Sem.run_bind, run_underlying ht.slice, Result.andThen_ok, hs.run w, if_neg (show ¬ vs.length * size > 2 ^ 24 by omega), Sem.run_ite, h0, if_true, Sem.run_pure]
    rw [hf _ (by simp [h0])]
    simp [newRow]
  · simp only [Instr.buildSlice, Sem.run_bind, run_underlying ht.slice, Result.andThen_ok, hs.run w, if_neg (show ¬ vs.length * size > 2 ^ 24 by omega), Sem.run_ite, h0, if_false, Sem.run_pure, hz.run w]
    rw [hf _ (by simp)]
    simp [newRow]
theorem spl_buildSlice {t el size : Nat} {z : Value} {len : Nat} {ps : List (Nat × Operand)} {vs : List Value} [TSlice P t el] [TSize P el size] [TZero P el z] (hN : Nat.blt d N = true) (hp : ps.map (·.1) = List.range len) (h : Evs true e (ps.map (·.2)) vs)
    (hzs : z.cells.size = size) (hsz : (vs.all fun v => Nat.beq v.cells.size size) = true) (hb : Nat.ble (len * size) 16777216 = true)
    (k : ∀ g, w0.heap.size ≤ g → Spl P N Be ops Q rest ((d, true, .slice (some ⟨g, 0, none⟩) len len) :: e) w0 ((g, .cells (vs.flatMap fun v => v.cells.toList).toArray el (0, 0)) :: H)) :
    Spl P N Be ops Q (⟨some d, .buildSlice t len ps.toArray, ty, pos, after, none⟩ :: rest) e w0 H := by
  intro a w hf hh
  have hd : d < N := by simpa [Nat.blt_eq] using hN
  have hv := h N a hf rfl
  have hlen : vs.length = len := by
    have h1 := congrArg List.length hp
    have h2 := congrArg List.length hv
    simp at h1 h2
    omega
  have hzip : ps.map (fun p => (p.1, a.eval p.2)) = (List.range vs.length).zip vs := by
    rw [hlen, ← hp, ← hv, List.map_map, List.zip_map']
    rfl
  refine wpList_plain rfl fun K hK => ?_
  have hr : (execOp a.eval ⟨some d, .buildSlice t len ps.toArray, ty, pos, after, none⟩).run P w = .ok (.value (.slice (some ⟨w.heap.size, 0, none⟩) len len)) (w.alloc (.cells (vs.flatMap fun v => v.cells.toList).toArray el)) := by
    have := run_buildSlice (P := P) (t := t) (vs := vs) w hzs (fun v hv => Nat.eq_of_beq_eq_true (List.all_eq_true.1 hsz v hv)) (by rw [hlen]; exact Nat.le_of_ble_eq_true hb)
    simp only [execOp, Sem.run_bind]
    rw [show (Array.map (fun x => (x.1, a.eval x.2)) ps.toArray) = ((List.range vs.length).zip vs).toArray by rw [← hzip]; simp]
    rw [hlen] at this ⊢
    rw [this]
    rfl
  unfold Oper.wp
  rw [hr, Oper.upon_value]
  exact hK _ _ (k _ hh.size _ _ (hf.puttrue hd) (hh.alloc _))
end
end Go.Sy
