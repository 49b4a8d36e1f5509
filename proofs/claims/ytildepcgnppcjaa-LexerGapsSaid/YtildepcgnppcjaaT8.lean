/-
  Contracts: the iterator of tokens.
-/
import Derived.Test.YtildepcgnppcjaaT7
namespace Go.Proofs.Ytildepcgnppcjaa
open Go.RowKit Go.Sy
set_option linter.unusedVariables false
set_option linter.unusedSimpArgs false
/-- What is handed to yield. -/
def fcells (k : Nat) (s : ByteArray) (a e : Nat) : Array Value := #[.int .i64 (k : Int), .string s, .int .i64 (a : Int), .int .i64 (e : Int)]
def fv (k : Nat) (s : ByteArray) (a e : Nat) : Value := .agg (fcells k s a e)
theorem TH_w {t : ByteArray} {g1 g3 g4 Be : Nat} {w0 w : World} {H : Heap} (hh : Hp Be w0 (H ++ TH t g1 g3 g4) w) : w.heap[g1]? = some (.cells #[.string t] 9 (0, 0)) ∧ w.heap[g3]? = some (.cells clsA 49 (0, 0)) :=
  ⟨hh.own (g1, _) (by simp [TH]), hh.own (g3, _) (by simp [TH])⟩
theorem TH_w2 {t : ByteArray} {g1 g3 g4 Be : Nat} {w0 w : World} {H : Heap} {p : Nat × Obj} (hh : Hp Be w0 (p :: (H ++ TH t g1 g3 g4)) w) : w.heap[g1]? = some (.cells #[.string t] 9 (0, 0)) ∧ w.heap[g3]? = some (.cells clsA 49 (0, 0)) :=
  ⟨hh.own (g1, _) (by simp [TH]), hh.own (g3, _) (by simp [TH])⟩
theorem TH_w3 {t : ByteArray} {g1 g3 g4 Be : Nat} {w0 w : World} {H : Heap} {p : Nat × Obj} (hh : Hp Be w0 (H ++ p :: TH t g1 g3 g4) w) : w.heap[g1]? = some (.cells #[.string t] 9 (0, 0)) ∧ w.heap[g3]? = some (.cells clsA 49 (0, 0)) :=
  ⟨hh.own (g1, _) (by simp [TH]), hh.own (g3, _) (by simp [TH])⟩
instance {t : ByteArray} {g1 g3 g4 : Nat} : InH (TH t g1 g3 g4) g1 (Obj.cells #[.string t] 9 (0, 0)) := ⟨by simp [TH]⟩
instance {t : ByteArray} {g1 g3 g4 : Nat} : InH (TH t g1 g3 g4) g4 (Obj.cells #[.func (.func 33) #[] #[.pointer (some ⟨g1, 0, none⟩), .pointer (some ⟨g3, 0, none⟩)]] 62 (0, 0)) := ⟨by simp [TH]⟩
theorem ex_buildE {P : Program} {Be : Nat} {w0 : World} {H : Heap} {G : Bool} {e : Env} {ty t : TypeId} {z : Value} {pl : List (Nat × Nat)} {ps : List (Nat × Operand)} {vs : List Value} {r : Array Value} [hz : TZero P t z] [hp : TPlaces P t pl] (h : Evs G e (ps.map (·.2)) vs) (hok : fillOk pl z.cells.toList.length (zipI ps vs) = true) (hr : (fillL pl z.cells.toList (zipI ps vs)).toArray = r) :
    Ex P Be w0 H G e (.build t ps.toArray) ty (.agg r) := by
  subst hr
  exact ex_build h hok
theorem lexN_at {t : ByteArray} {k kd n : Nat} {s : List UInt8} {c : UInt8} (hd : (tx t).drop k = c :: (tx t).drop (k + 1)) (h1 : isBlank c = false) (h2 : ¬ c.toNat = 35) (ht : tokC c ((tx t).drop (k + 1)) = .tok kd s n) :
    lexN ((tx t).drop k) k = (⟨kd, ofL s, k⟩ :: (lexN ((tx t).drop (k + n)) (k + n)).1, (lexN ((tx t).drop (k + n)) (k + n)).2) := by
  have h := lexN_tok (a := k) ((congrArg (skipM false) hd).trans (skipM_cons h1 h2)) ht
  rw [h, ← hd, Nat.sub_self, Nat.add_zero, List.drop_drop]
theorem lexN_at_err {t : ByteArray} {k e : Nat} {c : UInt8} (hd : (tx t).drop k = c :: (tx t).drop (k + 1)) (h1 : isBlank c = false) (h2 : ¬ c.toNat = 35) (ht : tokC c ((tx t).drop (k + 1)) = .err e) :
    lexN ((tx t).drop k) k = ([], some (e, k)) := by
  have h := lexN_err (a := k) ((congrArg (skipM false) hd).trans (skipM_cons h1 h2)) ht
  rw [h, ← hd, Nat.sub_self, Nat.add_zero]
theorem extract_run {p : UInt8 → Bool} (t : ByteArray) (k : Nat) : ofL (((tx t).drop k).takeWhile p) = t.extract k (k + (((tx t).drop k).takeWhile p).length) := by
  apply tx_inj
  rw [tx_ofL, tx_extract, List.drop_take, Nat.add_sub_cancel_left, takeWhile_take]
theorem lex_more {t : ByteArray} {pre : List Tk} {k m : Nat} {tk : Tk} (hL : lexA t = (pre ++ (lexN ((tx t).drop k) k).1, (lexN ((tx t).drop k) k).2)) (h : lexN ((tx t).drop k) k = (tk :: (lexN ((tx t).drop m) m).1, (lexN ((tx t).drop m) m).2)) :
    lexA t = ((pre ++ [tk]) ++ (lexN ((tx t).drop m) m).1, (lexN ((tx t).drop m) m).2) ∧ (∃ q, (lexA t).1 = pre ++ tk :: q) := by
  rw [hL, h]
  exact ⟨by simp, _, rfl⟩
theorem lex_last {t : ByteArray} {pre : List Tk} {k e : Nat} (hL : lexA t = (pre ++ (lexN ((tx t).drop k) k).1, (lexN ((tx t).drop k) k).2)) (h : lexN ((tx t).drop k) k = ([], some (e, k))) : lexA t = (pre, some (e, k)) := by
  rw [hL, h]; simp
theorem clsAt_nd {t : ByteArray} {i : Nat} (h : headIs isDigit ((tx t).drop i) = false) : (decide (((clsAt t i : Nat) : Int) = 3) || decide (((clsAt t i : Nat) : Int) = 5)) = headIs isWord ((tx t).drop i) := by
  rw [← clsAt_digit] at h
  rw [← clsAt_word, h, Bool.or_false]
/-- The body of the loop. -/
def loopAt (f : Func) : Code := match f.body with | some (.scope (.seq _ (.seq _ (.block _ (.loop b))))) => b | _ => .skip
/-- Who is yielded to. -/
structure Yld (Be : Nat) (w0 : World) (l : Nat) (t : ByteArray) (J : List Tk → Heap → Prop) (Jx : List Tk → Tk → Heap → Prop) (Je : Nat → Nat → Heap → Prop) : Prop where
  hyT : ∀ pre tk H R, J pre H → (∃ q, (lexA t).1 = pre ++ tk :: q) → ∀ w, Hp Be w0 (H ++ R) w → YieldAt Fence.wide 0 Try.prog l #[fv tk.kind tk.text tk.pos 0] w (RetX Be w0 (fun x : Bool × Heap => .bool x.1) (fun x => x.2 ++ R) (fun x => (x.1 = true → J (pre ++ [tk]) x.2) ∧ (x.1 = false → Jx pre tk x.2)))
  hyE : ∀ pre k s a e H R, J pre H → lexA t = (pre, some (e, a)) → e ≠ 0 → ∀ w, Hp Be w0 (H ++ R) w → YieldAt Fence.wide 0 Try.prog l #[fv k s a e] w (RetX Be w0 (fun x : Heap => .bool false) (fun x => x ++ R) (fun x => Je e a x))
def tokR (Be : Nat) (w0 : World) (g1 g3 g4 : Nat) (t : ByteArray) (J : List Tk → Heap → Prop) (Jx : List Tk → Tk → Heap → Prop) (Je : Nat → Nat → Heap → Prop) : Ending → World → Prop :=
  RetX Be w0 (fun _ : Heap => .tuple #[]) (fun x => x ++ TH t g1 g3 g4) (fun x => (J (lexA t).1 x ∧ (lexA t).2 = none) ∨ (∃ pre tk q, (lexA t).1 = pre ++ tk :: q ∧ Jx pre tk x) ∨ (∃ e a, (lexA t).2 = some (e, a) ∧ Je e a x))
def rdQ (Be : Nat) (w0 : World) (l g1 g3 g4 : Nat) (t : ByteArray) (J : List Tk → Heap → Prop) (Jx : List Tk → Tk → Heap → Prop) (Je : Nat → Nat → Heap → Prop) (k : Nat) : Post :=
  thenQ (fun e' w' H' => ∃ x : Nat × List Tk × Heap, (x.1 ≤ t.size ∧ J x.2.1 x.2.2 ∧ lexA t = (x.2.1 ++ (lexN ((tx t).drop x.1) x.1).1, (lexN ((tx t).drop x.1) x.1).2)) ∧ t.size - x.1 < t.size - k ∧
    ESub [(4, true, .int .i64 (x.1 : Int)), (0, true, .func (.yield l) #[] #[]), (1, true, .pointer (some ⟨g1, 0, none⟩)), (2, true, .pointer (some ⟨g4, 0, none⟩))] e' ∧ w0 = w' ∧ HKeep w' (x.2.2 ++ TH t g1 g3 g4) H')
    (blockQ 0 (scopeQ (retQ Try.prog Try.f34 Be (tokR Be w0 g1 g3 g4 t J Jx Je))))
end Go.Proofs.Ytildepcgnppcjaa
