/-
  The laws on tokens, in plain terms: strings in quotes, names, a name with a symbol and a number.
-/
import Derived.Test.YtildepcgnppcjaaV2
import Derived.KernelRfl
namespace Go.Proofs.Ytildepcgnppcjaa
set_option linter.unusedVariables false
set_option linter.unusedSimpArgs false

/-- What is written in quotes is read back. -/
theorem unqL_quote : ∀ (l m : List UInt8), unqL (l.flatMap escB ++ 34 :: m) = some (l, (l.flatMap escB).length + 1)
  | [], m => by rw [List.flatMap_nil, List.nil_append, uq_q rfl]; rfl
  | c :: r, m => by
    have ih := unqL_quote r m
    rw [List.flatMap_cons, List.append_assoc]
    by_cases h10 : c.toNat = 10
    · have hc : c = 10 := UInt8.toNat.inj (by rw [h10]; rfl)
      subst hc
      show unqL (92 :: 110 :: (r.flatMap escB ++ 34 :: m)) = _
      rw [uq_b rfl, ih]
      rfl
    · by_cases h2 : c.toNat = 34 ∨ c.toNat = 92
      · have he : escB c = [92, c] := by unfold escB; rw [if_neg h10, if_pos h2]
        rw [he]
        show unqL (92 :: c :: (r.flatMap escB ++ 34 :: m)) = _
        rw [uq_b rfl]
        have hd : escOf c = some c := by
          rcases h2 with h | h
          · have : c = 34 := UInt8.toNat.inj (by rw [h]; rfl)
            subst this; rfl
          · have : c = 92 := UInt8.toNat.inj (by rw [h]; rfl)
            subst this; rfl
        rw [hd]
        simp only
        rw [ih]
        rfl
      · have he : escB c = [c] := by unfold escB; rw [if_neg h10, if_neg h2]
        rw [he]
        show unqL (c :: (r.flatMap escB ++ 34 :: m)) = _
        rw [uq_c (fun h => h2 (.inl h)) h10 (fun h => h2 (.inr h)), ih]
        simp [Nat.add_comm]
theorem quoteL_inj {l m : List UInt8} (h : quoteL l = quoteL m) : l = m := by
  have h1 := unqL_quote l []
  have h2 := unqL_quote m []
  unfold quoteL at h
  rw [(List.cons.inj h).2, h2] at h1
  exact ((Prod.mk.inj (Option.some.inj h1)).1).symm
theorem escB_len (c : UInt8) : (escB c).length ≤ 2 := by
  unfold escB
  split
  · exact Nat.le_refl _
  · split <;> simp
theorem quoteL_len (l : List UInt8) : (quoteL l).length ≤ 2 * l.length + 2 ∧ 2 ≤ (quoteL l).length := by
  have : ∀ l : List UInt8, (l.flatMap escB).length ≤ 2 * l.length := by
    intro l
    induction l with
    | nil => exact Nat.le_refl _
    | cons c r ih => have := escB_len c; rw [List.flatMap_cons, List.length_append, List.length_cons]; omega
  have := this l
  simp only [quoteL, List.length_cons, List.length_append, List.length_nil]
  omega
theorem tokC_q34 (r : List UInt8) : tokC 34 r = match unqL r with | some p => .tok 3 p.1 (p.2 + 1) | none => .err 10 := tokC_quote (by decide) (by decide) rfl
theorem tokC_quoted (l m : List UInt8) : tokC 34 (l.flatMap escB ++ 34 :: m) = .tok 3 l (quoteL l).length := by
  rw [tokC_q34, unqL_quote]
  simp [quoteL]
/-- A token alone. -/
theorem lexN_one {c : UInt8} {r : List UInt8} {k : Nat} {s : List UInt8} {a : Nat} (h1 : isBlank c = false) (h2 : ¬ c.toNat = 35) (h : tokC c r = .tok k s (r.length + 1)) : lexN (c :: r) a = ([⟨k, ofL s, a⟩], none) := by
  rw [lexN_tok (skipM_cons h1 h2) h]
  have : (c :: r).drop (r.length + 1) = [] := List.drop_eq_nil_of_le (by simp)
  rw [this, lexN_nil rfl, Nat.sub_self, Nat.add_zero]
theorem lexN_quote (l : List UInt8) (a : Nat) : lexN (quoteL l) a = ([⟨3, ofL l, a⟩], none) := by
  refine lexN_one (by decide) (by decide) ?_
  rw [tokC_quoted]
  simp [quoteL]
theorem letter_gap {c : UInt8} (h : isLetter c = true) : isBlank c = false ∧ ¬ c.toNat = 35 := by
  have hw : isLetter c = true → isBlank c = false ∧ ¬ c.toNat = 35 := by
    intro h
    constructor
    · cases hb : isBlank c with
      | false => rfl
      | true =>
        have := (isBlank_iff c).1 hb
        simp [isLetter] at h
        omega
    · intro h35
      simp [isLetter, h35] at h
  exact hw h
theorem digit_gap {c : UInt8} (h : isDigit c = true) : isBlank c = false ∧ ¬ c.toNat = 35 ∧ isLetter c = false := by
  refine ⟨?_, ?_, ?_⟩
  · cases hb : isBlank c with
    | false => rfl
    | true =>
      have := (isBlank_iff c).1 hb
      simp [isDigit] at h
      omega
  · intro h35
    simp [isDigit, h35] at h
  · cases hb : isLetter c with
    | false => rfl
    | true => simp [isDigit] at h; simp [isLetter] at hb; omega
theorem all_takeWhile {p : UInt8 → Bool} {l : List UInt8} (h : l.all p = true) : l.takeWhile p = l := by
  induction l with
  | nil => rfl
  | cons c r ih =>
    rw [List.all_cons, Bool.and_eq_true] at h
    rw [List.takeWhile_cons_of_pos h.1, ih h.2]
theorem takeWhile_all {p : UInt8 → Bool} (l : List UInt8) : (l.takeWhile p).all p = true := by
  induction l with
  | nil => rfl
  | cons c r ih =>
    cases hc : p c with
    | true => rw [List.takeWhile_cons_of_pos hc, List.all_cons, hc, ih]; rfl
    | false => rw [List.takeWhile_cons_of_neg (by rw [hc]; simp)]; rfl
/-- A name before something that is no part of it. -/
theorem tokC_name {c : UInt8} {r y : List UInt8} (h : nameL (c :: r) = true) (hy : headIs isWord y = false) : tokC c (r ++ y) = .tok 1 (c :: r) (r.length + 1) := by
  simp only [nameL, Bool.and_eq_true, decide_eq_true_iff] at h
  obtain ⟨⟨h1, h2⟩, h3⟩ := h
  rw [tokC_word h1, ← List.cons_append, takeWhile_more (all_takeWhile h2), takeWhile_head hy, List.append_nil, if_neg (by omega)]
  rfl
theorem lexN_name {l : List UInt8} (h : nameL l = true) (a : Nat) : lexN l a = ([⟨1, ofL l, a⟩], none) := by
  cases l with
  | nil => cases h
  | cons c r =>
    have hl : isLetter c = true := by simp only [nameL, Bool.and_eq_true] at h; exact h.1.1
    have ht := tokC_name (y := []) h rfl
    rw [List.append_nil] at ht
    exact lexN_one (letter_gap hl).1 (letter_gap hl).2 ht
theorem tokC_kind1 {c : UInt8} {r : List UInt8} {s : List UInt8} {n : Nat} (h : tokC c r = .tok 1 s n) : nameL s = true := by
  cases h1 : isLetter c with
  | true =>
    rw [tokC_word h1] at h
    split at h
    · cases h
    · rename_i h24
      cases h
      have hw : isWord c = true := by simp [isWord, h1]
      rw [List.takeWhile_cons_of_pos hw] at h24 ⊢
      simp only [nameL, h1, List.all_cons, hw, takeWhile_all, Bool.true_and, Bool.and_self, decide_eq_true_iff]
      omega
  | false =>
    cases h2 : isDigit c with
    | true => rw [tokC_digit h1 h2] at h; split at h <;> cases h
    | false =>
      by_cases h3 : c.toNat = 34
      · rw [tokC_quote h1 h2 h3] at h; split at h <;> cases h
      · rw [tokC_sym h1 h2 h3] at h; split at h <;> cases h
theorem lexN_kind1 {l : List UInt8} {a p : Nat} {t : ByteArray} {q : List Tk} {o : Option (Nat × Nat)} (h : lexN l a = (⟨1, t, p⟩ :: q, o)) : nameL (tx t) = true := by
  cases hs : skipM false l with
  | nil => rw [lexN_nil hs] at h; cases h
  | cons c r =>
    cases ht : tokC c r with
    | err e => rw [lexN_err hs ht] at h; cases h
    | tok k s n =>
      rw [lexN_tok hs ht] at h
      have h1 := (List.cons.inj (Prod.mk.inj h).1).1
      have hk : k = 1 := congrArg Tk.kind h1
      have hx : ofL s = t := congrArg Tk.text h1
      subst hk; subst hx
      rw [tx_ofL]
      exact tokC_kind1 ht
def name1 (t : ByteArray) : List Tk := [⟨1, t, 0⟩]
/-- A text is a name exactly if it is one token with this text. -/
theorem names_law {t : ByteArray} (ht : t.size ≤ 5000) : (nameL (tx t) = true → lexR t = (name1 t, 0, 0)) ∧ (nameL (tx t) = false → ∀ l, lexR t = (l, 0, 0) → l ≠ name1 t) := by
  constructor
  · intro h
    have := lexN_name h 0
    rw [lexR_none ht (by rw [this]), this, ofL_tx]
    rfl
  · intro h l hR hl
    subst hl
    cases hn : (lexN (tx t) 0).2 with
    | some p =>
      rw [lexR_some ht (e := p.1) (p := p.2) hn] at hR
      cases (Prod.mk.inj hR).1
    | none =>
      rw [lexR_none ht hn] at hR
      have h1 := (Prod.mk.inj hR).1
      have : lexN (tx t) 0 = (⟨1, t, 0⟩ :: [], none) := by rw [← hn, ← show (lexN (tx t) 0).1 = ⟨1, t, 0⟩ :: [] from h1]
      have := lexN_kind1 this
      rw [h] at this
      cases this
/-! ### Digits -/
def digB (n : Nat) : UInt8 := (48 + n % 10).toUInt8
def decL : Nat → Nat → List UInt8
  | 0, n => [digB n]
  | f + 1, n => if n < 10 then [digB n] else decL f (n / 10) ++ [digB n]
theorem digB_digit (n : Nat) : isDigit (digB n) = true := by
  have : (digB n).toNat = 48 + n % 10 := by simp [digB]; omega
  simp [isDigit, this]; omega
theorem decL_digit : ∀ (f n : Nat), (decL f n).all isDigit = true
  | 0, n => by simp [decL, digB_digit]
  | f + 1, n => by
    unfold decL
    split
    · simp [digB_digit]
    · rw [List.all_append, decL_digit f]; simp [digB_digit]
theorem decL_len : ∀ (f n : Nat), (decL f n).length ≤ f + 1 ∧ 1 ≤ (decL f n).length
  | 0, n => by simp [decL]
  | f + 1, n => by
    unfold decL
    have := decL_len f (n / 10)
    split
    · simp
    · rw [List.length_append]; simp; omega
theorem sym_all (x : UInt8) (h : isSym x = true) : (!isWord x && !isLetter x && !isDigit x && !isBlank x && !decide (x.toNat = 35) && !decide (x.toNat = 34)) = true := by
  have key : ((List.range 256).all fun n => (!isSym n.toUInt8) || (!isWord n.toUInt8 && !isLetter n.toUInt8 && !isDigit n.toUInt8 && !isBlank n.toUInt8 && !decide (n.toUInt8.toNat = 35) && !decide (n.toUInt8.toNat = 34))) = true := by kernel_rfl
  have := List.all_eq_true.1 key x.toNat (by simpa using x.toNat_lt)
  rw [show (x.toNat).toUInt8 = x from UInt8.toNat.inj (by simp)] at this
  rw [h] at this
  simpa using this
/-- A name, a symbol, a number. -/
theorem lexN_three {l d : List UInt8} {x : UInt8} (hl : nameL l = true) (hx : isSym x = true) (hd : d.all isDigit = true) (hd1 : 1 ≤ d.length) (hd7 : d.length ≤ 7) (a : Nat) :
    lexN (l ++ x :: d) a = ([⟨1, ofL l, a⟩, ⟨4, ofL [x], a + l.length⟩, ⟨2, ofL d, a + l.length + 1⟩], none) := by
  have hxs := sym_all x hx
  simp only [Bool.and_eq_true, Bool.not_eq_true', decide_eq_false_iff_not] at hxs
  obtain ⟨⟨⟨⟨⟨x1, x2⟩, x3⟩, x4⟩, x5⟩, x6⟩ := hxs
  cases l with
  | nil => cases hl
  | cons c r =>
    have hlet : isLetter c = true := by simp only [nameL, Bool.and_eq_true] at hl; exact hl.1.1
    have ht := tokC_name (y := x :: d) hl (by simpa [headIs] using x1)
    rw [List.cons_append, lexN_tok (skipM_cons (letter_gap hlet).1 (letter_gap hlet).2) ht]
    have e1 : (c :: (r ++ x :: d)).drop (r.length + 1) = x :: d := by rw [List.drop_succ_cons, List.drop_left]
    rw [e1]
    have hts : tokC x d = .tok 4 [x] 1 := by rw [tokC_sym x2 x3 x6, if_pos hx]
    rw [lexN_tok (skipM_cons x4 x5) hts]
    simp only [List.drop_succ_cons, List.drop_zero, Nat.sub_self, Nat.add_zero, List.length_cons]
    cases d with
    | nil => cases hd1
    | cons y z =>
      have hy : isDigit y = true := by rw [List.all_cons, Bool.and_eq_true] at hd; exact hd.1
      obtain ⟨y1, y2, y3⟩ := digit_gap hy
      have htd : tokC y z = .tok 2 (y :: z) (z.length + 1) := by
        rw [tokC_digit y3 hy, all_takeWhile hd]
        have : (y :: z).dropWhile isDigit = [] := by rw [dropWhile_drop, all_takeWhile hd, List.drop_length]
        rw [this, if_neg (by simp only [List.length_cons] at hd7; simp [headIs]; omega)]
        rfl
      rw [lexN_one y1 y2 htd]
end Go.Proofs.Ytildepcgnppcjaa
