/-
  Strings in quotes, tokens, texts in plain terms.
-/
import Derived.Test.YtildepcgnppcjaaTp
namespace Go.Proofs.Ytildepcgnppcjaa
open Go.RowKit Go.Sy
set_option linter.unusedVariables false
set_option linter.unusedSimpArgs false

def ofL (l : List UInt8) : ByteArray := ⟨l.toArray⟩
theorem tx_ofL (l : List UInt8) : tx (ofL l) = l := by simp [tx, ofL]
theorem ofL_tx (t : ByteArray) : ofL (tx t) = t := by
  apply ByteArray.ext
  apply Array.ext'
  simp [ofL, tx]
theorem tx_inj {s t : ByteArray} (h : tx s = tx t) : s = t := by rw [← ofL_tx s, ← ofL_tx t, h]
theorem size_ofL (l : List UInt8) : (ofL l).size = l.length := by rw [← tx_len, tx_ofL]
theorem tx_push (s : ByteArray) (c : UInt8) : tx (s.push c) = tx s ++ [c] := by simp [tx, ByteArray.push]
theorem tx_append (s t : ByteArray) : tx (s ++ t) = tx s ++ tx t := by simp [tx]
theorem tx_extract (s : ByteArray) (i j : Nat) : tx (s.extract i j) = ((tx s).take j).drop i := by simp [tx, List.drop_take]
theorem tx_empty : tx .empty = [] := rfl

/-- How a byte is written within quotes. -/
def escB (c : UInt8) : List UInt8 := if c.toNat = 10 then [92, 110] else if c.toNat = 34 ∨ c.toNat = 92 then [92, c] else [c]
def quoteL (l : List UInt8) : List UInt8 := 34 :: (l.flatMap escB ++ [34])
/-- What stands behind a backslash. -/
def escOf (d : UInt8) : Option UInt8 := if d.toNat = 92 then some 92 else if d.toNat = 34 then some 34 else if d.toNat = 110 then some 10 else none
/-- What stands behind the first quote: the text, and how much of the list it took. -/
def unqL : List UInt8 → Option (List UInt8 × Nat)
  | [] => none
  | c :: r =>
    if c.toNat = 34 then some ([], 1)
    else if c.toNat = 10 then none
    else if c.toNat = 92 then
      match r with
      | [] => none
      | d :: r' => match escOf d with
        | none => none
        | some e => (unqL r').map fun p => (e :: p.1, p.2 + 2)
    else (unqL r).map fun p => (c :: p.1, p.2 + 1)
inductive Stp where
  | tok (k : Nat) (s : List UInt8) (n : Nat)
  | err (e : Nat)
/-- The token at the head of a list. -/
def tokC (c : UInt8) (r : List UInt8) : Stp :=
    if isLetter c then (if 24 < ((c :: r).takeWhile isWord).length then .err 7 else .tok 1 ((c :: r).takeWhile isWord) ((c :: r).takeWhile isWord).length)
    else if isDigit c then (if 7 < ((c :: r).takeWhile isDigit).length ∨ (((c :: r).dropWhile isDigit).head?.any isWord) = true then .err 11 else .tok 2 ((c :: r).takeWhile isDigit) ((c :: r).takeWhile isDigit).length)
    else if c.toNat = 34 then (match unqL r with | some p => .tok 3 p.1 (p.2 + 1) | none => .err 10)
    else if isSym c then .tok 4 [c] 1 else .err 10
def tokL : List UInt8 → Stp
  | [] => .err 10
  | c :: r => tokC c r
structure Tk where
  kind : Nat
  text : ByteArray
  pos : Nat
def lexF : Nat → List UInt8 → Nat → List Tk × Option (Nat × Nat)
  | 0, _, _ => ([], none)
  | f + 1, l, a => match skipM false l with
    | [] => ([], none)
    | c :: r => match tokL (c :: r) with
      | .err e => ([], some (e, a + (l.length - (c :: r).length)))
      | .tok k s n => (⟨k, ofL s, a + (l.length - (c :: r).length)⟩ :: (lexF f ((c :: r).drop n) (a + (l.length - (c :: r).length) + n)).1, (lexF f ((c :: r).drop n) (a + (l.length - (c :: r).length) + n)).2)
def lexA (t : ByteArray) : List Tk × Option (Nat × Nat) := lexF (t.size + 1) (tx t) 0
/-- What Lex hands back. -/
def lexR (t : ByteArray) : List Tk × Int × Int :=
  if 20000 < t.size then ([], 7, -1)
  else match (lexA t).1[5000]? with
    | some x => ([], 7, (x.pos : Int))
    | none => match (lexA t).2 with
      | none => ((lexA t).1, 0, 0)
      | some p => ([], (p.1 : Int), (p.2 : Int))
theorem unqL_len : ∀ (l : List UInt8) (s : List UInt8) (n : Nat), unqL l = some (s, n) → 1 ≤ n ∧ n ≤ l.length ∧ s.length + 1 ≤ n
  | [], s, n, h => by simp [unqL] at h
  | c :: r, s, n, h => by
    unfold unqL at h
    split at h
    · cases h; simp
    · split at h
      · cases h
      · split at h
        · cases r with
          | nil => cases h
          | cons d r' =>
            simp only at h
            split at h
            · cases h
            · rename_i e he
              obtain ⟨p, hp, h2⟩ := Option.map_eq_some_iff.1 h
              have := unqL_len r' p.1 p.2 hp
              cases h2
              simp only [List.length_cons]
              omega
        · obtain ⟨p, hp, h2⟩ := Option.map_eq_some_iff.1 h
          have := unqL_len r p.1 p.2 hp
          cases h2
          simp only [List.length_cons]
          omega
theorem takeWhile_le {p : UInt8 → Bool} (l : List UInt8) : (l.takeWhile p).length ≤ l.length := (List.takeWhile_sublist p).length_le
theorem tokL_len (c : UInt8) (r : List UInt8) (k : Nat) (s : List UInt8) (n : Nat) (h : tokL (c :: r) = .tok k s n) : 1 ≤ n ∧ n ≤ (c :: r).length := by
  change tokC c r = _ at h
  unfold tokC at h
  split at h
  · rename_i hl
    split at h
    · cases h
    · cases h
      refine ⟨?_, takeWhile_le _⟩
      have : isWord c = true := by simp [isWord, hl]
      rw [List.takeWhile_cons_of_pos this]; simp
  · split at h
    · rename_i hd
      split at h
      · cases h
      · cases h
        refine ⟨?_, takeWhile_le _⟩
        rw [List.takeWhile_cons_of_pos hd]; simp
    · split at h
      · split at h
        · rename_i p hp
          cases h
          have := unqL_len r p.1 p.2 hp
          simp only [List.length_cons]
          omega
        · cases h
      · split at h
        · cases h; simp
        · cases h

theorem lexF_fuel : ∀ (f g : Nat) (l : List UInt8) (a : Nat), l.length < f → l.length < g → lexF f l a = lexF g l a
  | 0, _, l, _, h, _ => by omega
  | _, 0, l, _, _, h => by omega
  | f + 1, g + 1, l, a, hf, hg => by
    have hle := skipM_le false l
    simp only [lexF]
    split
    · rfl
    · rename_i c r hs
      split
      · rfl
      · rename_i k s n ht
        obtain ⟨h1, h2⟩ := tokL_len c r k s n ht
        rw [hs] at hle
        have hd : ((c :: r).drop n).length < l.length := by rw [List.length_drop]; simp only [List.length_cons] at *; omega
        rw [lexF_fuel f g ((c :: r).drop n) _ (by omega) (by omega)]
/-- The tokens of a list. -/
def lexN (l : List UInt8) (a : Nat) : List Tk × Option (Nat × Nat) := lexF (l.length + 1) l a
theorem lexA_N (t : ByteArray) : lexA t = lexN (tx t) 0 := by unfold lexA lexN; rw [tx_len]
theorem lexN_nil {l : List UInt8} {a : Nat} (h : skipM false l = []) : lexN l a = ([], none) := by
  unfold lexN lexF
  rw [h]
theorem lexN_err {l : List UInt8} {a e : Nat} {c : UInt8} {r : List UInt8} (h : skipM false l = c :: r) (ht : tokC c r = .err e) : lexN l a = ([], some (e, a + (l.length - (c :: r).length))) := by
  unfold lexN lexF
  rw [h]
  simp only [tokL, ht]
theorem lexN_tok {l : List UInt8} {a k n : Nat} {s : List UInt8} {c : UInt8} {r : List UInt8} (h : skipM false l = c :: r) (ht : tokC c r = .tok k s n) :
    lexN l a = (⟨k, ofL s, a + (l.length - (c :: r).length)⟩ :: (lexN ((c :: r).drop n) (a + (l.length - (c :: r).length) + n)).1, (lexN ((c :: r).drop n) (a + (l.length - (c :: r).length) + n)).2) := by
  have hle := skipM_le false l
  obtain ⟨h1, h2⟩ := tokL_len c r k s n ht
  unfold lexN
  rw [lexF, h]
  simp only [tokL, ht]
  rw [h] at hle
  rw [lexF_fuel l.length (((c :: r).drop n).length + 1) ((c :: r).drop n) _ (by rw [List.length_drop]; simp only [List.length_cons] at *; omega) (by omega)]
theorem lexN_skip {l l' : List UInt8} {a d : Nat} (h : skipM false l = skipM false l') (hd : l.length = l'.length + d) : lexN l a = lexN l' (a + d) := by
  have hle := skipM_le false l'
  cases hs : skipM false l' with
  | nil => rw [lexN_nil (h.trans hs), lexN_nil hs]
  | cons c r =>
    rw [hs] at hle
    have hp : a + (l.length - (c :: r).length) = a + d + (l'.length - (c :: r).length) := by omega
    cases ht : tokC c r with
    | err e => rw [lexN_err (h.trans hs) ht, lexN_err hs ht, hp]
    | tok k s n => rw [lexN_tok (h.trans hs) ht, lexN_tok hs ht, hp]
/-- The class of the byte at a place; 0 behind the end. -/
def headIs (p : UInt8 → Bool) (l : List UInt8) : Bool := l.head?.any p
theorem takeWhile_head {p : UInt8 → Bool} {l : List UInt8} (h : headIs p l = false) : l.takeWhile p = [] := by
  cases l with
  | nil => rfl
  | cons c r =>
    have : p c = false := by simpa [headIs] using h
    rw [List.takeWhile_cons_of_neg (by rw [this]; simp)]
theorem takeWhile_step {p : UInt8 → Bool} {c : UInt8} {r : List UInt8} (h : p c = true) : (c :: r).takeWhile p = c :: r.takeWhile p := List.takeWhile_cons_of_pos h
theorem takeWhile_take {p : UInt8 → Bool} (l : List UInt8) : l.take (l.takeWhile p).length = l.takeWhile p := by
  have := List.prefix_iff_eq_take.1 (List.takeWhile_prefix (p := p) (l := l))
  exact this.symm
theorem dropWhile_drop {p : UInt8 → Bool} (l : List UInt8) : l.dropWhile p = l.drop (l.takeWhile p).length := by
  have h := List.takeWhile_append_dropWhile (p := p) (l := l)
  have h2 := congrArg (List.drop (l.takeWhile p).length) h
  rw [List.drop_left] at h2
  exact h2
theorem skipM_cons {c : UInt8} {r : List UInt8} (h1 : isBlank c = false) (h2 : ¬ c.toNat = 35) : skipM false (c :: r) = c :: r := by simp [skipM, h1, h2]
end Go.Proofs.Ytildepcgnppcjaa
