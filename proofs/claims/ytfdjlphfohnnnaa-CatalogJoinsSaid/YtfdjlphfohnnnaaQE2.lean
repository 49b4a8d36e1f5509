/-
  Strings in quotes, tokens, texts in plain terms.
-/
import Derived.Test.YtfdjlphfohnnnaaQE1
import Derived.KernelRfl
import Derived.Laws.StandIn
import Derived.Laws.Externs
import Derived.Lib.Builder
import Derived.Lib.UnsafeStr
import Derived.Carry
import Derived.MapKept
namespace Go.Proofs.Ytfdjlphfohnnnaa
open Go.RowKit Go.Sy
set_option linter.unusedVariables false
set_option linter.unusedSimpArgs false

def ofL (l : List UInt8) : ByteArray := ⟨l.toArray⟩
theorem tx_ofL (l : List UInt8) : tx (ofL l) = l := by simp [tx, ofL]
theorem ofL_tx (t : ByteArray) : ofL (tx t) = t := by
  apply ByteArray.ext
  apply Array.ext'
  simp [ofL, tx]
theorem tx_inj {s t : ByteArray} (h : tx s = tx t) : s = t := by rw [← ofL_tx s, ← ofL_tx t, h]
theorem size_ofL (l : List UInt8) : (ofL l).size = l.length := by rw [← tx_len, tx_ofL]
theorem tx_push (s : ByteArray) (c : UInt8) : tx (s.push c) = tx s ++ [c] := by simp [tx, ByteArray.push]
theorem tx_append (s t : ByteArray) : tx (s ++ t) = tx s ++ tx t := by simp [tx]
theorem tx_extract (s : ByteArray) (i j : Nat) : tx (s.extract i j) = ((tx s).take j).drop i := by simp [tx, List.drop_take]
theorem tx_empty : tx .empty = [] := rfl

/-- How a byte is written within quotes. -/
def escB (c : UInt8) : List UInt8 := if c.toNat = 10 then [92, 110] else if c.toNat = 34 ∨ c.toNat = 92 then [92, c] else [c]
def quoteL (l : List UInt8) : List UInt8 := 34 :: (l.flatMap escB ++ [34])
/-- What stands behind a backslash. -/
def escOf (d : UInt8) : Option UInt8 := if d.toNat = 92 then some 92 else if d.toNat = 34 then some 34 else if d.toNat = 110 then some 10 else none
/-- What stands behind the first quote: the text, and how much of the list it took. -/
def unqL : List UInt8 → Option (List UInt8 × Nat)
  | [] => none
  | c :: r =>
    if c.toNat = 34 then some ([], 1)
    else if c.toNat = 10 then none
    else if c.toNat = 92 then
      match r with
      | [] => none
      | d :: r' => match escOf d with
        | none => none
        | some e => (unqL r').map fun p => (e :: p.1, p.2 + 2)
    else (unqL r).map fun p => (c :: p.1, p.2 + 1)
inductive Stp where
  | tok (k : Nat) (s : List UInt8) (n : Nat)
  | err (e : Nat)
/-- The token at the head of a list. -/
def tokC (c : UInt8) (r : List UInt8) : Stp :=
    if isLetter c then (if 24 < ((c :: r).takeWhile isWord).length then .err 7 else .tok 1 ((c :: r).takeWhile isWord) ((c :: r).takeWhile isWord).length)
    else if isDigit c then (if 7 < ((c :: r).takeWhile isDigit).length ∨ (((c :: r).dropWhile isDigit).head?.any isWord) = true then .err 11 else .tok 2 ((c :: r).takeWhile isDigit) ((c :: r).takeWhile isDigit).length)
    else if c.toNat = 34 then (match unqL r with | some p => .tok 3 p.1 (p.2 + 1) | none => .err 10)
    else if isSym c then .tok 4 [c] 1 else .err 10
def tokL : List UInt8 → Stp
  | [] => .err 10
  | c :: r => tokC c r
structure Tk where
  kind : Nat
  text : ByteArray
  pos : Nat
def lexF : Nat → List UInt8 → Nat → List Tk × Option (Nat × Nat)
  | 0, _, _ => ([], none)
  | f + 1, l, a => match skipM false l with
    | [] => ([], none)
    | c :: r => match tokL (c :: r) with
      | .err e => ([], some (e, a + (l.length - (c :: r).length)))
      | .tok k s n => (⟨k, ofL s, a + (l.length - (c :: r).length)⟩ :: (lexF f ((c :: r).drop n) (a + (l.length - (c :: r).length) + n)).1, (lexF f ((c :: r).drop n) (a + (l.length - (c :: r).length) + n)).2)
def lexA (t : ByteArray) : List Tk × Option (Nat × Nat) := lexF (t.size + 1) (tx t) 0
/-- What Lex hands back. -/
def lexR (t : ByteArray) : List Tk × Int × Int :=
  if 20000 < t.size then ([], 7, -1)
  else match (lexA t).1[5000]? with
    | some x => ([], 7, (x.pos : Int))
    | none => match (lexA t).2 with
      | none => ((lexA t).1, 0, 0)
      | some p => ([], (p.1 : Int), (p.2 : Int))
theorem unqL_len : ∀ (l : List UInt8) (s : List UInt8) (n : Nat), unqL l = some (s, n) → 1 ≤ n ∧ n ≤ l.length ∧ s.length + 1 ≤ n
  | [], s, n, h => by simp [unqL] at h
  | c :: r, s, n, h => by
    unfold unqL at h
    split at h
    · cases h; simp
    · split at h
      · cases h
      · split at h
        · cases r with
          | nil => cases h
          | cons d r' =>
            simp only at h
            split at h
            · cases h
            · rename_i e he
              obtain ⟨p, hp, h2⟩ := Option.map_eq_some_iff.1 h
              have := unqL_len r' p.1 p.2 hp
              cases h2
              simp only [List.length_cons]
              omega
        · obtain ⟨p, hp, h2⟩ := Option.map_eq_some_iff.1 h
          have := unqL_len r p.1 p.2 hp
          cases h2
          simp only [List.length_cons]
          omega
theorem takeWhile_le {p : UInt8 → Bool} (l : List UInt8) : (l.takeWhile p).length ≤ l.length := (List.takeWhile_sublist p).length_le
theorem tokL_len (c : UInt8) (r : List UInt8) (k : Nat) (s : List UInt8) (n : Nat) (h : tokL (c :: r) = .tok k s n) : 1 ≤ n ∧ n ≤ (c :: r).length := by
  change tokC c r = _ at h
  unfold tokC at h
  split at h
  · rename_i hl
    split at h
    · cases h
    · cases h
      refine ⟨?_, takeWhile_le _⟩
      have : isWord c = true := by simp [isWord, hl]
      rw [List.takeWhile_cons_of_pos this]; simp
  · split at h
    · rename_i hd
      split at h
      · cases h
      · cases h
        refine ⟨?_, takeWhile_le _⟩
        rw [List.takeWhile_cons_of_pos hd]; simp
    · split at h
      · split at h
        · rename_i p hp
          cases h
          have := unqL_len r p.1 p.2 hp
          simp only [List.length_cons]
          omega
        · cases h
      · split at h
        · cases h; simp
        · cases h

theorem lexF_fuel : ∀ (f g : Nat) (l : List UInt8) (a : Nat), l.length < f → l.length < g → lexF f l a = lexF g l a
  | 0, _, l, _, h, _ => by omega
  | _, 0, l, _, _, h => by omega
  | f + 1, g + 1, l, a, hf, hg => by
    have hle := skipM_le false l
    simp only [lexF]
    split
    · rfl
    · rename_i c r hs
      split
      · rfl
      · rename_i k s n ht
        obtain ⟨h1, h2⟩ := tokL_len c r k s n ht
        rw [hs] at hle
        have hd : ((c :: r).drop n).length < l.length := by rw [List.length_drop]; simp only [List.length_cons] at *; omega
        rw [lexF_fuel f g ((c :: r).drop n) _ (by omega) (by omega)]
/-- The tokens of a list. -/
def lexN (l : List UInt8) (a : Nat) : List Tk × Option (Nat × Nat) := lexF (l.length + 1) l a
theorem lexA_N (t : ByteArray) : lexA t = lexN (tx t) 0 := by unfold lexA lexN; rw [tx_len]
theorem lexN_nil {l : List UInt8} {a : Nat} (h : skipM false l = []) : lexN l a = ([], none) := by
  unfold lexN lexF
  rw [h]
theorem lexN_err {l : List UInt8} {a e : Nat} {c : UInt8} {r : List UInt8} (h : skipM false l = c :: r) (ht : tokC c r = .err e) : lexN l a = ([], some (e, a + (l.length - (c :: r).length))) := by
  unfold lexN lexF
  rw [h]
  simp only [tokL, ht]
theorem lexN_tok {l : List UInt8} {a k n : Nat} {s : List UInt8} {c : UInt8} {r : List UInt8} (h : skipM false l = c :: r) (ht : tokC c r = .tok k s n) :
    lexN l a = (⟨k, ofL s, a + (l.length - (c :: r).length)⟩ :: (lexN ((c :: r).drop n) (a + (l.length - (c :: r).length) + n)).1, (lexN ((c :: r).drop n) (a + (l.length - (c :: r).length) + n)).2) := by
  have hle := skipM_le false l
  obtain ⟨h1, h2⟩ := tokL_len c r k s n ht
  unfold lexN
  rw [lexF, h]
  simp only [tokL, ht]
  rw [h] at hle
  rw [lexF_fuel l.length (((c :: r).drop n).length + 1) ((c :: r).drop n) _ (by rw [List.length_drop]; simp only [List.length_cons] at *; omega) (by omega)]
theorem lexN_skip {l l' : List UInt8} {a d : Nat} (h : skipM false l = skipM false l') (hd : l.length = l'.length + d) : lexN l a = lexN l' (a + d) := by
  have hle := skipM_le false l'
  cases hs : skipM false l' with
  | nil => rw [lexN_nil (h.trans hs), lexN_nil hs]
  | cons c r =>
    rw [hs] at hle
    have hp : a + (l.length - (c :: r).length) = a + d + (l'.length - (c :: r).length) := by omega
    cases ht : tokC c r with
    | err e => rw [lexN_err (h.trans hs) ht, lexN_err hs ht, hp]
    | tok k s n => rw [lexN_tok (h.trans hs) ht, lexN_tok hs ht, hp]
/-- The class of the byte at a place; 0 behind the end. -/
def headIs (p : UInt8 → Bool) (l : List UInt8) : Bool := l.head?.any p
theorem takeWhile_head {p : UInt8 → Bool} {l : List UInt8} (h : headIs p l = false) : l.takeWhile p = [] := by
  cases l with
  | nil => rfl
  | cons c r =>
    have : p c = false := by simpa [headIs] using h
    rw [List.takeWhile_cons_of_neg (by rw [this]; simp)]
theorem takeWhile_step {p : UInt8 → Bool} {c : UInt8} {r : List UInt8} (h : p c = true) : (c :: r).takeWhile p = c :: r.takeWhile p := List.takeWhile_cons_of_pos h
theorem takeWhile_take {p : UInt8 → Bool} (l : List UInt8) : l.take (l.takeWhile p).length = l.takeWhile p := by
  have := List.prefix_iff_eq_take.1 (List.takeWhile_prefix (p := p) (l := l))
  exact this.symm
theorem dropWhile_drop {p : UInt8 → Bool} (l : List UInt8) : l.dropWhile p = l.drop (l.takeWhile p).length := by
  have h := List.takeWhile_append_dropWhile (p := p) (l := l)
  have h2 := congrArg (List.drop (l.takeWhile p).length) h
  rw [List.drop_left] at h2
  exact h2
theorem skipM_cons {c : UInt8} {r : List UInt8} (h1 : isBlank c = false) (h2 : ¬ c.toNat = 35) : skipM false (c :: r) = c :: r := by simp [skipM, h1, h2]
end Go.Proofs.Ytfdjlphfohnnnaa
/-
  The parser of catalogs in plain terms.
-/
namespace Go.Proofs.Ytfdjlphfohnnnaa
open Go.RowKit Go.Sy
set_option linter.unusedVariables false
set_option linter.unusedSimpArgs false
structure PSlot where
  name : ByteArray
  kinds : List ByteArray
  normal : Nat
structure PKind where
  name : ByteArray
  vehicle : Bool
  slots : List PSlot
/-- An error with its offset. -/
abbrev PE := Int × Int
def failP (ts : List Tk) (en e : Int) : PE := match ts with | [] => (9, en) | t :: _ => (e, (t.pos : Int))
def isTk (s : ByteArray) (k : Nat) : List Tk → Bool
  | [] => false
  | t :: _ => decide ((t.kind : Int) = (k : Int)) && (decide (t.text = s) && decide ((t.pos : Int) = (t.pos : Int)))
def skipP (s : ByteArray) (k : Nat) (ts : List Tk) : List Tk := if isTk s k ts then ts.tail else ts
def wantP (s : ByteArray) (en : Int) (ts : List Tk) : Except PE (List Tk) := if isTk s 4 ts then .ok ts.tail else .error (failP ts en 8)
def nameP (chk : ByteArray → Int) (en : Int) : List Tk → Except PE (ByteArray × List Tk)
  | [] => .error (9, en)
  | t :: r => if (t.kind : Int) = 1 then (if chk t.text = 0 then .ok (t.text, r) else .error (chk t.text, (t.pos : Int))) else .error (8, (t.pos : Int))
def inL (l : List ByteArray) (s : ByteArray) : Bool := l.any fun x => decide (x = s)
def freshC (names : List ByteArray) (most : Nat) (s : ByteArray) : Int := if names.length = most then 7 else if inL names s then 3 else 0
def kindC (read : List PKind) (l : List ByteArray) (s : ByteArray) : Int :=
  if inL l s then 3 else match read.find? fun k => decide (k.name = s) with | none => 2 | some k => if k.vehicle then 4 else 0
def headName : List Tk → Bool
  | [] => false
  | t :: _ => decide ((t.kind : Int) = 1)
def moreP (read : List PKind) (en : Int) : List ByteArray → List Tk → Except PE (List ByteArray × List Tk)
  | l, [] => .ok (l, [])
  | l, t :: r => if (t.kind : Int) = 1 then (if kindC read l t.text = 0 then moreP read en (l ++ [t.text]) r else .error (kindC read l t.text, (t.pos : Int))) else .ok (l, t :: r)
def kindsP (read : List PKind) (en : Int) (l : List ByteArray) (ts : List Tk) : Except PE (List ByteArray × List Tk) :=
  match nameP (kindC read l) en ts with
  | .error e => .error e
  | .ok (x, r) => moreP read en (l ++ [x]) r
def colon : ByteArray := ⟨#[58]⟩
def plus : ByteArray := ⟨#[43]⟩
def semi : ByteArray := ⟨#[59]⟩
def lpar : ByteArray := ⟨#[40]⟩
def rpar : ByteArray := ⟨#[41]⟩
def wVehicle : ByteArray := ⟨#[118, 101, 104, 105, 99, 108, 101]⟩
def wKind : ByteArray := ⟨#[107, 105, 110, 100]⟩
def slotP (read : List PKind) (en : Int) (names : List ByteArray) (ts : List Tk) : Except PE (PSlot × List Tk) :=
  match nameP (freshC names 12) en ts with
  | .error e => .error e
  | .ok (nm, r) => match wantP colon en r with
    | .error e => .error e
    | .ok r => match kindsP read en [] r with
      | .error e => .error e
      | .ok (l, r) =>
        if isTk plus 4 r then
          match kindsP read en l r.tail with
          | .error e => .error e
          | .ok (l2, r) => .ok (⟨nm, l2, l.length⟩, r)
        else .ok (⟨nm, l, l.length⟩, r)
def slotsP (read : List PKind) (en : Int) : Nat → List PSlot → List Tk → Except PE (List PSlot × List Tk)
  | 0, ss, ts => .ok (ss, ts)
  | f + 1, ss, ts => match slotP read en (ss.map (·.name)) ts with
    | .error e => .error e
    | .ok (s, r) => if isTk semi 4 r then slotsP read en f (ss ++ [s]) r.tail else .ok (ss ++ [s], r)
/-- What follows a kind's name. -/
def bodyP (read : List PKind) (en : Int) (ts : List Tk) : Except PE (List PSlot × List Tk) :=
  if isTk lpar 4 ts then
    match slotsP read en ts.length [] ts.tail with
    | .error e => .error e
    | .ok (ss, r) => match wantP rpar en r with
      | .error e => .error e
      | .ok r => .ok (ss, r)
  else .ok ([], ts)
def headP (en : Int) (ts : List Tk) : Except PE (Bool × List Tk) :=
  if isTk wVehicle 1 ts then .ok (true, ts.tail) else if isTk wKind 1 ts then .ok (false, ts.tail) else .error (failP ts en 8)
def kindP (read : List PKind) (en : Int) (ts : List Tk) : Except PE (PKind × List Tk) :=
  match headP en ts with
  | .error e => .error e
  | .ok (v, r) => match nameP (freshC (read.map (·.name)) 60) en r with
    | .error e => .error e
    | .ok (nm, r) => match bodyP read en r with
      | .error e => .error e
      | .ok (ss, r) => match wantP semi en r with
        | .error e => .error e
        | .ok r => .ok (⟨nm, v, ss⟩, r)
def parseP (en : Int) : Nat → List PKind → List Tk → Except PE (List PKind)
  | 0, read, _ => .ok read
  | _ + 1, read, [] => .ok read
  | f + 1, read, t :: ts => match kindP read en (t :: ts) with
    | .error e => .error e
    | .ok (k, r) => parseP en f (read ++ [k]) r
/-- What Parse hands back. -/
def parseR (t : ByteArray) : List PKind × Int × Int :=
  if (lexR t).2.1 = 0 then
    match parseP (t.size : Int) (lexR t).1.length [] (lexR t).1 with
    | .error e => ([], e.1, e.2)
    | .ok ks => (ks, 0, 0)
  else ([], (lexR t).2.1, (lexR t).2.2)
/-! Each step takes something away. -/
theorem nameP_len {chk : ByteArray → Int} {en : Int} {ts r : List Tk} {x : ByteArray} (h : nameP chk en ts = .ok (x, r)) : r.length < ts.length := by
  cases ts with
  | nil => cases h
  | cons t q =>
    simp only [nameP] at h
    split at h
    · split at h
      · cases h; simp
      · cases h
    · cases h
theorem moreP_len {read : List PKind} {en : Int} : ∀ (ts : List Tk) (l : List ByteArray) {l' : List ByteArray} {r : List Tk}, moreP read en l ts = .ok (l', r) → r.length ≤ ts.length
  | [], l, l', r, h => by simp only [moreP] at h; cases h; exact Nat.le_refl _
  | t :: q, l, l', r, h => by
    simp only [moreP] at h
    split at h
    · split at h
      · have := moreP_len q _ h
        simp only [List.length_cons]; omega
      · cases h
    · cases h; exact Nat.le_refl _
theorem kindsP_len {read : List PKind} {en : Int} {l l' : List ByteArray} {ts r : List Tk} (h : kindsP read en l ts = .ok (l', r)) : r.length < ts.length := by
  unfold kindsP at h
  split at h
  · cases h
  · rename_i x q hn
    have h1 := nameP_len hn
    have h2 := moreP_len _ _ h
    omega
theorem wantP_len {s : ByteArray} {en : Int} {ts r : List Tk} (h : wantP s en ts = .ok r) : r.length < ts.length := by
  unfold wantP at h
  split at h
  · rename_i hi
    cases ts with
    | nil => cases hi
    | cons t q => cases h; simp
  · cases h
theorem isTk_tail {s : ByteArray} {k : Nat} {ts : List Tk} (h : isTk s k ts = true) : ts.tail.length < ts.length := by
  cases ts with
  | nil => cases h
  | cons t q => simp
theorem slotP_len {read : List PKind} {en : Int} {names : List ByteArray} {ts r : List Tk} {s : PSlot} (h : slotP read en names ts = .ok (s, r)) : r.length < ts.length := by
  unfold slotP at h
  split at h
  · cases h
  · rename_i h1
    split at h
    · cases h
    · rename_i h2
      split at h
      · cases h
      · rename_i h3
        have q1 := nameP_len h1
        have q2 := wantP_len h2
        have q3 := kindsP_len h3
        split at h
        · rename_i hp
          have q4 := isTk_tail hp
          split at h
          · cases h
          · rename_i h5
            have q5 := kindsP_len h5
            cases h
            omega
        · cases h
          omega
end Go.Proofs.Ytfdjlphfohnnnaa
/-
  The laws on tokens, in plain terms: counts, places, shifts, beginnings.
-/
namespace Go.Proofs.Ytfdjlphfohnnnaa
set_option linter.unusedVariables false
set_option linter.unusedSimpArgs false

/-- What stands behind the gaps is an end of the list. -/
theorem skipM_suffix : ∀ (b : Bool) (l : List UInt8), ∃ g, l = g ++ skipM b l
  | b, [] => ⟨[], by cases b <;> rfl⟩
  | true, c :: r => by
    simp only [skipM]
    split
    · obtain ⟨g, hg⟩ := skipM_suffix false r; exact ⟨c :: g, by rw [List.cons_append, ← hg]⟩
    · obtain ⟨g, hg⟩ := skipM_suffix true r; exact ⟨c :: g, by rw [List.cons_append, ← hg]⟩
  | false, c :: r => by
    simp only [skipM]
    split
    · obtain ⟨g, hg⟩ := skipM_suffix false r; exact ⟨c :: g, by rw [List.cons_append, ← hg]⟩
    · split
      · obtain ⟨g, hg⟩ := skipM_suffix true r; exact ⟨c :: g, by rw [List.cons_append, ← hg]⟩
      · exact ⟨[], rfl⟩
/-- It begins with no gap. -/
theorem skipM_head : ∀ (b : Bool) (l : List UInt8) (c : UInt8) (r : List UInt8), skipM b l = c :: r → isBlank c = false ∧ ¬ c.toNat = 35
  | b, [], c, r, h => by cases b <;> simp [skipM] at h
  | true, x :: s, c, r, h => by
    simp only [skipM] at h
    split at h
    · exact skipM_head false s c r h
    · exact skipM_head true s c r h
  | false, x :: s, c, r, h => by
    simp only [skipM] at h
    split at h
    · exact skipM_head false s c r h
    · rename_i hb
      split at h
      · exact skipM_head true s c r h
      · rename_i h35
        cases h
        exact ⟨by simpa using hb, h35⟩
theorem skipM_idem {l : List UInt8} {c : UInt8} {r : List UInt8} (h : skipM false l = c :: r) : skipM false (c :: r) = c :: r := by
  obtain ⟨h1, h2⟩ := skipM_head _ _ _ _ h
  exact skipM_cons h1 h2
/-- The ways in which a list has tokens. -/
theorem lexN_ind {P : List UInt8 → Nat → Prop} (h0 : ∀ l a, skipM false l = [] → P l a) (h1 : ∀ l a c r e, skipM false l = c :: r → tokC c r = .err e → P l a)
    (h2 : ∀ l a c r k s n, skipM false l = c :: r → tokC c r = .tok k s n → P ((c :: r).drop n) (a + (l.length - (c :: r).length) + n) → P l a) : ∀ (m : Nat) (l : List UInt8) (a : Nat), l.length ≤ m → P l a
  | 0, l, a, hm => h0 l a (by have := skipM_le false l; cases l with | nil => rfl | cons => simp at hm)
  | m + 1, l, a, hm => by
    cases hs : skipM false l with
    | nil => exact h0 l a hs
    | cons c r =>
      cases ht : tokC c r with
      | err e => exact h1 l a c r e hs ht
      | tok k s n =>
        obtain ⟨h3, h4⟩ := tokL_len c r k s n ht
        have hle := skipM_le false l
        rw [hs] at hle
        exact h2 l a c r k s n hs ht (lexN_ind h0 h1 h2 m _ _ (by rw [List.length_drop]; omega))
theorem lexN_count (l : List UInt8) (a : Nat) : (lexN l a).1.length ≤ l.length := by
  refine lexN_ind (P := fun l a => (lexN l a).1.length ≤ l.length) (fun l a h => ?_) (fun l a c r e hs ht => ?_) (fun l a c r k s n hs ht ih => ?_) l.length l a (Nat.le_refl _)
  · rw [lexN_nil h]; exact Nat.zero_le _
  · rw [lexN_err hs ht]; exact Nat.zero_le _
  · obtain ⟨h3, h4⟩ := tokL_len c r k s n ht
    have hle := skipM_le false l
    rw [hs] at hle
    rw [lexN_tok hs ht]
    rw [List.length_drop] at ih
    simp only [List.length_cons] at *
    omega
theorem tokC_err {c : UInt8} {r : List UInt8} {e : Nat} (h : tokC c r = .err e) : e ≠ 0 := by
  unfold tokC at h
  split at h
  · split at h <;> cases h; decide
  · split at h
    · split at h <;> cases h; decide
    · split at h
      · split at h <;> cases h; decide
      · split at h <;> cases h; decide
theorem lexN_errpos (l : List UInt8) (a e p : Nat) : (lexN l a).2 = some (e, p) → a ≤ p ∧ p < a + l.length ∧ e ≠ 0 := by
  refine lexN_ind (P := fun l a => (lexN l a).2 = some (e, p) → a ≤ p ∧ p < a + l.length ∧ e ≠ 0) (fun l a h => ?_) (fun l a c r e' hs ht => ?_) (fun l a c r k s n hs ht ih => ?_) l.length l a (Nat.le_refl _)
  · rw [lexN_nil h]; intro h; cases h
  · have hle := skipM_le false l
    rw [hs] at hle
    rw [lexN_err hs ht]
    intro h
    cases h
    simp only [List.length_cons] at *
    exact ⟨by omega, by omega, tokC_err ht⟩
  · obtain ⟨h3, h4⟩ := tokL_len c r k s n ht
    have hle := skipM_le false l
    rw [hs] at hle
    rw [lexN_tok hs ht]
    intro h
    obtain ⟨h5, h6, h7⟩ := ih h
    rw [List.length_drop] at h6
    exact ⟨by omega, by omega, h7⟩
/-- Tokens moved. -/
def shiftT (d : Nat) (x : Tk) : Tk := ⟨x.kind, x.text, x.pos + d⟩
theorem lexN_shift (d : Nat) (l : List UInt8) (a : Nat) : lexN l (a + d) = ((lexN l a).1.map (shiftT d), (lexN l a).2.map fun p => (p.1, p.2 + d)) := by
  refine lexN_ind (P := fun l a => lexN l (a + d) = ((lexN l a).1.map (shiftT d), (lexN l a).2.map fun p => (p.1, p.2 + d))) (fun l a h => ?_) (fun l a c r e hs ht => ?_) (fun l a c r k s n hs ht ih => ?_) l.length l a (Nat.le_refl _)
  · rw [lexN_nil h, lexN_nil h]; rfl
  · rw [lexN_err hs ht, lexN_err hs ht]
    simp only [List.map_nil, Option.map_some]
    rw [show a + d + (l.length - (c :: r).length) = a + (l.length - (c :: r).length) + d by omega]
  · rw [lexN_tok hs ht, lexN_tok hs ht]
    rw [show a + d + (l.length - (c :: r).length) + n = a + (l.length - (c :: r).length) + n + d by omega, ih]
    simp only [List.map_cons, shiftT]
    rw [show a + d + (l.length - (c :: r).length) = a + (l.length - (c :: r).length) + d by omega]
/-- A run of bytes, followed by one that ends it. -/
theorem takeWhile_app {p : UInt8 → Bool} {l : List UInt8} {x : UInt8} {m : List UInt8} (hx : p x = false) : (l ++ x :: m).takeWhile p = l.takeWhile p := by
  induction l with
  | nil => rw [List.nil_append, List.takeWhile_cons_of_neg (by rw [hx]; simp)]; rfl
  | cons c r ih =>
    rw [List.cons_append]
    cases hc : p c with
    | true => rw [List.takeWhile_cons_of_pos hc, List.takeWhile_cons_of_pos hc, ih]
    | false => rw [List.takeWhile_cons_of_neg (by rw [hc]; simp), List.takeWhile_cons_of_neg (by rw [hc]; simp)]
theorem dropWhile_app {p : UInt8 → Bool} {l : List UInt8} {x : UInt8} {m : List UInt8} (hx : p x = false) : (l ++ x :: m).dropWhile p = l.dropWhile p ++ x :: m := by
  induction l with
  | nil => rw [List.nil_append, List.dropWhile_cons_of_neg (by rw [hx]; simp)]; rfl
  | cons c r ih =>
    rw [List.cons_append]
    cases hc : p c with
    | true => rw [List.dropWhile_cons_of_pos hc, List.dropWhile_cons_of_pos hc, ih]
    | false => rw [List.dropWhile_cons_of_neg (by rw [hc]; simp), List.dropWhile_cons_of_neg (by rw [hc]; simp)]; rfl
theorem uq_q {c : UInt8} {r : List UInt8} (h : c.toNat = 34) : unqL (c :: r) = some ([], 1) := by
  cases r <;> (unfold unqL; rw [if_pos h])
theorem uq_nl {c : UInt8} {r : List UInt8} (h : ¬ c.toNat = 34) (h2 : c.toNat = 10) : unqL (c :: r) = none := by
  cases r <;> (unfold unqL; rw [if_neg h, if_pos h2])
theorem uq_c {c : UInt8} {r : List UInt8} (h : ¬ c.toNat = 34) (h2 : ¬ c.toNat = 10) (h3 : ¬ c.toNat = 92) : unqL (c :: r) = (unqL r).map fun p => (c :: p.1, p.2 + 1) := by
  cases r
  · simp [unqL, h, h2, h3]
  · rw [unqL, if_neg h, if_neg h2, if_neg h3]
theorem uq_b {c d : UInt8} {r : List UInt8} (h : c.toNat = 92) : unqL (c :: d :: r) = match escOf d with | none => none | some e => (unqL r).map fun p => (e :: p.1, p.2 + 2) := by
  rw [unqL, if_neg (by omega), if_neg (by omega), if_pos h]
  all_goals rfl
theorem uq_b0 {c : UInt8} (h : c.toNat = 92) : unqL [c] = none := by
  rw [unqL, if_neg (by omega), if_neg (by omega), if_pos h]
theorem unqL_some : ∀ (l : List UInt8) (s : List UInt8) (n : Nat) (m : List UInt8), unqL l = some (s, n) → unqL (l ++ m) = some (s, n)
  | [], s, n, m, h => by simp [unqL] at h
  | c :: r, s, n, m, h => by
    by_cases h1 : c.toNat = 34
    · rw [uq_q h1] at h; rw [List.cons_append, uq_q h1]; exact h
    · by_cases h2 : c.toNat = 10
      · rw [uq_nl h1 h2] at h; cases h
      · by_cases h3 : c.toNat = 92
        · cases r with
          | nil => rw [uq_b0 h3] at h; cases h
          | cons d r' =>
            rw [uq_b h3] at h
            rw [List.cons_append, List.cons_append, uq_b h3]
            cases he : escOf d with
            | none => rw [he] at h; cases h
            | some e =>
              rw [he] at h
              simp only at h ⊢
              obtain ⟨p, hp, hq⟩ := Option.map_eq_some_iff.1 h
              rw [unqL_some r' p.1 p.2 m hp]
              simpa using hq
        · rw [uq_c h1 h2 h3] at h
          obtain ⟨p, hp, hq⟩ := Option.map_eq_some_iff.1 h
          rw [List.cons_append, uq_c h1 h2 h3, unqL_some r p.1 p.2 m hp]
          simpa using hq
/-- A string that is not ended is not ended by a line feed. -/
theorem unqL_none : ∀ (l : List UInt8) (x : UInt8) (m : List UInt8), x.toNat = 10 → unqL l = none → unqL (l ++ x :: m) = none
  | [], x, m, hx, h => uq_nl (by omega) hx
  | c :: r, x, m, hx, h => by
    by_cases h1 : c.toNat = 34
    · rw [uq_q h1] at h; cases h
    · by_cases h2 : c.toNat = 10
      · rw [List.cons_append, uq_nl h1 h2]
      · by_cases h3 : c.toNat = 92
        · cases r with
          | nil =>
            rw [List.cons_append, List.nil_append, uq_b h3]
            have : escOf x = none := by unfold escOf; rw [if_neg (by omega), if_neg (by omega), if_neg (by omega)]
            rw [this]
          | cons d r' =>
            rw [uq_b h3] at h
            rw [List.cons_append, List.cons_append, uq_b h3]
            cases he : escOf d with
            | none => rfl
            | some e =>
              rw [he] at h
              simp only at h ⊢
              rw [unqL_none r' x m hx (by simpa using h)]
              rfl
        · rw [uq_c h1 h2 h3] at h
          rw [List.cons_append, uq_c h1 h2 h3, unqL_none r x m hx (by simpa using h)]
          rfl
theorem word_nl {x : UInt8} (h : x.toNat = 10) : isWord x = false ∧ isDigit x = false := by
  have : x = 10 := UInt8.toNat.inj (by rw [h]; rfl)
  subst this
  exact ⟨by decide, by decide⟩
/-- A token is the same with a line feed behind what there is. -/
theorem tokC_nl {c : UInt8} {r : List UInt8} {x : UInt8} {m : List UInt8} (hx : x.toNat = 10) : tokC c (r ++ x :: m) = tokC c r := by
  obtain ⟨h1, h2⟩ := word_nl hx
  have e1 : (c :: (r ++ x :: m)).takeWhile isWord = (c :: r).takeWhile isWord := by rw [← List.cons_append, takeWhile_app h1]
  have e2 : (c :: (r ++ x :: m)).takeWhile isDigit = (c :: r).takeWhile isDigit := by rw [← List.cons_append, takeWhile_app h2]
  have e3 : ((c :: (r ++ x :: m)).dropWhile isDigit).head?.any isWord = ((c :: r).dropWhile isDigit).head?.any isWord := by
    rw [← List.cons_append, dropWhile_app h2]
    cases (c :: r).dropWhile isDigit with
    | nil => simp [h1]
    | cons y s => rfl
  unfold tokC
  rw [e1, e2, e3]
  cases hu : unqL r with
  | none => rw [unqL_none r x m hx hu]
  | some p => rw [unqL_some r p.1 p.2 (x :: m) hu]
theorem skipM_nl : ∀ (b : Bool) (l : List UInt8) (x : UInt8) (m : List UInt8), x.toNat = 10 → skipM b (l ++ x :: m) = match skipM b l with | [] => skipM false m | c :: r => c :: r ++ x :: m
  | b, [], x, m, hx => by
    have hb : isBlank x = true := (isBlank_iff x).2 (.inr (.inr hx))
    cases b <;> simp [skipM, hx, hb]
  | true, c :: s, x, m, hx => by
    simp only [List.cons_append, skipM]
    split
    · exact skipM_nl false s x m hx
    · exact skipM_nl true s x m hx
  | false, c :: s, x, m, hx => by
    simp only [List.cons_append, skipM]
    split
    · exact skipM_nl false s x m hx
    · split
      · exact skipM_nl true s x m hx
      · rfl
/-- Two lists with a line feed between. -/
theorem lexN_nl (x : UInt8) (hx : x.toNat = 10) (m : List UInt8) (l : List UInt8) (a : Nat) : ((lexN l a).2 = none → lexN (l ++ x :: m) a = ((lexN l a).1 ++ (lexN m (a + l.length + 1)).1, (lexN m (a + l.length + 1)).2)) ∧ (∀ p, (lexN l a).2 = some p → lexN (l ++ x :: m) a = ((lexN l a).1, some p)) := by
  refine lexN_ind (P := fun l a => ((lexN l a).2 = none → lexN (l ++ x :: m) a = ((lexN l a).1 ++ (lexN m (a + l.length + 1)).1, (lexN m (a + l.length + 1)).2)) ∧ (∀ p, (lexN l a).2 = some p → lexN (l ++ x :: m) a = ((lexN l a).1, some p)))
    (fun l a h => ?_) (fun l a c r e hs ht => ?_) (fun l a c r k s n hs ht ih => ?_) l.length l a (Nat.le_refl _)
  · rw [lexN_nil h]
    refine ⟨fun _ => ?_, fun p h => (by cases h)⟩
    have hs := skipM_nl false l x m hx
    rw [h] at hs
    have := lexN_skip (a := a) (d := l.length + 1) hs (by simp; omega)
    rw [this, ← Nat.add_assoc]
    rfl
  · have h2 : skipM false (l ++ x :: m) = c :: (r ++ x :: m) := by
      have := skipM_nl false l x m hx
      rw [hs] at this
      exact this
    have hle := skipM_le false l
    rw [hs] at hle
    have h3 := lexN_err (a := a) h2 ((tokC_nl hx).trans ht)
    rw [lexN_err hs ht]
    refine ⟨fun h => (by cases h), fun p hp => ?_⟩
    rw [h3, ← hp]
    simp only [List.length_append, List.length_cons] at *
    congr 3
    omega
  · have h2 : skipM false (l ++ x :: m) = c :: (r ++ x :: m) := by
      have := skipM_nl false l x m hx
      rw [hs] at this
      exact this
    have hle := skipM_le false l
    rw [hs] at hle
    obtain ⟨h5, h6⟩ := tokL_len c r k s n ht
    have h3 := lexN_tok (a := a) h2 ((tokC_nl hx).trans ht)
    have hd : (c :: (r ++ x :: m)).drop n = (c :: r).drop n ++ x :: m := by rw [← List.cons_append, List.drop_append_of_le_length h6]
    have hp : (l ++ x :: m).length - (c :: (r ++ x :: m)).length = l.length - (c :: r).length := by
      simp only [List.length_append, List.length_cons] at *; omega
    rw [hd, hp] at h3
    have hq : a + (l.length - (c :: r).length) + n + ((c :: r).drop n).length + 1 = a + l.length + 1 := by
      rw [List.length_drop]; simp only [List.length_cons] at *; omega
    rw [hq] at ih
    rw [lexN_tok hs ht]
    refine ⟨fun h => ?_, fun p hp => ?_⟩
    · rw [h3, ih.1 h]; rfl
    · rw [h3, ih.2 p hp]
end Go.Proofs.Ytfdjlphfohnnnaa
/-
  The laws on tokens, in plain terms: a token alone, a token before something else; beginnings.
-/
namespace Go.Proofs.Ytfdjlphfohnnnaa
set_option linter.unusedVariables false
set_option linter.unusedSimpArgs false

theorem takeWhile_full {p : UInt8 → Bool} {l : List UInt8} (h : (l.takeWhile p).length = l.length) : l.takeWhile p = l := by
  have := List.takeWhile_append_dropWhile (p := p) (l := l)
  have h2 := congrArg List.length this
  rw [List.length_append, h] at h2
  have h3 : l.dropWhile p = [] := List.length_eq_zero_iff.1 (by omega)
  rw [h3, List.append_nil] at this
  exact this
theorem takeWhile_idem {p : UInt8 → Bool} (l : List UInt8) : (l.takeWhile p).takeWhile p = l.takeWhile p := by
  induction l with
  | nil => rfl
  | cons c r ih =>
    cases hc : p c with
    | true => rw [List.takeWhile_cons_of_pos hc, List.takeWhile_cons_of_pos hc, ih]
    | false => rw [List.takeWhile_cons_of_neg (by rw [hc]; simp)]; rfl
theorem takeWhile_more {p : UInt8 → Bool} {l y : List UInt8} (h : l.takeWhile p = l) : (l ++ y).takeWhile p = l ++ y.takeWhile p := by
  induction l with
  | nil => rfl
  | cons c r ih =>
    cases hc : p c with
    | true =>
      rw [List.takeWhile_cons_of_pos hc] at h
      rw [List.cons_append, List.takeWhile_cons_of_pos hc, ih (List.cons.inj h).2]
      rfl
    | false => rw [List.takeWhile_cons_of_neg (by rw [hc]; simp)] at h; cases h
theorem dropWhile_more {p : UInt8 → Bool} {l y : List UInt8} (h : l.takeWhile p = l) : (l ++ y).dropWhile p = y.dropWhile p := by
  induction l with
  | nil => rfl
  | cons c r ih =>
    cases hc : p c with
    | true =>
      rw [List.takeWhile_cons_of_pos hc] at h
      rw [List.cons_append, List.dropWhile_cons_of_pos hc, ih (List.cons.inj h).2]
    | false => rw [List.takeWhile_cons_of_neg (by rw [hc]; simp)] at h; cases h
theorem headIs_nil {p : UInt8 → Bool} : headIs p [] = false := rfl
theorem dropWhile_head {p : UInt8 → Bool} {l : List UInt8} (h : headIs p l = false) : l.dropWhile p = l := by
  cases l with
  | nil => rfl
  | cons c r =>
    have : p c = false := by simpa [headIs] using h
    rw [List.dropWhile_cons_of_neg (by rw [this]; simp)]
theorem headIs_digit {l : List UInt8} (h : headIs isWord l = false) : headIs isDigit l = false := by
  cases l with
  | nil => rfl
  | cons c r =>
    have h1 : isWord c = false := by simpa [headIs] using h
    have : isDigit c = false := by
      cases hd : isDigit c with
      | false => rfl
      | true => rw [isWord, hd] at h1; simp at h1
    simpa [headIs] using this
theorem headIs_take {p : UInt8 → Bool} {l : List UInt8} {j : Nat} (h : headIs p l = false) : headIs p (l.take j) = false := by
  cases l with
  | nil => rw [List.take_nil]; rfl
  | cons c r =>
    cases j with
    | zero => rfl
    | succ j => rw [List.take_succ_cons]; simpa [headIs] using h
theorem headIs_drop {p : UInt8 → Bool} (l : List UInt8) : headIs p (l.dropWhile p) = false := by
  induction l with
  | nil => rfl
  | cons c r ih =>
    cases hc : p c with
    | true => rw [List.dropWhile_cons_of_pos hc]; exact ih
    | false => rw [List.dropWhile_cons_of_neg (by rw [hc]; simp)]; simpa [headIs] using hc
theorem unqL_cut : ∀ (l : List UInt8) (s : List UInt8) (n : Nat), unqL l = some (s, n) → unqL (l.take n) = some (s, n)
  | [], s, n, h => by simp [unqL] at h
  | c :: r, s, n, h => by
    by_cases h1 : c.toNat = 34
    · rw [uq_q h1] at h
      cases h
      rw [List.take_succ_cons, uq_q h1]
    · by_cases h2 : c.toNat = 10
      · rw [uq_nl h1 h2] at h; cases h
      · by_cases h3 : c.toNat = 92
        · cases r with
          | nil => rw [uq_b0 h3] at h; cases h
          | cons d r' =>
            rw [uq_b h3] at h
            cases he : escOf d with
            | none => rw [he] at h; cases h
            | some e =>
              rw [he] at h
              simp only at h
              obtain ⟨p, hp, hq⟩ := Option.map_eq_some_iff.1 h
              cases hq
              rw [List.take_succ_cons, List.take_succ_cons, uq_b h3, he]
              simp only
              rw [unqL_cut r' p.1 p.2 hp]
              rfl
        · rw [uq_c h1 h2 h3] at h
          obtain ⟨p, hp, hq⟩ := Option.map_eq_some_iff.1 h
          cases hq
          rw [List.take_succ_cons, uq_c h1 h2 h3, unqL_cut r p.1 p.2 hp]
          rfl
/-- What may stand behind a token. -/
def Ends (k : Nat) (y : List UInt8) : Prop := (k = 1 ∨ k = 2) → headIs isWord y = false
theorem cons_take {c : UInt8} {r : List UInt8} {n : Nat} (h : 1 ≤ n) : c :: r.take (n - 1) = (c :: r).take n := by
  obtain ⟨m, rfl⟩ : ∃ m, n = m + 1 := ⟨n - 1, by omega⟩
  rw [List.take_succ_cons]; rfl
theorem cons_drop {c : UInt8} {r : List UInt8} {n : Nat} (h : 1 ≤ n) : r.drop (n - 1) = (c :: r).drop n := by
  obtain ⟨m, rfl⟩ : ∃ m, n = m + 1 := ⟨n - 1, by omega⟩
  rw [List.drop_succ_cons]; rfl
theorem tokC_word {c : UInt8} {r : List UInt8} (h : isLetter c = true) : tokC c r = if 24 < ((c :: r).takeWhile isWord).length then .err 7 else .tok 1 ((c :: r).takeWhile isWord) ((c :: r).takeWhile isWord).length := by
  unfold tokC; rw [if_pos h]
theorem tokC_digit {c : UInt8} {r : List UInt8} (h : isLetter c = false) (h2 : isDigit c = true) : tokC c r = if 7 < ((c :: r).takeWhile isDigit).length ∨ headIs isWord ((c :: r).dropWhile isDigit) = true then .err 11 else .tok 2 ((c :: r).takeWhile isDigit) ((c :: r).takeWhile isDigit).length := by
  unfold tokC; rw [if_neg (by rw [h]; simp), if_pos h2]; all_goals rfl
theorem tokC_quote {c : UInt8} {r : List UInt8} (h : isLetter c = false) (h2 : isDigit c = false) (h3 : c.toNat = 34) : tokC c r = match unqL r with | some p => .tok 3 p.1 (p.2 + 1) | none => .err 10 := by
  unfold tokC; rw [if_neg (by rw [h]; simp), if_neg (by rw [h2]; simp), if_pos h3]; all_goals rfl
theorem tokC_sym {c : UInt8} {r : List UInt8} (h : isLetter c = false) (h2 : isDigit c = false) (h3 : ¬ c.toNat = 34) : tokC c r = if isSym c then .tok 4 [c] 1 else .err 10 := by
  unfold tokC; rw [if_neg (by rw [h]; simp), if_neg (by rw [h2]; simp), if_neg h3]
/-- The token alone; what stands behind it. -/
theorem tokC_cut {c : UInt8} {r : List UInt8} {k n : Nat} {s : List UInt8} (h : tokC c r = .tok k s n) : tokC c (r.take (n - 1)) = .tok k s n ∧ Ends k (r.drop (n - 1)) := by
  have hn := tokL_len c r k s n h
  have e1 := cons_take (c := c) (r := r) hn.1
  have e2 := cons_drop (c := c) (r := r) hn.1
  cases h1 : isLetter c with
  | true =>
    rw [tokC_word h1] at h ⊢
    rw [e1]
    split at h
    · cases h
    · rename_i h24
      cases h
      rw [takeWhile_take, takeWhile_idem, if_neg h24]
      refine ⟨rfl, fun _ => ?_⟩
      rw [e2, ← dropWhile_drop]
      exact headIs_drop _
  | false =>
    cases h2 : isDigit c with
    | true =>
      rw [tokC_digit h1 h2] at h ⊢
      rw [e1]
      split at h
      · cases h
      · rename_i hE
        cases h
        have h7 : ¬ 7 < ((c :: r).takeWhile isDigit).length := fun h => hE (.inl h)
        have hd : headIs isWord (((c :: r).takeWhile isDigit).dropWhile isDigit) = false := by
          rw [dropWhile_drop, takeWhile_idem, List.drop_length]; rfl
        rw [takeWhile_take, takeWhile_idem, if_neg (by rw [hd]; simp; omega)]
        refine ⟨rfl, fun _ => ?_⟩
        rw [e2, ← dropWhile_drop]
        cases hh : headIs isWord ((c :: r).dropWhile isDigit) with
        | false => rfl
        | true => exact (hE (.inr hh)).elim
    | false =>
      by_cases h3 : c.toNat = 34
      · rw [tokC_quote h1 h2 h3] at h ⊢
        cases hu : unqL r with
        | none => rw [hu] at h; cases h
        | some p =>
          rw [hu] at h
          cases h
          rw [Nat.add_sub_cancel, unqL_cut r p.1 p.2 hu]
          exact ⟨rfl, fun h => by rcases h with h | h <;> cases h⟩
      · rw [tokC_sym h1 h2 h3] at h ⊢
        split at h
        · rename_i hs
          cases h
          rw [if_pos hs]
          exact ⟨rfl, fun h => by rcases h with h | h <;> cases h⟩
        · cases h
/-- A token before something that may stand there. -/
theorem tokC_ext {c : UInt8} {u y : List UInt8} {k n : Nat} {s : List UInt8} (h : tokC c u = .tok k s n) (hn : n = u.length + 1) (hE : Ends k y) : tokC c (u ++ y) = .tok k s n := by
  cases h1 : isLetter c with
  | true =>
    rw [tokC_word h1] at h ⊢
    split at h
    · cases h
    · rename_i h24
      cases h
      have hf := takeWhile_full (p := isWord) (l := c :: u) hn
      rw [← List.cons_append, takeWhile_more hf, takeWhile_head (hE (.inl rfl)), List.append_nil]
      rw [hf] at h24 ⊢
      rw [if_neg h24]
  | false =>
    cases h2 : isDigit c with
    | true =>
      rw [tokC_digit h1 h2] at h ⊢
      split at h
      · cases h
      · rename_i hE'
        cases h
        have hw := hE (.inr rfl)
        have hdg := headIs_digit hw
        have hf := takeWhile_full (p := isDigit) (l := c :: u) hn
        have h7 : ¬ 7 < (c :: u).length := fun h => hE' (.inl (by rw [hf]; exact h))
        rw [← List.cons_append, takeWhile_more hf, takeWhile_head hdg, List.append_nil, dropWhile_more hf, dropWhile_head hdg, if_neg (by rw [hw]; simp only [Bool.false_eq_true, or_false]; exact h7), hf]
    | false =>
      by_cases h3 : c.toNat = 34
      · rw [tokC_quote h1 h2 h3] at h ⊢
        cases hu : unqL u with
        | none => rw [hu] at h; cases h
        | some p => rw [hu] at h; rw [unqL_some u p.1 p.2 y hu]; exact h
      · rw [tokC_sym h1 h2 h3] at h ⊢
        exact h
/-- A token in a part of the text that has it. -/
theorem tokC_take {c : UInt8} {r : List UInt8} {k n j : Nat} {s : List UInt8} (h : tokC c r = .tok k s n) (hj : n ≤ j) : tokC c (r.take (j - 1)) = .tok k s n := by
  obtain ⟨h1, h2⟩ := tokC_cut h
  have hn := tokL_len c r k s n h
  have hs : r.take (j - 1) = r.take (n - 1) ++ (r.drop (n - 1)).take (j - n) := by
    rw [← List.take_append_drop (n - 1) (r.take (j - 1)), List.take_take, List.drop_take]
    congr 2
    · omega
    · omega
  rw [hs]
  refine tokC_ext h1 ?_ fun hk => headIs_take (h2 hk)
  rw [List.length_take]
  simp only [List.length_cons] at hn
  omega
/-- What is skipped before a token. -/
theorem skipM_g : ∀ (b : Bool) (g : List UInt8) (c : UInt8) (r : List UInt8), skipM b (g ++ c :: r) = c :: r → (∀ r', skipM b (g ++ c :: r') = c :: r') ∧ skipM b g = []
  | true, [], c, r, h => by
    have h1 := skipM_le true r
    have h2 := skipM_le false r
    have h3 := congrArg List.length h
    simp only [List.nil_append, skipM, List.length_cons] at h3
    split at h3 <;> omega
  | false, [], c, r, h => by
    obtain ⟨h1, h2⟩ := skipM_head _ _ _ _ h
    exact ⟨fun r' => skipM_cons h1 h2, rfl⟩
  | true, x :: g, c, r, h => by
    simp only [List.cons_append, skipM] at h ⊢
    split at h
    · rename_i hx
      simp only [if_pos hx]
      exact skipM_g false g c r h
    · rename_i hx
      simp only [if_neg hx]
      exact skipM_g true g c r h
  | false, x :: g, c, r, h => by
    simp only [List.cons_append, skipM] at h ⊢
    split at h
    · rename_i hx
      simp only [if_pos hx]
      exact skipM_g false g c r h
    · rename_i hx
      simp only [if_neg hx]
      split at h
      · rename_i h35
        simp only [if_pos h35]
        exact skipM_g true g c r h
      · have := congrArg List.length h
        simp at this
        omega
theorem lexN_begin (e p : Nat) (l : List UInt8) (a : Nat) : (lexN l a).2 = some (e, p) → (lexN (l.take (p - a)) a).2 = none ∧ lexN (l.drop (p - a)) 0 = ([], some (e, 0)) := by
  refine lexN_ind (P := fun l a => (lexN l a).2 = some (e, p) → (lexN (l.take (p - a)) a).2 = none ∧ lexN (l.drop (p - a)) 0 = ([], some (e, 0))) (fun l a h => ?_) (fun l a c r e' hs ht => ?_) (fun l a c r k s n hs ht ih => ?_) l.length l a (Nat.le_refl _)
  · rw [lexN_nil h]; intro h; cases h
  · obtain ⟨g, hg⟩ := skipM_suffix false l
    rw [hs] at hg
    rw [lexN_err hs ht]
    intro h
    cases h
    have hl : a + (l.length - (c :: r).length) - a = g.length := by rw [hg]; simp only [List.length_append, List.length_cons]; omega
    rw [hl]
    have hsg := skipM_g false g c r (by rw [← hg]; exact hs)
    rw [hg, List.take_left, List.drop_left]
    refine ⟨by rw [lexN_nil hsg.2], ?_⟩
    rw [lexN_err (skipM_idem hs) ht, Nat.sub_self]
  · obtain ⟨g, hg⟩ := skipM_suffix false l
    rw [hs] at hg
    have hsg := skipM_g false g c r (by rw [← hg]; exact hs)
    have hn := tokL_len c r k s n ht
    have hgl : l.length - (c :: r).length = g.length := by rw [hg]; simp
    rw [lexN_tok hs ht]
    intro h
    have hp := lexN_errpos _ _ _ _ h
    obtain ⟨ih1, ih2⟩ := ih h
    rw [hgl] at hp ih1 ih2
    obtain ⟨j, hj⟩ : ∃ j, p = a + g.length + j := ⟨p - a - g.length, by omega⟩
    subst hj
    have hjn : n ≤ j := by omega
    have h1j : 1 ≤ j := by omega
    have e0 : a + g.length + j - a = g.length + j := by omega
    have e1 : a + g.length + j - (a + g.length + n) = j - n := by omega
    rw [e1] at ih1 ih2
    rw [e0]
    have ht1 : l.take (g.length + j) = g ++ c :: r.take (j - 1) := by rw [hg, List.take_append, List.take_of_length_le (by omega), Nat.add_sub_cancel_left, cons_take h1j]
    have hd1 : l.drop (g.length + j) = ((c :: r).drop n).drop (j - n) := by rw [hg, List.drop_append, List.drop_eq_nil_of_le (by omega), Nat.add_sub_cancel_left, List.nil_append, List.drop_drop]; congr 1; omega
    refine ⟨?_, by rw [hd1]; exact ih2⟩
    rw [ht1, lexN_tok (hsg.1 _) (tokC_take ht hjn)]
    have e2 : (g ++ c :: r.take (j - 1)).length - (c :: r.take (j - 1)).length = g.length := by simp
    rw [e2]
    have e3 : (c :: r.take (j - 1)).drop n = ((c :: r).drop n).take (j - n) := by rw [cons_take h1j, List.drop_take]
    rw [e3]
    exact ih1
/-! ### What Lex hands back for a short text -/
theorem lexR_none {t : ByteArray} (ht : t.size ≤ 5000) (h : (lexN (tx t) 0).2 = none) : lexR t = ((lexN (tx t) 0).1, 0, 0) := by
  have hc := lexN_count (tx t) 0
  rw [tx_len] at hc
  unfold lexR
  rw [if_neg (by omega), lexA_N, List.getElem?_eq_none (by omega), h]
theorem lexR_some {t : ByteArray} (ht : t.size ≤ 5000) {e p : Nat} (h : (lexN (tx t) 0).2 = some (e, p)) : lexR t = ([], (e : Int), (p : Int)) := by
  have hc := lexN_count (tx t) 0
  rw [tx_len] at hc
  unfold lexR
  rw [if_neg (by omega), lexA_N, List.getElem?_eq_none (by omega), h]
theorem begin_law {t : ByteArray} (ht : t.size ≤ 5000) {e p : Nat} (h : (lexN (tx t) 0).2 = some (e, p)) : p < t.size ∧ e ≠ 0 ∧ (∃ l, lexR (t.extract 0 p) = (l, 0, 0)) ∧ lexR (t.extract p t.size) = ([], (e : Int), 0) := by
  have hp := lexN_errpos _ _ _ _ h
  rw [tx_len, Nat.zero_add] at hp
  obtain ⟨h1, h2⟩ := lexN_begin _ _ _ _ h
  rw [Nat.sub_zero] at h1 h2
  have e1 : tx (t.extract 0 p) = (tx t).take p := by rw [tx_extract]; rfl
  have e2 : tx (t.extract p t.size) = (tx t).drop p := by rw [tx_extract, List.take_of_length_le (by rw [tx_len]; exact Nat.le_refl _)]
  refine ⟨hp.2.1, hp.2.2, ⟨_, lexR_none (by rw [ByteArray.size_extract]; omega) (by rw [e1]; exact h1)⟩, ?_⟩
  exact lexR_some (by rw [ByteArray.size_extract]; omega) (by rw [e2, h2])
end Go.Proofs.Ytfdjlphfohnnnaa
/-
  The laws on tokens, in plain terms: strings in quotes, names, a name with a symbol and a number.
-/
namespace Go.Proofs.Ytfdjlphfohnnnaa
set_option linter.unusedVariables false
set_option linter.unusedSimpArgs false

/-- What is written in quotes is read back. -/
theorem unqL_quote : ∀ (l m : List UInt8), unqL (l.flatMap escB ++ 34 :: m) = some (l, (l.flatMap escB).length + 1)
  | [], m => by rw [List.flatMap_nil, List.nil_append, uq_q rfl]; rfl
  | c :: r, m => by
    have ih := unqL_quote r m
    rw [List.flatMap_cons, List.append_assoc]
    by_cases h10 : c.toNat = 10
    · have hc : c = 10 := UInt8.toNat.inj (by rw [h10]; rfl)
      subst hc
      show unqL (92 :: 110 :: (r.flatMap escB ++ 34 :: m)) = _
      rw [uq_b rfl, ih]
      rfl
    · by_cases h2 : c.toNat = 34 ∨ c.toNat = 92
      · have he : escB c = [92, c] := by unfold escB; rw [if_neg h10, if_pos h2]
        rw [he]
        show unqL (92 :: c :: (r.flatMap escB ++ 34 :: m)) = _
        rw [uq_b rfl]
        have hd : escOf c = some c := by
          rcases h2 with h | h
          · have : c = 34 := UInt8.toNat.inj (by rw [h]; rfl)
            subst this; rfl
          · have : c = 92 := UInt8.toNat.inj (by rw [h]; rfl)
            subst this; rfl
        rw [hd]
        simp only
        rw [ih]
        rfl
      · have he : escB c = [c] := by unfold escB; rw [if_neg h10, if_neg h2]
        rw [he]
        show unqL (c :: (r.flatMap escB ++ 34 :: m)) = _
        rw [uq_c (fun h => h2 (.inl h)) h10 (fun h => h2 (.inr h)), ih]
        simp [Nat.add_comm]
theorem quoteL_inj {l m : List UInt8} (h : quoteL l = quoteL m) : l = m := by
  have h1 := unqL_quote l []
  have h2 := unqL_quote m []
  unfold quoteL at h
  rw [(List.cons.inj h).2, h2] at h1
  exact ((Prod.mk.inj (Option.some.inj h1)).1).symm
theorem escB_len (c : UInt8) : (escB c).length ≤ 2 := by
  unfold escB
  split
  · exact Nat.le_refl _
  · split <;> simp
theorem quoteL_len (l : List UInt8) : (quoteL l).length ≤ 2 * l.length + 2 ∧ 2 ≤ (quoteL l).length := by
  have : ∀ l : List UInt8, (l.flatMap escB).length ≤ 2 * l.length := by
    intro l
    induction l with
    | nil => exact Nat.le_refl _
    | cons c r ih => have := escB_len c; rw [List.flatMap_cons, List.length_append, List.length_cons]; omega
  have := this l
  simp only [quoteL, List.length_cons, List.length_append, List.length_nil]
  omega
theorem tokC_q34 (r : List UInt8) : tokC 34 r = match unqL r with | some p => .tok 3 p.1 (p.2 + 1) | none => .err 10 := tokC_quote (by decide) (by decide) rfl
theorem tokC_quoted (l m : List UInt8) : tokC 34 (l.flatMap escB ++ 34 :: m) = .tok 3 l (quoteL l).length := by
  rw [tokC_q34, unqL_quote]
  simp [quoteL]
/-- A token alone. -/
theorem lexN_one {c : UInt8} {r : List UInt8} {k : Nat} {s : List UInt8} {a : Nat} (h1 : isBlank c = false) (h2 : ¬ c.toNat = 35) (h : tokC c r = .tok k s (r.length + 1)) : lexN (c :: r) a = ([⟨k, ofL s, a⟩], none) := by
  rw [lexN_tok (skipM_cons h1 h2) h]
  have : (c :: r).drop (r.length + 1) = [] := List.drop_eq_nil_of_le (by simp)
  rw [this, lexN_nil rfl, Nat.sub_self, Nat.add_zero]
theorem lexN_quote (l : List UInt8) (a : Nat) : lexN (quoteL l) a = ([⟨3, ofL l, a⟩], none) := by
  refine lexN_one (by decide) (by decide) ?_
  rw [tokC_quoted]
  simp [quoteL]
theorem letter_gap {c : UInt8} (h : isLetter c = true) : isBlank c = false ∧ ¬ c.toNat = 35 := by
  have hw : isLetter c = true → isBlank c = false ∧ ¬ c.toNat = 35 := by
    intro h
    constructor
    · cases hb : isBlank c with
      | false => rfl
      | true =>
        have := (isBlank_iff c).1 hb
        simp [isLetter] at h
        omega
    · intro h35
      simp [isLetter, h35] at h
  exact hw h
theorem digit_gap {c : UInt8} (h : isDigit c = true) : isBlank c = false ∧ ¬ c.toNat = 35 ∧ isLetter c = false := by
  refine ⟨?_, ?_, ?_⟩
  · cases hb : isBlank c with
    | false => rfl
    | true =>
      have := (isBlank_iff c).1 hb
      simp [isDigit] at h
      omega
  · intro h35
    simp [isDigit, h35] at h
  · cases hb : isLetter c with
    | false => rfl
    | true => simp [isDigit] at h; simp [isLetter] at hb; omega
theorem all_takeWhile {p : UInt8 → Bool} {l : List UInt8} (h : l.all p = true) : l.takeWhile p = l := by
  induction l with
  | nil => rfl
  | cons c r ih =>
    rw [List.all_cons, Bool.and_eq_true] at h
    rw [List.takeWhile_cons_of_pos h.1, ih h.2]
theorem takeWhile_all {p : UInt8 → Bool} (l : List UInt8) : (l.takeWhile p).all p = true := by
  induction l with
  | nil => rfl
  | cons c r ih =>
    cases hc : p c with
    | true => rw [List.takeWhile_cons_of_pos hc, List.all_cons, hc, ih]; rfl
    | false => rw [List.takeWhile_cons_of_neg (by rw [hc]; simp)]; rfl
/-- A name before something that is no part of it. -/
theorem tokC_name {c : UInt8} {r y : List UInt8} (h : nameL (c :: r) = true) (hy : headIs isWord y = false) : tokC c (r ++ y) = .tok 1 (c :: r) (r.length + 1) := by
  simp only [nameL, Bool.and_eq_true, decide_eq_true_iff] at h
  obtain ⟨⟨h1, h2⟩, h3⟩ := h
  rw [tokC_word h1, ← List.cons_append, takeWhile_more (all_takeWhile h2), takeWhile_head hy, List.append_nil, if_neg (by omega)]
  rfl
theorem lexN_name {l : List UInt8} (h : nameL l = true) (a : Nat) : lexN l a = ([⟨1, ofL l, a⟩], none) := by
  cases l with
  | nil => cases h
  | cons c r =>
    have hl : isLetter c = true := by simp only [nameL, Bool.and_eq_true] at h; exact h.1.1
    have ht := tokC_name (y := []) h rfl
    rw [List.append_nil] at ht
    exact lexN_one (letter_gap hl).1 (letter_gap hl).2 ht
theorem tokC_kind1 {c : UInt8} {r : List UInt8} {s : List UInt8} {n : Nat} (h : tokC c r = .tok 1 s n) : nameL s = true := by
  cases h1 : isLetter c with
  | true =>
    rw [tokC_word h1] at h
    split at h
    · cases h
    · rename_i h24
      cases h
      have hw : isWord c = true := by simp [isWord, h1]
      rw [List.takeWhile_cons_of_pos hw] at h24 ⊢
      simp only [nameL, h1, List.all_cons, hw, takeWhile_all, Bool.true_and, Bool.and_self, decide_eq_true_iff]
      omega
  | false =>
    cases h2 : isDigit c with
    | true => rw [tokC_digit h1 h2] at h; split at h <;> cases h
    | false =>
      by_cases h3 : c.toNat = 34
      · rw [tokC_quote h1 h2 h3] at h; split at h <;> cases h
      · rw [tokC_sym h1 h2 h3] at h; split at h <;> cases h
theorem lexN_kind1 {l : List UInt8} {a p : Nat} {t : ByteArray} {q : List Tk} {o : Option (Nat × Nat)} (h : lexN l a = (⟨1, t, p⟩ :: q, o)) : nameL (tx t) = true := by
  cases hs : skipM false l with
  | nil => rw [lexN_nil hs] at h; cases h
  | cons c r =>
    cases ht : tokC c r with
    | err e => rw [lexN_err hs ht] at h; cases h
    | tok k s n =>
      rw [lexN_tok hs ht] at h
      have h1 := (List.cons.inj (Prod.mk.inj h).1).1
      have hk : k = 1 := congrArg Tk.kind h1
      have hx : ofL s = t := congrArg Tk.text h1
      subst hk; subst hx
      rw [tx_ofL]
      exact tokC_kind1 ht
def name1 (t : ByteArray) : List Tk := [⟨1, t, 0⟩]
/-- A text is a name exactly if it is one token with this text. -/
theorem names_law {t : ByteArray} (ht : t.size ≤ 5000) : (nameL (tx t) = true → lexR t = (name1 t, 0, 0)) ∧ (nameL (tx t) = false → ∀ l, lexR t = (l, 0, 0) → l ≠ name1 t) := by
  constructor
  · intro h
    have := lexN_name h 0
    rw [lexR_none ht (by rw [this]), this, ofL_tx]
    rfl
  · intro h l hR hl
    subst hl
    cases hn : (lexN (tx t) 0).2 with
    | some p =>
      rw [lexR_some ht (e := p.1) (p := p.2) hn] at hR
      cases (Prod.mk.inj hR).1
    | none =>
      rw [lexR_none ht hn] at hR
      have h1 := (Prod.mk.inj hR).1
      have : lexN (tx t) 0 = (⟨1, t, 0⟩ :: [], none) := by rw [← hn, ← show (lexN (tx t) 0).1 = ⟨1, t, 0⟩ :: [] from h1]
      have := lexN_kind1 this
      rw [h] at this
      cases this
/-! ### Digits -/
def digB (n : Nat) : UInt8 := (48 + n % 10).toUInt8
def decL : Nat → Nat → List UInt8
  | 0, n => [digB n]
  | f + 1, n => if n < 10 then [digB n] else decL f (n / 10) ++ [digB n]
theorem digB_digit (n : Nat) : isDigit (digB n) = true := by
  have : (digB n).toNat = 48 + n % 10 := by simp [digB]; omega
  simp [isDigit, this]; omega
theorem decL_digit : ∀ (f n : Nat), (decL f n).all isDigit = true
  | 0, n => by simp [decL, digB_digit]
  | f + 1, n => by
    unfold decL
    split
    · simp [digB_digit]
    · rw [List.all_append, decL_digit f]; simp [digB_digit]
theorem decL_len : ∀ (f n : Nat), (decL f n).length ≤ f + 1 ∧ 1 ≤ (decL f n).length
  | 0, n => by simp [decL]
  | f + 1, n => by
    unfold decL
    have := decL_len f (n / 10)
    split
    · simp
    · rw [List.length_append]; simp; omega
theorem sym_all (x : UInt8) (h : isSym x = true) : (!isWord x && !isLetter x && !isDigit x && !isBlank x && !decide (x.toNat = 35) && !decide (x.toNat = 34)) = true := by
  have key : ((List.range 256).all fun n => (!isSym n.toUInt8) || (!isWord n.toUInt8 && !isLetter n.toUInt8 && !isDigit n.toUInt8 && !isBlank n.toUInt8 && !decide (n.toUInt8.toNat = 35) && !decide (n.toUInt8.toNat = 34))) = true := by kernel_rfl
  have := List.all_eq_true.1 key x.toNat (by simpa using x.toNat_lt)
  rw [show (x.toNat).toUInt8 = x from UInt8.toNat.inj (by simp)] at this
  rw [h] at this
  simpa using this
/-- A name, a symbol, a number. -/
theorem lexN_three {l d : List UInt8} {x : UInt8} (hl : nameL l = true) (hx : isSym x = true) (hd : d.all isDigit = true) (hd1 : 1 ≤ d.length) (hd7 : d.length ≤ 7) (a : Nat) :
    lexN (l ++ x :: d) a = ([⟨1, ofL l, a⟩, ⟨4, ofL [x], a + l.length⟩, ⟨2, ofL d, a + l.length + 1⟩], none) := by
  have hxs := sym_all x hx
  simp only [Bool.and_eq_true, Bool.not_eq_true', decide_eq_false_iff_not] at hxs
  obtain ⟨⟨⟨⟨⟨x1, x2⟩, x3⟩, x4⟩, x5⟩, x6⟩ := hxs
  cases l with
  | nil => cases hl
  | cons c r =>
    have hlet : isLetter c = true := by simp only [nameL, Bool.and_eq_true] at hl; exact hl.1.1
    have ht := tokC_name (y := x :: d) hl (by simpa [headIs] using x1)
    rw [List.cons_append, lexN_tok (skipM_cons (letter_gap hlet).1 (letter_gap hlet).2) ht]
    have e1 : (c :: (r ++ x :: d)).drop (r.length + 1) = x :: d := by rw [List.drop_succ_cons, List.drop_left]
    rw [e1]
    have hts : tokC x d = .tok 4 [x] 1 := by rw [tokC_sym x2 x3 x6, if_pos hx]
    rw [lexN_tok (skipM_cons x4 x5) hts]
    simp only [List.drop_succ_cons, List.drop_zero, Nat.sub_self, Nat.add_zero, List.length_cons]
    cases d with
    | nil => cases hd1
    | cons y z =>
      have hy : isDigit y = true := by rw [List.all_cons, Bool.and_eq_true] at hd; exact hd.1
      obtain ⟨y1, y2, y3⟩ := digit_gap hy
      have htd : tokC y z = .tok 2 (y :: z) (z.length + 1) := by
        rw [tokC_digit y3 hy, all_takeWhile hd]
        have : (y :: z).dropWhile isDigit = [] := by rw [dropWhile_drop, all_takeWhile hd, List.drop_length]
        rw [this, if_neg (by simp only [List.length_cons] at hd7; simp [headIs]; omega)]
        rfl
      rw [lexN_one y1 y2 htd]
end Go.Proofs.Ytfdjlphfohnnnaa
/-
  The laws on tokens, in plain terms: tokens written and read again; places; gaps.
-/
namespace Go.Proofs.Ytfdjlphfohnnnaa
set_option linter.unusedVariables false
set_option linter.unusedSimpArgs false

/-- How a token is written. -/
def writ (k : Nat) (s : List UInt8) : List UInt8 := if k = 3 then quoteL s else s
def writT (x : Tk) : List UInt8 := writ x.kind (tx x.text)
def wrL (l : List Tk) : List UInt8 := l.flatMap fun x => writT x ++ [32]
/-- What a string in quotes took. -/
theorem unqL_inv : ∀ (l : List UInt8) (s : List UInt8) (n : Nat), unqL l = some (s, n) → l.take n = s.flatMap escB ++ [34]
  | [], s, n, h => by simp [unqL] at h
  | c :: r, s, n, h => by
    by_cases h1 : c.toNat = 34
    · rw [uq_q h1] at h
      cases h
      have : c = 34 := UInt8.toNat.inj (by rw [h1]; rfl)
      subst this; rfl
    · by_cases h2 : c.toNat = 10
      · rw [uq_nl h1 h2] at h; cases h
      · by_cases h3 : c.toNat = 92
        · have hc : c = 92 := UInt8.toNat.inj (by rw [h3]; rfl)
          subst hc
          cases r with
          | nil => rw [uq_b0 h3] at h; cases h
          | cons d r' =>
            rw [uq_b h3] at h
            cases he : escOf d with
            | none => rw [he] at h; cases h
            | some e =>
              rw [he] at h
              simp only at h
              obtain ⟨p, hp, hq⟩ := Option.map_eq_some_iff.1 h
              cases hq
              rw [List.take_succ_cons, List.take_succ_cons, unqL_inv r' p.1 p.2 hp, List.flatMap_cons]
              have : escB e = [92, d] := by
                unfold escOf at he
                split at he
                · rename_i hd
                  cases he
                  have : d = 92 := UInt8.toNat.inj (by rw [hd]; rfl)
                  subst this; rfl
                · split at he
                  · rename_i hd
                    cases he
                    have : d = 34 := UInt8.toNat.inj (by rw [hd]; rfl)
                    subst this; rfl
                  · split at he
                    · rename_i hd
                      cases he
                      have : d = 110 := UInt8.toNat.inj (by rw [hd]; rfl)
                      subst this; rfl
                    · cases he
              rw [this]; rfl
        · rw [uq_c h1 h2 h3] at h
          obtain ⟨p, hp, hq⟩ := Option.map_eq_some_iff.1 h
          cases hq
          rw [List.take_succ_cons, unqL_inv r p.1 p.2 hp, List.flatMap_cons]
          have : escB c = [c] := by unfold escB; rw [if_neg h2, if_neg (by omega)]
          rw [this]; rfl
/-- A token stands as it is written. -/
theorem tokC_writ {c : UInt8} {r : List UInt8} {k n : Nat} {s : List UInt8} (h : tokC c r = .tok k s n) : (c :: r).take n = writ k s ∧ (writ k s).length = n := by
  have hn := tokL_len c r k s n h
  have key : (c :: r).take n = writ k s := by
    cases h1 : isLetter c with
    | true =>
      rw [tokC_word h1] at h
      split at h
      · cases h
      · cases h; exact takeWhile_take _
    | false =>
      cases h2 : isDigit c with
      | true =>
        rw [tokC_digit h1 h2] at h
        split at h
        · cases h
        · cases h; exact takeWhile_take _
      | false =>
        by_cases h3 : c.toNat = 34
        · rw [tokC_quote h1 h2 h3] at h
          cases hu : unqL r with
          | none => rw [hu] at h; cases h
          | some p =>
            rw [hu] at h
            cases h
            have hc : c = 34 := UInt8.toNat.inj (by rw [h3]; rfl)
            subst hc
            rw [List.take_succ_cons, unqL_inv r p.1 p.2 hu]; rfl
        · rw [tokC_sym h1 h2 h3] at h
          split at h
          · cases h; rfl
          · cases h
  refine ⟨key, ?_⟩
  rw [← key, List.length_take]; omega
/-- A token, written, before something that may stand there. -/
theorem tokC_again {c : UInt8} {r y : List UInt8} {k n : Nat} {s : List UInt8} (h : tokC c r = .tok k s n) (hy : Ends k y) : ∃ u, writ k s = c :: u ∧ u.length + 1 = n ∧ tokC c (u ++ y) = .tok k s n := by
  obtain ⟨h1, h2⟩ := tokC_writ h
  have hn := tokL_len c r k s n h
  refine ⟨r.take (n - 1), ?_, ?_, ?_⟩
  · rw [← h1, cons_take hn.1]
  · rw [List.length_take]; simp only [List.length_cons] at hn; omega
  · refine tokC_ext (tokC_cut h).1 ?_ hy
    rw [List.length_take]; simp only [List.length_cons] at hn; omega
theorem lexN_writ {c : UInt8} {r y : List UInt8} {k n a : Nat} {s : List UInt8} (h1 : isBlank c = false) (h2 : ¬ c.toNat = 35) (h : tokC c r = .tok k s n) (hy : Ends k y) :
    lexN (writ k s ++ y) a = (⟨k, ofL s, a⟩ :: (lexN y (a + n)).1, (lexN y (a + n)).2) := by
  obtain ⟨u, e1, e2, e3⟩ := tokC_again h hy
  rw [e1, List.cons_append, lexN_tok (skipM_cons h1 h2) e3, ← List.cons_append]
  have : (c :: u ++ y).drop n = y := by rw [← e2, List.cons_append, List.drop_succ_cons, List.drop_left]
  rw [this, Nat.sub_self, Nat.add_zero]
theorem ends_blank {k : Nat} {x : UInt8} {m : List UInt8} (hx : isWord x = false) : Ends k (x :: m) := fun _ => by simpa [headIs] using hx
theorem lexN_blank (m : List UInt8) (a : Nat) : lexN (32 :: m) a = lexN m (a + 1) := lexN_skip (d := 1) (by simp [skipM, show isBlank 32 = true from by decide]) rfl
theorem lexN_again (l : List UInt8) (a : Nat) : (lexN l a).2 = none → ∀ b, (lexN (wrL (lexN l a).1) b).2 = none ∧ (lexN l a).1.map (fun x => (x.kind, x.text)) = (lexN (wrL (lexN l a).1) b).1.map (fun x => (x.kind, x.text)) := by
  refine lexN_ind (P := fun l a => (lexN l a).2 = none → ∀ b, (lexN (wrL (lexN l a).1) b).2 = none ∧ (lexN l a).1.map (fun x => (x.kind, x.text)) = (lexN (wrL (lexN l a).1) b).1.map (fun x => (x.kind, x.text)))
    (fun l a h => ?_) (fun l a c r e hs ht => ?_) (fun l a c r k s n hs ht ih => ?_) l.length l a (Nat.le_refl _)
  · rw [lexN_nil h]
    intro _ b
    rw [show wrL ([] : List Tk) = [] from rfl, lexN_nil rfl]
    exact ⟨rfl, rfl⟩
  · rw [lexN_err hs ht]; intro h; cases h
  · obtain ⟨h1, h2⟩ := skipM_head _ _ _ _ hs
    rw [lexN_tok hs ht]
    intro h b
    have e : wrL (⟨k, ofL s, a + (l.length - (c :: r).length)⟩ :: (lexN ((c :: r).drop n) (a + (l.length - (c :: r).length) + n)).1) = writ k s ++ (32 :: wrL (lexN ((c :: r).drop n) (a + (l.length - (c :: r).length) + n)).1) := by
      simp only [wrL, List.flatMap_cons, writT, tx_ofL, List.append_assoc]; rfl
    rw [e, lexN_writ h1 h2 ht (ends_blank (by decide)), lexN_blank]
    obtain ⟨i1, i2⟩ := ih h (b + n + 1)
    exact ⟨i1, by simp only [List.map_cons, i2]⟩
/-- Where tokens stand. -/
theorem lexN_pos (l : List UInt8) (a : Nat) : ∀ x ∈ (lexN l a).1, x.pos < a + l.length ∧ (writT x).length ≤ l.length := by
  refine lexN_ind (P := fun l a => ∀ x ∈ (lexN l a).1, x.pos < a + l.length ∧ (writT x).length ≤ l.length) (fun l a h => ?_) (fun l a c r e hs ht => ?_) (fun l a c r k s n hs ht ih => ?_) l.length l a (Nat.le_refl _)
  · rw [lexN_nil h]; intro x h; cases h
  · rw [lexN_err hs ht]; intro x h; cases h
  · obtain ⟨h3, h4⟩ := tokL_len c r k s n ht
    have hle := skipM_le false l
    rw [hs] at hle
    rw [lexN_tok hs ht]
    intro x hx
    cases hx with
    | head =>
      have := (tokC_writ ht).2
      simp only [writT, tx_ofL, this]
      simp only [List.length_cons] at *
      omega
    | tail _ hx =>
      have := ih x hx
      rw [List.length_drop] at this
      simp only [List.length_cons] at *
      omega
/-- The tokens, written with a blank after each, have no more than twice the bytes. -/
theorem wrL_len (l : List UInt8) (a : Nat) : (wrL (lexN l a).1).length ≤ 2 * l.length := by
  refine lexN_ind (P := fun l a => (wrL (lexN l a).1).length ≤ 2 * l.length) (fun l a h => ?_) (fun l a c r e hs ht => ?_) (fun l a c r k s n hs ht ih => ?_) l.length l a (Nat.le_refl _)
  · rw [lexN_nil h]; exact Nat.zero_le _
  · rw [lexN_err hs ht]; exact Nat.zero_le _
  · obtain ⟨h3, h4⟩ := tokL_len c r k s n ht
    have hle := skipM_le false l
    rw [hs] at hle
    rw [lexN_tok hs ht]
    have e : wrL (⟨k, ofL s, a + (l.length - (c :: r).length)⟩ :: (lexN ((c :: r).drop n) (a + (l.length - (c :: r).length) + n)).1) = writ k s ++ (32 :: wrL (lexN ((c :: r).drop n) (a + (l.length - (c :: r).length) + n)).1) := by
      simp only [wrL, List.flatMap_cons, writT, tx_ofL, List.append_assoc]; rfl
    have := (tokC_writ ht).2
    rw [e, List.length_append, List.length_cons, this]
    rw [List.length_drop] at ih
    simp only [List.length_cons] at *
    omega
/-- Places: each token stands behind the one before, as it is written, and only gaps are between. -/
def PlaceL (t : List UInt8) : List Tk → Nat → Prop
  | [], e => e ≤ t.length ∧ skipM false (t.drop e) = []
  | x :: r, e => e ≤ x.pos ∧ 1 ≤ (writT x).length ∧ x.pos + (writT x).length ≤ t.length ∧ (t.take (x.pos + (writT x).length)).drop x.pos = writT x ∧ skipM false ((t.take x.pos).drop e) = [] ∧ PlaceL t r (x.pos + (writT x).length)
theorem lexN_place (t : List UInt8) (l : List UInt8) (a : Nat) : t.drop a = l → a ≤ t.length → (lexN l a).2 = none → PlaceL t (lexN l a).1 a := by
  refine lexN_ind (P := fun l a => t.drop a = l → a ≤ t.length → (lexN l a).2 = none → PlaceL t (lexN l a).1 a) (fun l a h => ?_) (fun l a c r e hs ht => ?_) (fun l a c r k s n hs ht ih => ?_) l.length l a (Nat.le_refl _)
  · intro hd ha _
    rw [lexN_nil h]
    exact ⟨ha, by rw [hd]; exact h⟩
  · intro _ _
    rw [lexN_err hs ht]; intro h; cases h
  · intro hd ha
    obtain ⟨h3, h4⟩ := tokL_len c r k s n ht
    obtain ⟨g, hg⟩ := skipM_suffix false l
    rw [hs] at hg
    have hgl : l.length - (c :: r).length = g.length := by rw [hg]; simp
    have hsg := skipM_g false g c r (by rw [← hg]; exact hs)
    obtain ⟨w1, w2⟩ := tokC_writ ht
    have hlen : t.length = a + g.length + (c :: r).length := by
      have := congrArg List.length hd
      rw [List.length_drop, hg, List.length_append] at this
      omega
    rw [lexN_tok hs ht, hgl]
    intro h
    have hd2 : t.drop (a + g.length) = c :: r := by rw [← List.drop_drop, hd, hg, List.drop_left]
    rw [hgl] at ih
    have hW : writT ⟨k, ofL s, a + g.length⟩ = writ k s := by simp only [writT, tx_ofL]
    refine ⟨Nat.le_add_right _ _, by rw [hW, w2]; exact h3, by rw [hW, w2]; show a + g.length + n ≤ _; omega, ?_, ?_, ?_⟩
    · rw [hW, w2]
      show (t.take (a + g.length + n)).drop (a + g.length) = _
      rw [List.drop_take, hd2, Nat.add_sub_cancel_left, w1]
    · show skipM false ((t.take (a + g.length)).drop a) = []
      rw [List.drop_take, hd, Nat.add_sub_cancel_left, hg, List.take_left]
      exact hsg.2
    · rw [hW, w2]
      exact ih (by rw [← List.drop_drop, hd2]) (by omega) h
/-! ### Gaps put in -/
theorem gap_head {g y : List UInt8} {x : UInt8} (hx : x.toNat = 10) (h : skipM false g = []) : headIs isWord (g ++ x :: y) = false := by
  cases g with
  | nil => simpa [headIs] using (word_nl hx).1
  | cons c r =>
    rw [List.cons_append]
    have hc : isBlank c = true ∨ c.toNat = 35 := by
      simp only [skipM] at h
      split at h
      · rename_i hb; exact .inl hb
      · split at h
        · rename_i h35; exact .inr h35
        · cases h
    have : isWord c = false := by
      cases hw : isWord c with
      | false => rfl
      | true =>
        exfalso
        simp only [isWord, Bool.or_eq_true, decide_eq_true_iff] at hw
        rcases hw with (hw | hw) | hw
        · obtain ⟨q1, q2⟩ := letter_gap hw
          rcases hc with hc | hc
          · rw [q1] at hc; cases hc
          · exact q2 hc
        · obtain ⟨q1, q2, -⟩ := digit_gap hw
          rcases hc with hc | hc
          · rw [q1] at hc; cases hc
          · exact q2 hc
        · rcases hc with hc | hc
          · rw [isBlank_iff] at hc; omega
          · omega
    simpa [headIs] using this
theorem skipM_gap {g y : List UInt8} {x : UInt8} (hx : x.toNat = 10) (h : skipM false g = []) : skipM false (g ++ x :: y) = skipM false y := by
  have := skipM_nl false g x y hx
  rw [h] at this
  exact this
/-- Gaps with a line feed before a text. -/
theorem lexN_gap {g y : List UInt8} {x : UInt8} (hx : x.toNat = 10) (h : skipM false g = []) (a : Nat) : lexN (g ++ x :: y) a = lexN y (a + (g.length + 1)) :=
  lexN_skip (skipM_gap hx h) (by simp; omega)
def kt (x : Tk) : Nat × ByteArray := (x.kind, x.text)
theorem lexN_kt (l : List UInt8) (a b : Nat) : (lexN l a).1.map kt = (lexN l b).1.map kt ∧ ((lexN l a).2 = none ↔ (lexN l b).2 = none) := by
  have key : ∀ d, (lexN l d).1.map kt = (lexN l 0).1.map kt ∧ ((lexN l d).2 = none ↔ (lexN l 0).2 = none) := by
    intro d
    have := lexN_shift d l 0
    rw [Nat.zero_add] at this
    rw [this]
    simp [kt, shiftT, Function.comp_def]
  exact ⟨(key a).1.trans (key b).1.symm, (key a).2.trans (key b).2.symm⟩
/-- .. behind one of its tokens. -/
theorem lexN_mid {g : List UInt8} {x : UInt8} (hx : x.toNat = 10) (hg0 : skipM false g = []) (l : List UInt8) (a : Nat) : (lexN l a).2 = none → ∀ (i : Nat) (tk : Tk), (lexN l a).1[i]? = some tk →
    ∃ j, tk.pos + (writT tk).length = a + j ∧ j ≤ l.length ∧ ∀ b, (lexN (l.take j ++ (g ++ x :: l.drop j)) b).2 = none ∧ (lexN (l.take j ++ (g ++ x :: l.drop j)) b).1.map kt = (lexN l a).1.map kt := by
  refine lexN_ind (P := fun l a => (lexN l a).2 = none → ∀ (i : Nat) (tk : Tk), (lexN l a).1[i]? = some tk →
    ∃ j, tk.pos + (writT tk).length = a + j ∧ j ≤ l.length ∧ ∀ b, (lexN (l.take j ++ (g ++ x :: l.drop j)) b).2 = none ∧ (lexN (l.take j ++ (g ++ x :: l.drop j)) b).1.map kt = (lexN l a).1.map kt) (fun l a h => ?_) (fun l a c r e hs ht => ?_) (fun l a c r k s n hs ht ih => ?_) l.length l a (Nat.le_refl _)
  · rw [lexN_nil h]; intro _ i tk h; simp at h
  · rw [lexN_err hs ht]; intro h; cases h
  · obtain ⟨h3, h4⟩ := tokL_len c r k s n ht
    obtain ⟨g0, hg⟩ := skipM_suffix false l
    rw [hs] at hg
    have hgl : l.length - (c :: r).length = g0.length := by rw [hg]; simp
    have hsg := skipM_g false g0 c r (by rw [← hg]; exact hs)
    obtain ⟨w1, w2⟩ := tokC_writ ht
    rw [lexN_tok hs ht, hgl]
    rw [hgl] at ih
    intro h i tk hi
    have hlen : l.length = g0.length + (c :: r).length := by rw [hg, List.length_append]
    -- the text up to a place behind this token
    have hpre : ∀ j, n ≤ j → l.take (g0.length + j) = g0 ++ (c :: r).take j ∧ l.drop (g0.length + j) = (c :: r).drop j := by
      intro j hj
      rw [hg]
      constructor
      · rw [List.take_append, List.take_of_length_le (by omega), Nat.add_sub_cancel_left]
      · rw [List.drop_append, List.drop_eq_nil_of_le (by omega), Nat.add_sub_cancel_left, List.nil_append]
    cases i with
    | zero =>
      simp only [List.getElem?_cons_zero, Option.some.injEq] at hi
      subst hi
      refine ⟨g0.length + n, by simp only [writT, tx_ofL, w2]; omega, by omega, fun b => ?_⟩
      obtain ⟨p1, p2⟩ := hpre n (Nat.le_refl _)
      have hE : Ends k (g ++ x :: (c :: r).drop n) := fun _ => gap_head hx hg0
      obtain ⟨u, e1, e2, e3⟩ := tokC_again ht hE
      rw [p1, p2, w1, e1, List.append_assoc, List.cons_append, lexN_tok (hsg.1 _) e3]
      have hd : (c :: (u ++ (g ++ x :: (c :: r).drop n))).drop n = g ++ x :: (c :: r).drop n := by rw [← e2, List.drop_succ_cons, List.drop_left]
      rw [hd, lexN_gap hx hg0]
      have hk := lexN_kt ((c :: r).drop n) (b + ((g0 ++ c :: (u ++ (g ++ x :: (c :: r).drop n))).length - (c :: (u ++ (g ++ x :: (c :: r).drop n))).length) + n + (g.length + 1)) (a + g0.length + n)
      exact ⟨hk.2.2 h, by simp only [List.map_cons, hk.1]; rfl⟩
    | succ i =>
      simp only [List.getElem?_cons_succ] at hi
      obtain ⟨j, q1, q2, q3⟩ := ih h i tk hi
      rw [List.length_drop] at q2
      refine ⟨g0.length + (n + j), by rw [q1]; omega, by omega, fun b => ?_⟩
      obtain ⟨p1, p2⟩ := hpre (n + j) (Nat.le_add_right _ _)
      have e4 : (c :: r).take (n + j) = (c :: r).take n ++ ((c :: r).drop n).take j := by rw [List.take_add]
      have e5 : (c :: r).drop (n + j) = ((c :: r).drop n).drop j := by rw [List.drop_drop]
      have hE : Ends k (((c :: r).drop n).take j ++ (g ++ x :: ((c :: r).drop n).drop j)) := by
        intro hk
        have h0 := (tokC_cut ht).2 hk
        rw [cons_drop h3] at h0
        cases hh : ((c :: r).drop n).take j with
        | nil => exact gap_head hx hg0
        | cons y z =>
          have := headIs_take (j := j) h0
          rw [hh] at this
          exact this
      obtain ⟨u, e1, e2, e3⟩ := tokC_again ht hE
      rw [p1, p2, e4, e5, w1, e1, List.append_assoc, List.append_assoc, List.cons_append, lexN_tok (hsg.1 _) e3]
      have hd : (c :: (u ++ (((c :: r).drop n).take j ++ (g ++ x :: ((c :: r).drop n).drop j)))).drop n = ((c :: r).drop n).take j ++ (g ++ x :: ((c :: r).drop n).drop j) := by rw [← e2, List.drop_succ_cons, List.drop_left]
      rw [hd]
      obtain ⟨s1, s2⟩ := q3 (b + ((g0 ++ c :: (u ++ (((c :: r).drop n).take j ++ (g ++ x :: ((c :: r).drop n).drop j)))).length - (c :: (u ++ (((c :: r).drop n).take j ++ (g ++ x :: ((c :: r).drop n).drop j)))).length) + n)
      exact ⟨s1, by simp only [List.map_cons, s2]; rfl⟩
/-- .. and behind it all. -/
theorem lexN_behind {g y : List UInt8} {x : UInt8} (hx : x.toNat = 10) (h : skipM false g = []) (a : Nat) (hy : (lexN y a).2 = none) : lexN (y ++ x :: g) a = lexN y a := by
  rw [(lexN_nl x hx g y a).1 hy, lexN_nil h, List.append_nil, ← hy]
end Go.Proofs.Ytfdjlphfohnnnaa
/-
  The text of a catalog in plain terms: its bytes, its tokens.
-/
namespace Go.Proofs.Ytfdjlphfohnnnaa
open Go.RowKit Go.Sy
set_option linter.unusedVariables false
set_option linter.unusedSimpArgs false
abbrev KT := Nat × ByteArray
def namesT (l : List ByteArray) : List KT := l.map fun x => (1, x)
def slotT (s : PSlot) : List KT := (1, s.name) :: (4, colon) :: (namesT (s.kinds.take s.normal) ++ (if s.normal < s.kinds.length then (4, plus) :: namesT (s.kinds.drop s.normal) else []))
def slotsT : List PSlot → List KT
  | [] => []
  | s :: r => slotT s ++ (match r with | [] => [] | _ :: _ => (4, semi) :: slotsT r)
def kindT (k : PKind) : List KT := (1, if k.vehicle then wVehicle else wKind) :: (1, k.name) :: ((match k.slots with | [] => [] | _ :: _ => (4, lpar) :: (slotsT k.slots ++ [(4, rpar)])) ++ [(4, semi)])
def catT (ks : List PKind) : List KT := ks.flatMap kindT
/-! The bytes. -/
def joinX (sep : List UInt8) : List (List UInt8) → List UInt8
  | [] => []
  | x :: r => x ++ (match r with | [] => [] | _ :: _ => sep ++ joinX sep r)
def slotX (s : PSlot) : List UInt8 := tx s.name ++ ([58, 32] ++ (joinX [32] ((s.kinds.take s.normal).map tx) ++ (if s.normal < s.kinds.length then [32, 43, 32] ++ joinX [32] ((s.kinds.drop s.normal).map tx) else [])))
def bodyX (ss : List PSlot) : List UInt8 := [40] ++ (joinX [59, 32] (ss.map slotX) ++ [41])
def lineX (k : PKind) : List UInt8 := (if k.vehicle then tx wVehicle else tx wKind) ++ ([32] ++ (tx k.name ++ ((match k.slots with | [] => [] | _ :: _ => [32] ++ bodyX k.slots) ++ [59, 10])))
def textX (ks : List PKind) : List UInt8 := ks.flatMap lineX
/-! Lexing, piece by piece: with anything behind it, or with something that begins with no byte of a word. -/
def PF (l : List UInt8) (ts : List KT) : Prop := ∀ y a, ∃ q : List Tk, q.map kt = ts ∧ lexN (l ++ y) a = (q ++ (lexN y (a + l.length)).1, (lexN y (a + l.length)).2)
def PW (l : List UInt8) (ts : List KT) : Prop := ∀ y a, headIs isWord y = false → ∃ q : List Tk, q.map kt = ts ∧ lexN (l ++ y) a = (q ++ (lexN y (a + l.length)).1, (lexN y (a + l.length)).2)
def Nw (l : List UInt8) : Prop := ∀ y, headIs isWord (l ++ y) = false
theorem Nw.cons {c : UInt8} {r : List UInt8} (h : isWord c = false) : Nw (c :: r) := fun y => by simpa [headIs] using h
theorem Nw.app {l m : List UInt8} (h : Nw l) : Nw (l ++ m) := fun y => by rw [List.append_assoc]; exact h (m ++ y)
theorem PF.nil : PF [] [] := fun y a => ⟨[], rfl, by simp⟩
theorem PW.nil : PW [] [] := fun y a _ => ⟨[], rfl, by simp⟩
theorem PF.w {l : List UInt8} {ts : List KT} (h : PF l ts) : PW l ts := fun y a _ => h y a
theorem PF.app {l m : List UInt8} {ts us : List KT} (h1 : PF l ts) (h2 : PF m us) : PF (l ++ m) (ts ++ us) := by
  intro y a
  obtain ⟨q1, e1, h1⟩ := h1 (m ++ y) a
  obtain ⟨q2, e2, h2⟩ := h2 y (a + l.length)
  refine ⟨q1 ++ q2, by rw [List.map_append, e1, e2], ?_⟩
  rw [List.append_assoc, h1, h2, List.length_append, Nat.add_assoc, List.append_assoc]
theorem PF.appW {l m : List UInt8} {ts us : List KT} (h1 : PF l ts) (h2 : PW m us) : PW (l ++ m) (ts ++ us) := by
  intro y a hy
  obtain ⟨q1, e1, h1⟩ := h1 (m ++ y) a
  obtain ⟨q2, e2, h2⟩ := h2 y (a + l.length) hy
  refine ⟨q1 ++ q2, by rw [List.map_append, e1, e2], ?_⟩
  rw [List.append_assoc, h1, h2, List.length_append, Nat.add_assoc, List.append_assoc]
theorem PW.app {l m : List UInt8} {ts us : List KT} (h1 : PW l ts) (h2 : PF m us) (hm : Nw m) : PF (l ++ m) (ts ++ us) := by
  intro y a
  obtain ⟨q1, e1, h1⟩ := h1 (m ++ y) a (hm y)
  obtain ⟨q2, e2, h2⟩ := h2 y (a + l.length)
  refine ⟨q1 ++ q2, by rw [List.map_append, e1, e2], ?_⟩
  rw [List.append_assoc, h1, h2, List.length_append, Nat.add_assoc, List.append_assoc]
theorem PW.appW {l m : List UInt8} {ts us : List KT} (h1 : PW l ts) (h2 : PW m us) (hm : m = [] ∨ Nw m) : PW (l ++ m) (ts ++ us) := by
  intro y a hy
  obtain ⟨q1, e1, h1⟩ := h1 (m ++ y) a (by rcases hm with rfl | hm; exact hy; exact hm y)
  obtain ⟨q2, e2, h2⟩ := h2 y (a + l.length) hy
  refine ⟨q1 ++ q2, by rw [List.map_append, e1, e2], ?_⟩
  rw [List.append_assoc, h1, h2, List.length_append, Nat.add_assoc, List.append_assoc]
theorem PF.blank {c : UInt8} (h : isBlank c = true) : PF [c] [] := by
  intro y a
  refine ⟨[], rfl, ?_⟩
  rw [List.nil_append, List.singleton_append, lexN_skip (l := c :: y) (l' := y) (d := 1) (by simp [skipM, h]) rfl]
  rfl
theorem PF.sym {c : UInt8} (h : isSym c = true) : PF [c] [(4, ofL [c])] := by
  intro y a
  have hs := sym_all c h
  simp only [Bool.and_eq_true, Bool.not_eq_true', decide_eq_false_iff_not] at hs
  obtain ⟨⟨⟨⟨⟨h1, h2⟩, h3⟩, h4⟩, h5⟩, h6⟩ := hs
  refine ⟨[⟨4, ofL [c], a⟩], rfl, ?_⟩
  have ht : tokC c y = .tok 4 [c] 1 := by rw [tokC_sym h2 h3 h6, if_pos h]
  rw [List.singleton_append, lexN_tok (skipM_cons h4 h5) ht]
  simp
theorem PW.name {l : List UInt8} (h : nameL l = true) : PW l [(1, ofL l)] := by
  intro y a hy
  cases l with
  | nil => cases h
  | cons c r =>
    have hl : isLetter c = true := by
      have h' := h
      simp only [nameL, Bool.and_eq_true] at h'
      exact h'.1.1
    obtain ⟨g1, g2⟩ := letter_gap hl
    refine ⟨[⟨1, ofL (c :: r), a⟩], rfl, ?_⟩
    have ht := tokC_name h hy
    rw [List.cons_append, lexN_tok (skipM_cons g1 g2) ht]
    have hd : (c :: (r ++ y)).drop (r.length + 1) = y := by simp
    rw [hd]
    simp
theorem PW.nm {x : ByteArray} (h : nameL (tx x) = true) : PW (tx x) [(1, x)] := by
  have := PW.name h
  rwa [ofL_tx] at this
theorem PF.blank32 : PF [32] [] := PF.blank (by decide)
theorem PF.blank10 : PF [10] [] := PF.blank (by decide)
theorem nw32 {r : List UInt8} : Nw (32 :: r) := Nw.cons (by decide)
theorem nw58 {r : List UInt8} : Nw (58 :: r) := Nw.cons (by decide)
theorem nw59 {r : List UInt8} : Nw (59 :: r) := Nw.cons (by decide)
theorem nw41 {r : List UInt8} : Nw (41 :: r) := Nw.cons (by decide)
theorem PW.join {l : List ByteArray} (h : ∀ x ∈ l, nameL (tx x) = true) : PW (joinX [32] (l.map tx)) (namesT l) := by
  induction l with
  | nil => exact PW.nil
  | cons x r ih =>
    have hx := PW.nm (h x (.head _))
    have hr := ih fun y hy => h y (.tail _ hy)
    cases r with
    | nil => simpa [joinX, namesT] using hx
    | cons z r => exact hx.appW (PF.blank32.appW hr) (.inr nw32)
theorem PW.slot {s : PSlot} (hn : nameL (tx s.name) = true) (hk : ∀ x ∈ s.kinds, nameL (tx x) = true) : PW (slotX s) (slotT s) := by
  unfold slotX slotT
  have h1 := PW.join (l := s.kinds.take s.normal) fun x hx => hk x (List.mem_of_mem_take hx)
  have h2 := PW.join (l := s.kinds.drop s.normal) fun x hx => hk x (List.mem_of_mem_drop hx)
  refine (PW.nm hn).appW (us := (4, colon) :: _) ?_ (.inr (nw58 (r := 32 :: _)))
  refine PF.appW (ts := [(4, colon)]) (PF.app (l := [58]) (m := [32]) (ts := [(4, colon)]) (us := []) (PF.sym (by decide)) PF.blank32) ?_
  split
  · refine h1.appW (us := (4, plus) :: _) ?_ (.inr (nw32 (r := 43 :: 32 :: _)))
    exact PF.appW (ts := [(4, plus)]) (PF.app (l := [32]) (m := [43, 32]) (ts := []) PF.blank32 (PF.app (l := [43]) (m := [32]) (ts := [(4, plus)]) (us := []) (PF.sym (by decide)) PF.blank32)) h2
  · exact h1.appW PW.nil (.inl rfl)
theorem PW.slots {ss : List PSlot} (h : ∀ s ∈ ss, nameL (tx s.name) = true ∧ ∀ x ∈ s.kinds, nameL (tx x) = true) : PW (joinX [59, 32] (ss.map slotX)) (slotsT ss) := by
  induction ss with
  | nil => exact PW.nil
  | cons s r ih =>
    have hx := PW.slot (h s (.head _)).1 (h s (.head _)).2
    have hr := ih fun y hy => h y (.tail _ hy)
    cases r with
    | nil => simpa [joinX, slotsT] using hx
    | cons z r => exact hx.appW (us := (4, semi) :: _) (PF.appW (ts := [(4, semi)]) (PF.app (l := [59]) (m := [32]) (ts := [(4, semi)]) (us := []) (PF.sym (by decide)) PF.blank32) hr) (.inr (nw59 (r := 32 :: _)))
theorem PF.end_ : PF [59, 10] [(4, semi)] := PF.app (l := [59]) (m := [10]) (ts := [(4, semi)]) (us := []) (PF.sym (by decide)) PF.blank10
theorem PF.line {k : PKind} (hn : nameL (tx k.name) = true) (h : ∀ s ∈ k.slots, nameL (tx s.name) = true ∧ ∀ x ∈ s.kinds, nameL (tx x) = true) : PF (lineX k) (kindT k) := by
  unfold lineX kindT
  have h0 : PW (if k.vehicle then tx wVehicle else tx wKind) [(1, if k.vehicle then wVehicle else wKind)] := by
    cases k.vehicle
    · exact PW.nm (by decide)
    · exact PW.nm (by decide)
  refine h0.app (us := (1, k.name) :: _) ?_ (nw32)
  refine PF.app (ts := []) PF.blank32 ?_
  refine (PW.nm hn).app (us := _ ++ _) ?_ ?_
  · have hs := PW.slots h
    cases hk : k.slots with
    | nil => exact PF.end_
    | cons s r =>
      rw [hk] at hs
      refine PF.app (ts := (4, lpar) :: (slotsT (s :: r) ++ [(4, rpar)])) ?_ PF.end_
      refine PF.app (ts := []) (us := (4, lpar) :: (slotsT (s :: r) ++ [(4, rpar)])) PF.blank32 ?_
      exact PF.app (ts := [(4, lpar)]) (PF.sym (by decide)) (hs.app (PF.sym (by decide)) nw41)
  · cases k.slots with
    | nil => exact nw59
    | cons s r => exact nw32
def Named (ks : List PKind) : Prop := ∀ k ∈ ks, nameL (tx k.name) = true ∧ ∀ s ∈ k.slots, nameL (tx s.name) = true ∧ ∀ x ∈ s.kinds, nameL (tx x) = true
theorem PF.text {ks : List PKind} (h : Named ks) : PF (textX ks) (catT ks) := by
  induction ks with
  | nil => exact PF.nil
  | cons k r ih => exact PF.app (PF.line (h k (.head _)).1 (h k (.head _)).2) (ih fun y hy => h y (.tail _ hy))
theorem lex_text {ks : List PKind} (h : Named ks) (a : Nat) : (lexN (textX ks) a).2 = none ∧ (lexN (textX ks) a).1.map kt = catT ks := by
  obtain ⟨q, e, hq⟩ := PF.text h [] a
  rw [List.append_nil] at hq
  rw [hq, lexN_nil rfl]
  exact ⟨rfl, by rw [List.append_nil]; exact e⟩
end Go.Proofs.Ytfdjlphfohnnnaa
/-
  Valid catalogs in plain terms; what is parsed is valid; a valid catalog's tokens are parsed to it.
-/
namespace Go.Proofs.Ytfdjlphfohnnnaa
open Go.RowKit Go.Sy
set_option linter.unusedVariables false
set_option linter.unusedSimpArgs false
def kindsV (read : List PKind) : List ByteArray → List ByteArray → Prop
  | _, [] => True
  | l, x :: r => kindC read l x = 0 ∧ kindsV read (l ++ [x]) r
structure slotV (read : List PKind) (names : List ByteArray) (s : PSlot) : Prop where
  nm : nameL (tx s.name) = true
  new : inL names s.name = false
  room : names.length < 12
  one : 1 ≤ s.normal
  le : s.normal ≤ s.kinds.length
  kinds : kindsV read [] s.kinds
def slotsV (read : List PKind) : List PSlot → List PSlot → Prop
  | _, [] => True
  | d, s :: r => slotV read (d.map (·.name)) s ∧ slotsV read (d ++ [s]) r
structure kindV (read : List PKind) (k : PKind) : Prop where
  nm : nameL (tx k.name) = true
  new : inL (read.map (·.name)) k.name = false
  room : read.length < 60
  slots : slotsV read [] k.slots
def catV : List PKind → List PKind → Prop
  | _, [] => True
  | read, k :: r => kindV read k ∧ catV (read ++ [k]) r
theorem catV_app {read a b : List PKind} : catV read (a ++ b) ↔ catV read a ∧ catV (read ++ a) b := by
  induction a generalizing read with
  | nil => simp [catV]
  | cons k r ih => simp only [List.cons_append, catV, ih, List.append_assoc, List.singleton_append, List.nil_append, List.cons_append, and_assoc]
theorem slotsV_app {read : List PKind} {d a b : List PSlot} : slotsV read d (a ++ b) ↔ slotsV read d a ∧ slotsV read (d ++ a) b := by
  induction a generalizing d with
  | nil => simp [slotsV]
  | cons k r ih => simp only [List.cons_append, slotsV, ih, List.append_assoc, List.singleton_append, List.nil_append, List.cons_append, and_assoc]
theorem kindsV_app {read : List PKind} {d a b : List ByteArray} : kindsV read d (a ++ b) ↔ kindsV read d a ∧ kindsV read (d ++ a) b := by
  induction a generalizing d with
  | nil => simp [kindsV]
  | cons k r ih => simp only [List.cons_append, kindsV, ih, List.append_assoc, List.singleton_append, List.nil_append, List.cons_append, and_assoc]
theorem inL_mem {l : List ByteArray} {s : ByteArray} : inL l s = true ↔ s ∈ l := by
  unfold inL
  rw [List.any_eq_true]
  constructor
  · rintro ⟨x, hx, h⟩
    rw [decide_eq_true_eq] at h
    rwa [← h]
  · intro h
    exact ⟨s, h, by simp⟩
theorem inL_not {l : List ByteArray} {s : ByteArray} : inL l s = false ↔ s ∉ l := by
  rw [← inL_mem]; simp
theorem kindC_zero {read : List PKind} {l : List ByteArray} {s : ByteArray} : kindC read l s = 0 ↔ s ∉ l ∧ ∃ k, read.find? (fun k => decide (k.name = s)) = some k ∧ k.vehicle = false := by
  unfold kindC
  cases hi : inL l s with
  | true =>
    have := inL_mem.1 hi
    simp [this]
  | false =>
    have := inL_not.1 hi
    cases hf : read.find? fun k => decide (k.name = s) with
    | none => simp
    | some k => cases hv : k.vehicle <;> simp [this, hv]
theorem find_name {read : List PKind} {s : ByteArray} {k : PKind} (h : read.find? (fun k => decide (k.name = s)) = some k) : k ∈ read ∧ k.name = s := ⟨List.mem_of_find?_eq_some h, by simpa using List.find?_some h⟩
theorem freshC_zero {names : List ByteArray} {m : Nat} {s : ByteArray} (h : names.length < m) (h2 : inL names s = false) : freshC names m s = 0 := by
  unfold freshC; rw [if_neg (by omega), if_neg (by rw [h2]; simp)]
theorem freshC_ok {names : List ByteArray} {m : Nat} {s : ByteArray} (h : freshC names m s = 0) : names.length ≠ m ∧ inL names s = false := by
  unfold freshC at h
  split at h
  · cases h
  · split at h
    · cases h
    · rename_i h1 h2; exact ⟨h1, by simpa using h2⟩
theorem nodup_len {α : Type} [DecidableEq α] : ∀ (l m : List α), l.Nodup → (∀ x ∈ l, x ∈ m) → l.length ≤ m.length
  | [], _, _, _ => Nat.zero_le _
  | x :: l, m, hn, h => by
    have hx := h x (.head _)
    rw [List.nodup_cons] at hn
    have := nodup_len l (m.erase x) hn.2 fun y hy => (List.mem_erase_of_ne (fun (e : y = x) => hn.1 (by rw [← e]; exact hy))).2 (h y (.tail _ hy))
    rw [List.length_erase_of_mem hx] at this
    have h0 : 0 < m.length := List.length_pos_of_mem hx
    simp only [List.length_cons]; omega
theorem kindsV_spec {read : List PKind} : ∀ (xs l : List ByteArray), kindsV read l xs → l.Nodup → (∀ x ∈ l, x ∈ read.map (·.name)) → (l ++ xs).Nodup ∧ ∀ x ∈ l ++ xs, x ∈ read.map (·.name)
  | [], l, _, hn, h => by rw [List.append_nil]; exact ⟨hn, h⟩
  | x :: r, l, hk, hn, h => by
    obtain ⟨h1, h2⟩ := hk
    obtain ⟨hx, k, hf, -⟩ := kindC_zero.1 h1
    obtain ⟨hm, hnm⟩ := find_name hf
    have := kindsV_spec r (l ++ [x]) h2 (by
      rw [List.nodup_append]
      exact ⟨hn, by simp, fun a ha b hb => by simp at hb; subst hb; exact fun e => hx (e ▸ ha)⟩) (fun y hy => by
      rcases List.mem_append.1 hy with hy | hy
      · exact h y hy
      · rw [List.mem_singleton] at hy; subst hy; exact List.mem_map.2 ⟨k, hm, hnm⟩)
    rwa [List.append_assoc, List.singleton_append] at this
structure SlotP (s : PSlot) : Prop where
  nm : nameL (tx s.name) = true
  one : 1 ≤ s.normal
  le : s.normal ≤ s.kinds.length
  few : s.kinds.length ≤ 60
  nms : ∀ x ∈ s.kinds, nameL (tx x) = true
structure KindP (k : PKind) : Prop where
  nm : nameL (tx k.name) = true
  few : k.slots.length ≤ 12
  slots : ∀ s ∈ k.slots, SlotP s
theorem slotV_P {read : List PKind} {names : List ByteArray} {s : PSlot} (hr : ∀ k ∈ read, nameL (tx k.name) = true) (hl : read.length < 60) (h : slotV read names s) : SlotP s := by
  obtain ⟨h1, h2⟩ := kindsV_spec s.kinds [] h.kinds List.nodup_nil (fun x hx => by cases hx)
  rw [List.nil_append] at h1 h2
  have := nodup_len _ _ h1 h2
  rw [List.length_map] at this
  refine ⟨h.nm, h.one, h.le, by omega, fun x hx => ?_⟩
  obtain ⟨k, hk, rfl⟩ := List.mem_map.1 (h2 x hx)
  exact hr k hk
theorem slotsV_P {read : List PKind} (hr : ∀ k ∈ read, nameL (tx k.name) = true) (hl : read.length < 60) : ∀ (ss d : List PSlot), slotsV read d ss → d.length ≤ 12 → d.length + ss.length ≤ 12 ∧ ∀ s ∈ ss, SlotP s
  | [], d, _, h => ⟨by simpa using h, fun s hs => by cases hs⟩
  | s :: r, d, hv, h => by
    obtain ⟨h1, h2⟩ := hv
    have hroom := h1.room
    rw [List.length_map] at hroom
    obtain ⟨h3, h4⟩ := slotsV_P hr hl r (d ++ [s]) h2 (by simp; omega)
    refine ⟨by simp only [List.length_append, List.length_cons, List.length_nil] at h3 ⊢; omega, fun x hx => ?_⟩
    rcases List.mem_cons.1 hx with rfl | hx
    · exact slotV_P hr hl h1
    · exact h4 x hx
theorem kindV_P {read : List PKind} {k : PKind} (hr : ∀ k ∈ read, nameL (tx k.name) = true) (h : kindV read k) : KindP k := by
  obtain ⟨h1, h2⟩ := slotsV_P hr h.room k.slots [] h.slots (Nat.zero_le _)
  exact ⟨h.nm, by simpa using h1, h2⟩
theorem catV_P : ∀ (ks read : List PKind), catV read ks → (∀ k ∈ read, nameL (tx k.name) = true) → read.length ≤ 60 → read.length + ks.length ≤ 60 ∧ ∀ k ∈ ks, KindP k
  | [], read, _, _, h => ⟨by simpa using h, fun s hs => by cases hs⟩
  | k :: r, read, hv, hr, h => by
    obtain ⟨h1, h2⟩ := hv
    have hP := kindV_P hr h1
    have hroom := h1.room
    obtain ⟨h3, h4⟩ := catV_P r (read ++ [k]) h2 (fun x hx => by
      rcases List.mem_append.1 hx with hx | hx
      · exact hr x hx
      · rw [List.mem_singleton] at hx; subst hx; exact h1.nm) (by simp; omega)
    refine ⟨by simp only [List.length_append, List.length_cons, List.length_nil] at h3 ⊢; omega, fun x hx => ?_⟩
    rcases List.mem_cons.1 hx with rfl | hx
    · exact hP
    · exact h4 x hx
theorem catV_all {ks : List PKind} (h : catV [] ks) : ks.length ≤ 60 ∧ ∀ k ∈ ks, KindP k := by
  have := catV_P ks [] h (fun k hk => by cases hk) (Nat.zero_le _)
  simpa using this
theorem catV_named {ks : List PKind} (h : catV [] ks) : Named ks := fun k hk => by
  have hP := (catV_all h).2 k hk
  exact ⟨hP.nm, fun s hs => ⟨(hP.slots s hs).nm, (hP.slots s hs).nms⟩⟩
/-! What is parsed is valid. -/
def GoodT (en : Int) (ts : List Tk) : Prop := ∀ t ∈ ts, (t.kind = 1 → nameL (tx t.text) = true) ∧ (t.pos : Int) ≤ en
theorem lexN_good {en : Int} (l : List UInt8) (a : Nat) (he : ((a + l.length : Nat) : Int) ≤ en) : GoodT en (lexN l a).1 := by
  have h1 : ∀ t ∈ (lexN l a).1, t.kind = 1 → nameL (tx t.text) = true := by
    clear he
    refine lexN_ind (P := fun l a => ∀ t ∈ (lexN l a).1, t.kind = 1 → nameL (tx t.text) = true) (fun l a h => ?_) (fun l a c r e h h2 => ?_) (fun l a c r k s n h h2 ih => ?_) l.length l a (Nat.le_refl _)
    · rw [lexN_nil h]; intro t ht; cases ht
    · rw [lexN_err h h2]; intro t ht; cases ht
    · rw [lexN_tok h h2]
      intro t ht hk
      rcases List.mem_cons.1 ht with rfl | ht
      · dsimp only at hk ⊢
        subst hk
        rw [tx_ofL]
        exact tokC_kind1 h2
      · exact ih t ht hk
  intro t ht
  refine ⟨h1 t ht, ?_⟩
  have := (lexN_pos l a t ht).1
  omega
theorem GoodT.tail {en : Int} {t : Tk} {ts : List Tk} (h : GoodT en (t :: ts)) : GoodT en ts := fun x hx => h x (.tail _ hx)
theorem GoodT.sub {en : Int} {ts us : List Tk} (h : GoodT en ts) (hs : ∀ x ∈ us, x ∈ ts) : GoodT en us := fun x hx => h x (hs x hx)
theorem GoodT.tl {en : Int} {ts : List Tk} (h : GoodT en ts) : GoodT en ts.tail := h.sub fun x hx => List.mem_of_mem_tail hx
theorem nameP_v {chk : ByteArray → Int} {en : Int} {ts r : List Tk} {x : ByteArray} (hg : GoodT en ts) (h : nameP chk en ts = .ok (x, r)) : nameL (tx x) = true ∧ chk x = 0 ∧ GoodT en r := by
  cases ts with
  | nil => cases h
  | cons t q =>
    simp only [nameP] at h
    split at h
    · rename_i hk
      split at h
      · rename_i hc
        cases h
        exact ⟨(hg t (.head _)).1 (by omega), hc, hg.tail⟩
      · cases h
    · cases h
theorem moreP_v {read : List PKind} {en : Int} : ∀ (ts : List Tk) (l : List ByteArray) {l' : List ByteArray} {r : List Tk}, moreP read en l ts = .ok (l', r) → GoodT en ts → ∃ xs, l' = l ++ xs ∧ kindsV read l xs ∧ GoodT en r
  | [], l, l', r, h, hg => by simp only [moreP] at h; cases h; exact ⟨[], by simp, trivial, hg⟩
  | t :: q, l, l', r, h, hg => by
    simp only [moreP] at h
    split at h
    · split at h
      · rename_i hc
        obtain ⟨xs, h1, h2, h3⟩ := moreP_v q _ h hg.tail
        exact ⟨t.text :: xs, by rw [h1]; simp, ⟨hc, h2⟩, h3⟩
      · cases h
    · cases h; exact ⟨[], by simp, trivial, hg⟩
theorem kindsP_v {read : List PKind} {en : Int} {l l' : List ByteArray} {ts r : List Tk} (hg : GoodT en ts) (h : kindsP read en l ts = .ok (l', r)) : ∃ xs, l' = l ++ xs ∧ 1 ≤ xs.length ∧ kindsV read l xs ∧ GoodT en r := by
  unfold kindsP at h
  split at h
  · cases h
  · rename_i x q hn
    obtain ⟨-, h2, h3⟩ := nameP_v hg hn
    obtain ⟨xs, e, hv, hr⟩ := moreP_v _ _ h h3
    exact ⟨x :: xs, by rw [e]; simp, by simp, ⟨h2, hv⟩, hr⟩
theorem wantP_v {s : ByteArray} {en : Int} {ts r : List Tk} (hg : GoodT en ts) (h : wantP s en ts = .ok r) : GoodT en r := by
  unfold wantP at h
  split at h
  · cases h; exact hg.tl
  · cases h
theorem slotP_v {read : List PKind} {en : Int} {names : List ByteArray} {ts r : List Tk} {s : PSlot} (hn : names.length ≤ 12) (hg : GoodT en ts) (h : slotP read en names ts = .ok (s, r)) : slotV read names s ∧ GoodT en r := by
  unfold slotP at h
  split at h
  · cases h
  · rename_i h1
    obtain ⟨a1, a2, a3⟩ := nameP_v hg h1
    obtain ⟨b1, b2⟩ := freshC_ok a2
    split at h
    · cases h
    · rename_i h2
      have c1 := wantP_v a3 h2
      split at h
      · cases h
      · rename_i h3
        obtain ⟨xs, e, hx, hv, hr⟩ := kindsP_v c1 h3
        rw [List.nil_append] at e
        subst e
        split at h
        · split at h
          · cases h
          · rename_i h5
            obtain ⟨ys, e, hy, hv2, hr2⟩ := kindsP_v hr.tl h5
            cases h
            subst e
            exact ⟨⟨a1, b2, by omega, hx, by simp, kindsV_app.2 ⟨hv, by simpa using hv2⟩⟩, hr2⟩
        · cases h
          exact ⟨⟨a1, b2, by omega, hx, Nat.le_refl _, hv⟩, hr⟩
theorem slotsP_v {read : List PKind} {en : Int} : ∀ (f : Nat) (ss : List PSlot) (ts : List Tk) {ss' : List PSlot} {r : List Tk}, slotsP read en f ss ts = .ok (ss', r) → ss.length ≤ 12 → slotsV read [] ss → GoodT en ts → slotsV read [] ss' ∧ GoodT en r
  | 0, ss, ts, ss', r, h, _, hv, hg => by simp only [slotsP] at h; cases h; exact ⟨hv, hg⟩
  | f + 1, ss, ts, ss', r, h, hl, hv, hg => by
    simp only [slotsP] at h
    split at h
    · cases h
    · rename_i h1
      obtain ⟨q1, q2⟩ := slotP_v (by rw [List.length_map]; exact hl) hg h1
      have hroom := q1.room
      rw [List.length_map] at hroom
      have q3 : slotsV read [] (ss ++ [_]) := slotsV_app.2 ⟨hv, by rw [List.nil_append]; exact ⟨q1, trivial⟩⟩
      split at h
      · exact slotsP_v f _ _ h (by simp; omega) q3 q2.tl
      · cases h; exact ⟨q3, q2⟩
theorem bodyP_v {read : List PKind} {en : Int} {ts r : List Tk} {ss : List PSlot} (hg : GoodT en ts) (h : bodyP read en ts = .ok (ss, r)) : slotsV read [] ss ∧ GoodT en r := by
  unfold bodyP at h
  split at h
  · split at h
    · cases h
    · rename_i h2
      obtain ⟨q1, q2⟩ := slotsP_v _ _ _ h2 (Nat.zero_le _) trivial hg.tl
      split at h
      · cases h
      · rename_i h3
        cases h
        exact ⟨q1, wantP_v q2 h3⟩
  · cases h; exact ⟨trivial, hg⟩
theorem headP_v {en : Int} {ts r : List Tk} {v : Bool} (hg : GoodT en ts) (h : headP en ts = .ok (v, r)) : GoodT en r := by
  unfold headP at h
  split at h
  · cases h; exact hg.tl
  · split at h
    · cases h; exact hg.tl
    · cases h
theorem kindP_v {read : List PKind} {en : Int} {ts r : List Tk} {k : PKind} (hl : read.length ≤ 60) (hg : GoodT en ts) (h : kindP read en ts = .ok (k, r)) : kindV read k ∧ GoodT en r := by
  unfold kindP at h
  split at h
  · cases h
  · rename_i h1
    have a1 := headP_v hg h1
    split at h
    · cases h
    · rename_i h2
      obtain ⟨b1, b2, b3⟩ := nameP_v a1 h2
      obtain ⟨c1, c2⟩ := freshC_ok b2
      rw [List.length_map] at c1
      split at h
      · cases h
      · rename_i h3
        obtain ⟨d1, d2⟩ := bodyP_v b3 h3
        split at h
        · cases h
        · rename_i h4
          cases h
          exact ⟨⟨b1, c2, by omega, d1⟩, wantP_v d2 h4⟩
theorem parseP_v {en : Int} : ∀ (f : Nat) (read : List PKind) (ts : List Tk) {ks : List PKind}, parseP en f read ts = .ok ks → read.length ≤ 60 → catV [] read → GoodT en ts → catV [] ks
  | 0, read, ts, ks, h, _, hv, hg => by simp only [parseP] at h; cases h; exact hv
  | f + 1, read, [], ks, h, _, hv, hg => by simp only [parseP] at h; cases h; exact hv
  | f + 1, read, t :: ts, ks, h, hl, hv, hg => by
    simp only [parseP] at h
    split at h
    · cases h
    · rename_i h1
      obtain ⟨q1, q2⟩ := kindP_v hl hg h1
      have hroom := q1.room
      exact parseP_v f _ _ h (by simp; omega) (catV_app.2 ⟨hv, by rw [List.nil_append]; exact ⟨q1, trivial⟩⟩) q2
theorem lexR_good (t : ByteArray) : GoodT (t.size : Int) (lexR t).1 := by
  unfold lexR
  split
  · intro x hx; cases hx
  · split
    · intro x hx; cases hx
    · split
      · rw [lexA_N]; exact lexN_good _ _ (by rw [tx_len]; omega)
      · intro x hx; cases hx
/-! Errors. -/
def ErrOk (en : Int) (e : PE) : Prop := e.1 ≠ 0 ∧ 0 ≤ e.2 ∧ e.2 ≤ en
theorem failP_e {ts : List Tk} {en c : Int} (hc : c ≠ 0) (h0 : 0 ≤ en) (hg : GoodT en ts) : ErrOk en (failP ts en c) := by
  cases ts with
  | nil => exact ⟨by show (9 : Int) ≠ 0; decide, h0, Int.le_refl _⟩
  | cons t q => exact ⟨hc, Int.natCast_nonneg _, (hg t (.head _)).2⟩
theorem nameP_e {chk : ByteArray → Int} {en : Int} {ts : List Tk} {e : PE} (h0 : 0 ≤ en) (hg : GoodT en ts) (h : nameP chk en ts = .error e) : ErrOk en e := by
  cases ts with
  | nil => simp only [nameP] at h; cases h; exact ⟨by show (9 : Int) ≠ 0; decide, h0, Int.le_refl _⟩
  | cons t q =>
    have hp := (hg t (.head _)).2
    simp only [nameP] at h
    split at h
    · split at h
      · cases h
      · rename_i hc; cases h; exact ⟨hc, Int.natCast_nonneg _, hp⟩
    · cases h; exact ⟨by show (8 : Int) ≠ 0; decide, Int.natCast_nonneg _, hp⟩
theorem moreP_e {read : List PKind} {en : Int} (h0 : 0 ≤ en) : ∀ (ts : List Tk) (l : List ByteArray) {e : PE}, moreP read en l ts = .error e → GoodT en ts → ErrOk en e
  | [], l, e, h, hg => by simp only [moreP] at h; cases h
  | t :: q, l, e, h, hg => by
    simp only [moreP] at h
    split at h
    · split at h
      · exact moreP_e h0 q _ h hg.tail
      · rename_i hc; cases h; exact ⟨hc, Int.natCast_nonneg _, (hg t (.head _)).2⟩
    · cases h
theorem kindsP_e {read : List PKind} {en : Int} {l : List ByteArray} {ts : List Tk} {e : PE} (h0 : 0 ≤ en) (hg : GoodT en ts) (h : kindsP read en l ts = .error e) : ErrOk en e := by
  unfold kindsP at h
  split at h
  · rename_i h1; cases h; exact nameP_e h0 hg h1
  · rename_i x q hn
    exact moreP_e h0 _ _ h (nameP_v hg hn).2.2
theorem wantP_e {s : ByteArray} {en : Int} {ts : List Tk} {e : PE} (h0 : 0 ≤ en) (hg : GoodT en ts) (h : wantP s en ts = .error e) : ErrOk en e := by
  unfold wantP at h
  split at h
  · cases h
  · cases h; exact failP_e (by decide) h0 hg
theorem slotP_e {read : List PKind} {en : Int} {names : List ByteArray} {ts : List Tk} {e : PE} (h0 : 0 ≤ en) (hg : GoodT en ts) (h : slotP read en names ts = .error e) : ErrOk en e := by
  unfold slotP at h
  split at h
  · rename_i h1; cases h; exact nameP_e h0 hg h1
  · rename_i h1
    obtain ⟨a1, a2, a3⟩ := nameP_v hg h1
    split at h
    · rename_i h2; cases h; exact wantP_e h0 a3 h2
    · rename_i h2
      have c1 := wantP_v a3 h2
      split at h
      · rename_i h3; cases h; exact kindsP_e h0 c1 h3
      · rename_i h3
        obtain ⟨xs, e', hx, hv, hr⟩ := kindsP_v c1 h3
        split at h
        · split at h
          · rename_i h5; cases h; exact kindsP_e h0 hr.tl h5
          · cases h
        · cases h
theorem slotP_g {read : List PKind} {en : Int} {names : List ByteArray} {ts r : List Tk} {s : PSlot} (hg : GoodT en ts) (h : slotP read en names ts = .ok (s, r)) : GoodT en r := by
  unfold slotP at h
  split at h
  · cases h
  · rename_i h1
    obtain ⟨a1, a2, a3⟩ := nameP_v hg h1
    split at h
    · cases h
    · rename_i h2
      have c1 := wantP_v a3 h2
      split at h
      · cases h
      · rename_i h3
        obtain ⟨xs, e, hx, hv, hr⟩ := kindsP_v c1 h3
        split at h
        · split at h
          · cases h
          · rename_i h5
            obtain ⟨ys, e, hy, hv2, hr2⟩ := kindsP_v hr.tl h5
            cases h
            exact hr2
        · cases h
          exact hr
theorem slotsP_e {read : List PKind} {en : Int} (h0 : 0 ≤ en) : ∀ (f : Nat) (ss : List PSlot) (ts : List Tk) {e : PE}, slotsP read en f ss ts = .error e → GoodT en ts → ErrOk en e
  | 0, ss, ts, e, h, hg => by simp only [slotsP] at h; cases h
  | f + 1, ss, ts, e, h, hg => by
    simp only [slotsP] at h
    split at h
    · rename_i h1; cases h; exact slotP_e h0 hg h1
    · rename_i h1
      have q2 := slotP_g hg h1
      split at h
      · exact slotsP_e h0 f _ _ h q2.tl
      · cases h
theorem slotsP_g {read : List PKind} {en : Int} : ∀ (f : Nat) (ss : List PSlot) (ts : List Tk) {ss' : List PSlot} {r : List Tk}, slotsP read en f ss ts = .ok (ss', r) → GoodT en ts → GoodT en r
  | 0, ss, ts, ss', r, h, hg => by simp only [slotsP] at h; cases h; exact hg
  | f + 1, ss, ts, ss', r, h, hg => by
    simp only [slotsP] at h
    split at h
    · cases h
    · rename_i h1
      have q2 := slotP_g hg h1
      split at h
      · exact slotsP_g f _ _ h q2.tl
      · cases h; exact q2
theorem bodyP_e {read : List PKind} {en : Int} {ts : List Tk} {e : PE} (h0 : 0 ≤ en) (hg : GoodT en ts) (h : bodyP read en ts = .error e) : ErrOk en e := by
  unfold bodyP at h
  split at h
  · split at h
    · rename_i h2; cases h; exact slotsP_e h0 _ _ _ h2 hg.tl
    · rename_i h2
      have q2 := slotsP_g _ _ _ h2 hg.tl
      split at h
      · rename_i h3; cases h; exact wantP_e h0 q2 h3
      · cases h
  · cases h
theorem headP_e {en : Int} {ts : List Tk} {e : PE} (h0 : 0 ≤ en) (hg : GoodT en ts) (h : headP en ts = .error e) : ErrOk en e := by
  unfold headP at h
  split at h
  · cases h
  · split at h
    · cases h
    · cases h; exact failP_e (by decide) h0 hg
theorem kindP_e {read : List PKind} {en : Int} {ts : List Tk} {e : PE} (h0 : 0 ≤ en) (hg : GoodT en ts) (h : kindP read en ts = .error e) : ErrOk en e := by
  unfold kindP at h
  split at h
  · rename_i h1; cases h; exact headP_e h0 hg h1
  · rename_i h1
    have a1 := headP_v hg h1
    split at h
    · rename_i h2; cases h; exact nameP_e h0 a1 h2
    · rename_i h2
      obtain ⟨b1, b2, b3⟩ := nameP_v a1 h2
      split at h
      · rename_i h3; cases h; exact bodyP_e h0 b3 h3
      · rename_i h3
        obtain ⟨d1, d2⟩ := bodyP_v b3 h3
        split at h
        · rename_i h4; cases h; exact wantP_e h0 d2 h4
        · cases h
theorem parseP_e {en : Int} (h0 : 0 ≤ en) : ∀ (f : Nat) (read : List PKind) (ts : List Tk) {e : PE}, parseP en f read ts = .error e → read.length ≤ 60 → GoodT en ts → ErrOk en e
  | 0, read, ts, e, h, _, hg => by simp only [parseP] at h; cases h
  | f + 1, read, [], e, h, _, hg => by simp only [parseP] at h; cases h
  | f + 1, read, t :: ts, e, h, hl, hg => by
    simp only [parseP] at h
    split at h
    · rename_i h1; cases h; exact kindP_e h0 hg h1
    · rename_i h1
      obtain ⟨q1, q2⟩ := kindP_v hl hg h1
      have hroom := q1.room
      exact parseP_e h0 f _ _ h (by simp; omega) q2
theorem lexR_pos {t : ByteArray} (h : (lexR t).2.1 ≠ 0) : -1 ≤ (lexR t).2.2 ∧ (lexR t).2.2 ≤ (t.size : Int) := by
  unfold lexR at *
  split
  · constructor <;> dsimp only <;> omega
  · rename_i h1
    rw [if_neg h1] at h
    split
    · rename_i x hx
      have hm := List.mem_of_getElem? hx
      rw [lexA_N] at hm
      have := (lexN_pos _ _ _ hm).1
      rw [tx_len] at this
      constructor <;> dsimp only <;> omega
    · rename_i h2
      rw [h2] at h
      simp only at h
      split
      · rename_i h3
        rw [h3] at h
        exact absurd rfl h
      · rename_i p h3
        rw [lexA_N] at h3
        have := lexN_errpos _ _ _ _ h3
        rw [tx_len] at this
        constructor <;> dsimp only <;> omega
theorem parseR_v {t : ByteArray} {ks : List PKind} {a : Int} (h : parseR t = (ks, 0, a)) : catV [] ks ∧ a = 0 := by
  unfold parseR at h
  split at h
  · split at h
    · rename_i e he
      have := (parseP_e (by omega) _ _ _ he (Nat.zero_le _) (lexR_good t)).1
      rw [Prod.mk.injEq, Prod.mk.injEq] at h
      exact absurd h.2.1 this
    · rename_i ks' he
      cases h
      exact ⟨parseP_v _ _ _ he (Nat.zero_le _) trivial (lexR_good t), rfl⟩
  · rename_i hne
    rw [Prod.mk.injEq, Prod.mk.injEq] at h
    exact absurd h.2.1 hne
theorem parseR_e {t : ByteArray} {ks : List PKind} {e a : Int} (h : parseR t = (ks, e, a)) (he : e ≠ 0) : ks = [] ∧ -1 ≤ a ∧ a ≤ (t.size : Int) := by
  unfold parseR at h
  split at h
  · split at h
    · rename_i e' he'
      have := (parseP_e (by omega) _ _ _ he' (Nat.zero_le _) (lexR_good t)).2
      cases h
      exact ⟨rfl, by omega, this.2⟩
    · cases h
      exact absurd rfl he
  · rename_i hne
    have := lexR_pos hne
    cases h
    exact ⟨rfl, this⟩
end Go.Proofs.Ytfdjlphfohnnnaa
/-
  A valid catalog is parsed from its tokens; parsing asks for kinds and texts of tokens alone.
-/
namespace Go.Proofs.Ytfdjlphfohnnnaa
open Go.RowKit Go.Sy
set_option linter.unusedVariables false
set_option linter.unusedSimpArgs false
def isK (s : ByteArray) (k : Nat) : List KT → Bool
  | [] => false
  | t :: _ => decide (t.1 = k) && decide (t.2 = s)
theorem isTk_K (s : ByteArray) (k : Nat) (ts : List Tk) : isTk s k ts = isK s k (ts.map kt) := by
  cases ts with
  | nil => rfl
  | cons t r =>
    simp only [isTk, List.map_cons, isK, kt, decide_true, Bool.and_true]
    rw [decide_eq_decide.2 (show ((t.kind : Int) = (k : Int)) ↔ t.kind = k by omega)]
theorem tok_cons {ts : List Tk} {k : Nat} {x : ByteArray} {rest : List KT} (h : ts.map kt = (k, x) :: rest) : ∃ t r, ts = t :: r ∧ t.kind = k ∧ t.text = x ∧ r.map kt = rest := by
  cases ts with
  | nil => cases h
  | cons t r =>
    rw [List.map_cons, List.cons.injEq] at h
    exact ⟨t, r, rfl, congrArg Prod.fst h.1, congrArg Prod.snd h.1, h.2⟩
theorem nameP_rt {chk : ByteArray → Int} {en : Int} {ts : List Tk} {x : ByteArray} {rest : List KT} (h : ts.map kt = (1, x) :: rest) (hc : chk x = 0) : ∃ r, nameP chk en ts = .ok (x, r) ∧ r.map kt = rest := by
  obtain ⟨t, r, rfl, hk, rfl, hr⟩ := tok_cons h
  refine ⟨r, ?_, hr⟩
  simp only [nameP]
  rw [if_pos (by omega), if_pos hc]
/-- No name stands first. -/
def NoName : List KT → Prop
  | [] => True
  | t :: _ => t.1 ≠ 1
theorem moreP_rt {read : List PKind} {en : Int} : ∀ (xs l : List ByteArray) {ts : List Tk} {rest : List KT}, ts.map kt = namesT xs ++ rest → NoName rest → kindsV read l xs → ∃ r, moreP read en l ts = .ok (l ++ xs, r) ∧ r.map kt = rest
  | [], l, ts, rest, h, hn, _ => by
    refine ⟨ts, ?_, h⟩
    rw [List.append_nil]
    cases ts with
    | nil => rfl
    | cons t q =>
      have : rest = kt t :: q.map kt := h.symm
      rw [this] at hn
      simp only [moreP]
      have hn' : t.kind ≠ 1 := hn
      rw [if_neg (by omega)]
  | x :: xs, l, ts, rest, h, hn, hv => by
    obtain ⟨t, r, rfl, hk, rfl, hr⟩ := tok_cons (rest := namesT xs ++ rest) h
    obtain ⟨q, h1, h2⟩ := moreP_rt xs (l ++ [t.text]) hr hn hv.2
    refine ⟨q, ?_, h2⟩
    simp only [moreP]
    rw [if_pos (by omega), if_pos hv.1, h1, List.append_assoc, List.singleton_append]
theorem kindsP_rt {read : List PKind} {en : Int} {xs l : List ByteArray} {ts : List Tk} {rest : List KT} (hx : 1 ≤ xs.length) (h : ts.map kt = namesT xs ++ rest) (hn : NoName rest) (hv : kindsV read l xs) : ∃ r, kindsP read en l ts = .ok (l ++ xs, r) ∧ r.map kt = rest := by
  cases xs with
  | nil => simp at hx
  | cons x xs =>
    obtain ⟨r, h1, h2⟩ := nameP_rt (chk := kindC read l) (en := en) (rest := namesT xs ++ rest) h hv.1
    obtain ⟨q, h3, h4⟩ := moreP_rt (en := en) xs (l ++ [x]) h2 hn hv.2
    refine ⟨q, ?_, h4⟩
    unfold kindsP
    rw [h1]
    simp only
    rw [h3, List.append_assoc, List.singleton_append]
theorem isK_here {s : ByteArray} {k : Nat} {rest : List KT} : isK s k ((k, s) :: rest) = true := by simp [isK]
theorem tail_kt {ts : List Tk} {k : Nat} {x : ByteArray} {rest : List KT} (h : ts.map kt = (k, x) :: rest) : ts.tail.map kt = rest := by
  obtain ⟨t, r, rfl, -, -, hr⟩ := tok_cons h
  exact hr
theorem wantP_rt {s : ByteArray} {en : Int} {ts : List Tk} {rest : List KT} (h : ts.map kt = (4, s) :: rest) : ∃ r, wantP s en ts = .ok r ∧ r.map kt = rest := by
  refine ⟨ts.tail, ?_, tail_kt h⟩
  unfold wantP
  rw [isTk_K, h, isK_here]
  rfl
theorem slotP_rt {read : List PKind} {en : Int} {names : List ByteArray} {s : PSlot} {ts : List Tk} {rest : List KT} (h : ts.map kt = slotT s ++ rest) (hn : NoName rest) (hp : isK plus 4 rest = false) (hv : slotV read names s) : ∃ r, slotP read en names ts = .ok (s, r) ∧ r.map kt = rest := by
  obtain ⟨nm, ks, n⟩ := s
  obtain ⟨h1, h2, h3, h4, h5, h6⟩ := hv
  dsimp only at h1 h2 h3 h4 h5 h6
  have ht : ts.map kt = (1, nm) :: (4, colon) :: ((namesT (ks.take n) ++ if n < ks.length then (4, plus) :: namesT (ks.drop n) else []) ++ rest) := h
  obtain ⟨r1, a1, a2⟩ := nameP_rt (chk := freshC names 12) (en := en) ht (freshC_zero h3 h2)
  obtain ⟨r2, b1, b2⟩ := wantP_rt (en := en) a2
  have hsp : kindsV read [] (ks.take n) ∧ kindsV read (ks.take n) (ks.drop n) := by
    have := (kindsV_app (read := read) (d := []) (a := ks.take n) (b := ks.drop n)).1 (by rw [List.take_append_drop]; exact h6)
    simpa using this
  have htl : 1 ≤ (ks.take n).length := by rw [List.length_take]; omega
  unfold slotP
  rw [a1]
  simp only
  rw [b1]
  simp only
  by_cases hlt : n < ks.length
  · rw [if_pos hlt, List.append_assoc] at b2
    obtain ⟨r3, c1, c2⟩ := kindsP_rt (en := en) htl b2 (show (4 : Nat) ≠ 1 by decide) hsp.1
    rw [c1]
    simp only [List.nil_append]
    rw [isTk_K, c2, List.cons_append, isK_here, if_pos rfl]
    obtain ⟨r4, d1, d2⟩ := kindsP_rt (read := read) (en := en) (l := ks.take n) (xs := ks.drop n) (rest := rest) (by rw [List.length_drop]; omega) (tail_kt c2) hn hsp.2
    rw [d1]
    refine ⟨r4, ?_, d2⟩
    simp only [List.take_append_drop, List.length_take]
    rw [Nat.min_eq_left h5]
  · rw [if_neg hlt, List.append_nil] at b2
    have hall : ks.take n = ks := List.take_of_length_le (by omega)
    rw [hall] at b2 htl hsp
    obtain ⟨r3, c1, c2⟩ := kindsP_rt (en := en) htl b2 hn hsp.1
    rw [c1]
    simp only [List.nil_append]
    rw [isTk_K, c2, hp]
    refine ⟨r3, ?_, c2⟩
    rw [if_neg (by simp), show ks.length = n by omega]
theorem noName4 {s : ByteArray} {r : List KT} : NoName ((4, s) :: r) := by show (4 : Nat) ≠ 1; decide
theorem slotsP_rt {read : List PKind} {en : Int} : ∀ (ss d : List PSlot) (f : Nat) {ts : List Tk} {rest : List KT}, ss ≠ [] → ss.length ≤ f → ts.map kt = slotsT ss ++ (4, rpar) :: rest → slotsV read d ss → ∃ r, slotsP read en f d ts = .ok (d ++ ss, r) ∧ r.map kt = (4, rpar) :: rest
  | [], d, f, ts, rest, h0, _, _, _ => absurd rfl h0
  | [s], d, f, ts, rest, _, hf, h, hv => by
    obtain ⟨f', rfl⟩ : ∃ f', f = f' + 1 := ⟨f - 1, by simp at hf; omega⟩
    have h' : ts.map kt = slotT s ++ (4, rpar) :: rest := by rw [h]; simp [slotsT]
    obtain ⟨r, a1, a2⟩ := slotP_rt (en := en) h' noName4 (by simp [isK, rpar, plus]) hv.1
    refine ⟨r, ?_, a2⟩
    simp only [slotsP]
    rw [a1]
    simp only
    rw [isTk_K, a2, if_neg (by simp [isK, rpar, semi])]
  | s :: s2 :: ss, d, f, ts, rest, _, hf, h, hv => by
    obtain ⟨f', rfl⟩ : ∃ f', f = f' + 1 := ⟨f - 1, by simp at hf; omega⟩
    have h' : ts.map kt = slotT s ++ ((4, semi) :: (slotsT (s2 :: ss) ++ (4, rpar) :: rest)) := by rw [h]; simp [slotsT]
    obtain ⟨r, a1, a2⟩ := slotP_rt (en := en) h' noName4 (by simp [isK, semi, plus]) hv.1
    obtain ⟨q, b1, b2⟩ := slotsP_rt (s2 :: ss) (d ++ [s]) f' (by simp) (by simp only [List.length_cons] at hf ⊢; omega) (tail_kt a2) hv.2
    refine ⟨q, ?_, b2⟩
    simp only [slotsP]
    rw [a1]
    simp only
    rw [isTk_K, a2, isK_here, if_pos rfl, b1, List.append_assoc, List.singleton_append]
theorem slotsT_len : ∀ ss : List PSlot, ss.length ≤ (slotsT ss).length
  | [] => Nat.le_refl _
  | s :: r => by
    have := slotsT_len r
    cases r with
    | nil => simp [slotsT, slotT]
    | cons s2 r => simp only [slotsT, List.length_append, List.length_cons] at *; omega
def bodyT (ss : List PSlot) : List KT := match ss with | [] => [] | _ :: _ => (4, lpar) :: (slotsT ss ++ [(4, rpar)])
theorem bodyP_rt {read : List PKind} {en : Int} {ss : List PSlot} {ts : List Tk} {rest : List KT} (h : ts.map kt = bodyT ss ++ (4, semi) :: rest) (hv : slotsV read [] ss) : ∃ r, bodyP read en ts = .ok (ss, r) ∧ r.map kt = (4, semi) :: rest := by
  cases hs : ss with
  | nil =>
    rw [hs] at h
    refine ⟨ts, ?_, h⟩
    unfold bodyP
    rw [isTk_K, h, if_neg (by simp [bodyT, isK, semi, lpar])]
  | cons s r0 =>
    have h' : ts.map kt = (4, lpar) :: (slotsT ss ++ (4, rpar) :: ((4, semi) :: rest)) := by rw [h, hs]; simp [bodyT]
    have hlen := congrArg List.length h'
    simp only [List.length_map, List.length_cons, List.length_append] at hlen
    have hl := slotsT_len ss
    obtain ⟨q, b1, b2⟩ := slotsP_rt (read := read) (en := en) ss [] ts.length (by rw [hs]; simp) (by omega) (tail_kt h') hv
    obtain ⟨r, c1, c2⟩ := wantP_rt (en := en) b2
    refine ⟨r, ?_, c2⟩
    unfold bodyP
    rw [isTk_K, h', isK_here, if_pos rfl, b1]
    simp only [List.nil_append]
    rw [c1, hs]
theorem kindP_rt {read : List PKind} {en : Int} {k : PKind} {ts : List Tk} {rest : List KT} (h : ts.map kt = kindT k ++ rest) (hv : kindV read k) : ∃ r, kindP read en ts = .ok (k, r) ∧ r.map kt = rest := by
  obtain ⟨nm, v, ss⟩ := k
  obtain ⟨h1, h2, h3, h4⟩ := hv
  dsimp only at h1 h2 h3 h4
  have ht : ts.map kt = (1, if v then wVehicle else wKind) :: (1, nm) :: (bodyT ss ++ (4, semi) :: rest) := by rw [h]; cases ss <;> simp [kindT, bodyT]
  have hh : headP en ts = .ok (v, ts.tail) := by
    unfold headP
    rw [isTk_K, isTk_K, ht]
    cases v with
    | true => simp [isK]
    | false => simp [isK, wVehicle, wKind]
  obtain ⟨r1, a1, a2⟩ := nameP_rt (chk := freshC (read.map (·.name)) 60) (en := en) (tail_kt ht) (freshC_zero (by rw [List.length_map]; exact h3) h2)
  obtain ⟨r2, b1, b2⟩ := bodyP_rt (en := en) a2 h4
  obtain ⟨r3, c1, c2⟩ := wantP_rt (en := en) b2
  refine ⟨r3, ?_, c2⟩
  unfold kindP
  rw [hh]
  simp only
  rw [a1]
  simp only
  rw [b1]
  simp only
  rw [c1]
theorem kindT_len (k : PKind) : 1 ≤ (kindT k).length := by simp [kindT]
theorem parseP_rt {en : Int} : ∀ (ks read : List PKind) (f : Nat) {ts : List Tk}, ks.length ≤ f → ts.map kt = catT ks → catV read ks → parseP en f read ts = .ok (read ++ ks)
  | [], read, f, ts, _, h, _ => by
    have : ts = [] := by simpa [catT] using h
    subst this
    rw [List.append_nil]
    cases f <;> rfl
  | k :: ks, read, f, ts, hf, h, hv => by
    obtain ⟨f', rfl⟩ : ∃ f', f = f' + 1 := ⟨f - 1, by simp at hf; omega⟩
    obtain ⟨r, a1, a2⟩ := kindP_rt (en := en) (rest := catT ks) h hv.1
    cases ts with
    | nil => simp [catT, kindT] at h
    | cons t q =>
      simp only [parseP]
      rw [a1]
      simp only
      rw [parseP_rt ks (read ++ [k]) f' (by simp at hf; omega) a2 hv.2, List.append_assoc, List.singleton_append]
theorem catT_len : ∀ ks : List PKind, ks.length ≤ (catT ks).length
  | [] => Nat.le_refl _
  | k :: r => by
    have := catT_len r
    have h2 := kindT_len k
    have h3 : catT (k :: r) = kindT k ++ catT r := rfl
    rw [h3, List.length_append, List.length_cons]; omega
theorem parseR_rt {t : ByteArray} {ks : List PKind} {l : List Tk} {a : Int} (h : lexR t = (l, 0, a)) (hl : l.map kt = catT ks) (hv : catV [] ks) : parseR t = (ks, 0, 0) := by
  unfold parseR
  rw [h]
  simp only [if_true]
  have hlen := congrArg List.length hl
  rw [List.length_map] at hlen
  have := catT_len ks
  rw [parseP_rt ks [] l.length (by omega) hl hv]
  rfl
/-! Parsing asks for kinds and texts alone. -/
def Sim {α : Type} : Except PE (α × List Tk) → Except PE (α × List Tk) → Prop
  | .ok (x, r), .ok (y, q) => x = y ∧ r.map kt = q.map kt
  | .error e, .error f => e.1 = f.1
  | _, _ => False
theorem failP_s {ts us : List Tk} {en en' c : Int} (h : ts.map kt = us.map kt) : (failP ts en c).1 = (failP us en' c).1 := by
  cases ts with
  | nil =>
    cases us with
    | nil => rfl
    | cons u q => cases h
  | cons t r =>
    cases us with
    | nil => cases h
    | cons u q => rfl
theorem nameP_s {chk : ByteArray → Int} {en en' : Int} {ts us : List Tk} (h : ts.map kt = us.map kt) : Sim (nameP chk en ts) (nameP chk en' us) := by
  cases ts with
  | nil =>
    cases us with
    | nil => rfl
    | cons u q => cases h
  | cons t r =>
    cases us with
    | nil => cases h
    | cons u q =>
      rw [List.map_cons, List.map_cons, List.cons.injEq] at h
      have hk : t.kind = u.kind := congrArg Prod.fst h.1
      have hx : t.text = u.text := congrArg Prod.snd h.1
      simp only [nameP, hk, hx]
      split
      · split
        · exact ⟨rfl, h.2⟩
        · rfl
      · rfl
theorem moreP_s {read : List PKind} {en en' : Int} : ∀ (ts us : List Tk) (l : List ByteArray), ts.map kt = us.map kt → Sim (moreP read en l ts) (moreP read en' l us)
  | [], [], l, _ => ⟨rfl, rfl⟩
  | [], _ :: _, l, h => by cases h
  | _ :: _, [], l, h => by cases h
  | t :: r, u :: q, l, h => by
    rw [List.map_cons, List.map_cons, List.cons.injEq] at h
    have hk : t.kind = u.kind := congrArg Prod.fst h.1
    have hx : t.text = u.text := congrArg Prod.snd h.1
    simp only [moreP, hk, hx]
    split
    · split
      · exact moreP_s r q _ h.2
      · rfl
    · exact ⟨rfl, by simp only [List.map_cons]; rw [h.1, h.2]⟩
theorem Sim.cs {α : Type} {a b : Except PE (α × List Tk)} (h : Sim a b) : (∃ e f, a = .error e ∧ b = .error f ∧ e.1 = f.1) ∨ ∃ x r q, a = .ok (x, r) ∧ b = .ok (x, q) ∧ r.map kt = q.map kt := by
  cases a with
  | error e =>
    cases b with
    | error e' => exact .inl ⟨_, _, rfl, rfl, h⟩
    | ok b => exact h.elim
  | ok a =>
    cases b with
    | error e' => exact h.elim
    | ok b =>
      obtain ⟨x, r⟩ := a
      obtain ⟨y, q⟩ := b
      obtain ⟨rfl, h2⟩ := h
      exact .inr ⟨x, r, q, rfl, rfl, h2⟩
theorem kindsP_s {read : List PKind} {en en' : Int} {l : List ByteArray} {ts us : List Tk} (h : ts.map kt = us.map kt) : Sim (kindsP read en l ts) (kindsP read en' l us) := by
  unfold kindsP
  obtain ⟨e_, f_, h1_, h2_, h3_⟩ | ⟨x_, r_, q_, h1_, h2_, h3_⟩ := Sim.cs (nameP_s h)
  · rw [h1_, h2_]; exact h3_
  rw [h1_, h2_]
  simp only
  clear h1_ h2_
  exact moreP_s _ _ _ h3_
def SimW : Except PE (List Tk) → Except PE (List Tk) → Prop
  | .ok r, .ok q => r.map kt = q.map kt
  | .error e, .error f => e.1 = f.1
  | _, _ => False
theorem wantP_s {s : ByteArray} {en en' : Int} {ts us : List Tk} (h : ts.map kt = us.map kt) : SimW (wantP s en ts) (wantP s en' us) := by
  unfold wantP
  rw [isTk_K, isTk_K, h]
  split
  · show ts.tail.map kt = us.tail.map kt
    rw [List.map_tail, List.map_tail, h]
  · exact failP_s h
theorem SimW.cs {a b : Except PE (List Tk)} (h : SimW a b) : (∃ e f, a = .error e ∧ b = .error f ∧ e.1 = f.1) ∨ ∃ r q, a = .ok r ∧ b = .ok q ∧ r.map kt = q.map kt := by
  cases a with
  | error e =>
    cases b with
    | error e' => exact .inl ⟨_, _, rfl, rfl, h⟩
    | ok b => exact h.elim
  | ok a =>
    cases b with
    | error e' => exact h.elim
    | ok b => exact .inr ⟨_, _, rfl, rfl, h⟩
theorem tail_s {ts us : List Tk} (h : ts.map kt = us.map kt) : ts.tail.map kt = us.tail.map kt := by rw [List.map_tail, List.map_tail, h]
theorem slotP_s {read : List PKind} {en en' : Int} {names : List ByteArray} {ts us : List Tk} (h : ts.map kt = us.map kt) : Sim (slotP read en names ts) (slotP read en' names us) := by
  unfold slotP
  obtain ⟨e_, f_, h1_, h2_, h3_⟩ | ⟨x_, r_, q_, h1_, h2_, h3_⟩ := Sim.cs (nameP_s h)
  · rw [h1_, h2_]; exact h3_
  rw [h1_, h2_]
  simp only
  clear h1_ h2_
  have h := h3_
  clear h3_
  obtain ⟨e_, f_, h1_, h2_, h3_⟩ | ⟨r_, q_, h1_, h2_, h3_⟩ := SimW.cs (wantP_s (en := en) (en' := en') (s := colon) h)
  · rw [h1_, h2_]; exact h3_
  rw [h1_, h2_]
  simp only
  clear h1_ h2_
  have h := h3_
  clear h3_
  obtain ⟨e_, f_, h1_, h2_, h3_⟩ | ⟨x_, r_, q_, h1_, h2_, h3_⟩ := Sim.cs (kindsP_s (read := read) (en := en) (en' := en') (l := []) h)
  · rw [h1_, h2_]; exact h3_
  rw [h1_, h2_]
  simp only
  clear h1_ h2_
  rw [isTk_K, isTk_K, h3_]
  split
  · have h := tail_s h3_
    clear h3_
    obtain ⟨e_, f_, h1_, h2_, h3_⟩ | ⟨x_, r_, q_, h1_, h2_, h3_⟩ := Sim.cs (kindsP_s (read := read) (en := en) (en' := en') h)
    · rw [h1_, h2_]; exact h3_
    rw [h1_, h2_]
    simp only
    clear h1_ h2_
    exact ⟨rfl, h3_⟩
  · exact ⟨rfl, h3_⟩
theorem slotsP_s {read : List PKind} {en en' : Int} : ∀ (f : Nat) (ss : List PSlot) (ts us : List Tk), ts.map kt = us.map kt → Sim (slotsP read en f ss ts) (slotsP read en' f ss us)
  | 0, ss, ts, us, h => ⟨rfl, h⟩
  | f + 1, ss, ts, us, h => by
    simp only [slotsP]
    obtain ⟨e_, f_, h1_, h2_, h3_⟩ | ⟨x_, r_, q_, h1_, h2_, h3_⟩ := Sim.cs (slotP_s (read := read) (en := en) (en' := en') (names := ss.map (·.name)) h)
    · rw [h1_, h2_]; exact h3_
    rw [h1_, h2_]
    simp only
    clear h1_ h2_
    rw [isTk_K, isTk_K, h3_]
    split
    · exact slotsP_s f _ _ _ (tail_s h3_)
    · exact ⟨rfl, h3_⟩
theorem bodyP_s {read : List PKind} {en en' : Int} {ts us : List Tk} (h : ts.map kt = us.map kt) : Sim (bodyP read en ts) (bodyP read en' us) := by
  have hl : ts.length = us.length := by have := congrArg List.length h; simpa using this
  unfold bodyP
  rw [isTk_K, isTk_K, h, hl]
  split
  ·
    obtain ⟨e_, f_, h1_, h2_, h3_⟩ | ⟨x_, r_, q_, h1_, h2_, h3_⟩ := Sim.cs (slotsP_s (read := read) (en := en) (en' := en') us.length [] _ _ (tail_s h))
    · rw [h1_, h2_]; exact h3_
    rw [h1_, h2_]
    simp only
    clear h1_ h2_
    have h := h3_
    clear h3_
    obtain ⟨e_, f_, h1_, h2_, h3_⟩ | ⟨r_, q_, h1_, h2_, h3_⟩ := SimW.cs (wantP_s (en := en) (en' := en') (s := rpar) h)
    · rw [h1_, h2_]; exact h3_
    rw [h1_, h2_]
    simp only
    clear h1_ h2_
    exact ⟨rfl, h3_⟩
  · exact ⟨rfl, h⟩
theorem headP_s {en en' : Int} {ts us : List Tk} (h : ts.map kt = us.map kt) : Sim (headP en ts) (headP en' us) := by
  unfold headP
  rw [isTk_K, isTk_K, isTk_K, isTk_K, h]
  split
  · exact ⟨rfl, tail_s h⟩
  · split
    · exact ⟨rfl, tail_s h⟩
    · exact failP_s h
theorem kindP_s {read : List PKind} {en en' : Int} {ts us : List Tk} (h : ts.map kt = us.map kt) : Sim (kindP read en ts) (kindP read en' us) := by
  unfold kindP
  obtain ⟨e_, f_, h1_, h2_, h3_⟩ | ⟨x_, r_, q_, h1_, h2_, h3_⟩ := Sim.cs (headP_s (en := en) (en' := en') h)
  · rw [h1_, h2_]; exact h3_
  rw [h1_, h2_]
  simp only
  clear h1_ h2_
  have h := h3_
  clear h3_
  obtain ⟨e_, f_, h1_, h2_, h3_⟩ | ⟨x_, r_, q_, h1_, h2_, h3_⟩ := Sim.cs (nameP_s (chk := freshC (read.map (·.name)) 60) (en := en) (en' := en') h)
  · rw [h1_, h2_]; exact h3_
  rw [h1_, h2_]
  simp only
  clear h1_ h2_
  have h := h3_
  clear h3_
  obtain ⟨e_, f_, h1_, h2_, h3_⟩ | ⟨x_, r_, q_, h1_, h2_, h3_⟩ := Sim.cs (bodyP_s (read := read) (en := en) (en' := en') h)
  · rw [h1_, h2_]; exact h3_
  rw [h1_, h2_]
  simp only
  clear h1_ h2_
  have h := h3_
  clear h3_
  obtain ⟨e_, f_, h1_, h2_, h3_⟩ | ⟨r_, q_, h1_, h2_, h3_⟩ := SimW.cs (wantP_s (en := en) (en' := en') (s := semi) h)
  · rw [h1_, h2_]; exact h3_
  rw [h1_, h2_]
  simp only
  clear h1_ h2_
  exact ⟨rfl, h3_⟩
def SimE : Except PE (List PKind) → Except PE (List PKind) → Prop
  | .ok r, .ok q => r = q
  | .error e, .error f => e.1 = f.1
  | _, _ => False
theorem parseP_s {en en' : Int} : ∀ (f : Nat) (read : List PKind) (ts us : List Tk), ts.map kt = us.map kt → SimE (parseP en f read ts) (parseP en' f read us)
  | 0, read, ts, us, h => rfl
  | f + 1, read, [], [], _ => rfl
  | f + 1, read, [], _ :: _, h => by cases h
  | f + 1, read, _ :: _, [], h => by cases h
  | f + 1, read, t :: ts, u :: us, h => by
    have hs := kindP_s (read := read) (en := en) (en' := en') h
    simp only [parseP]
    cases h1 : kindP read en (t :: ts) with
    | error e =>
      cases h2 : kindP read en' (u :: us) with
      | error e' => rw [h1, h2] at hs; exact hs
      | ok b => rw [h1, h2] at hs; exact hs.elim
    | ok a =>
      cases h2 : kindP read en' (u :: us) with
      | error e' => rw [h1, h2] at hs; exact hs.elim
      | ok b =>
        rw [h1, h2] at hs
        obtain ⟨x, r⟩ := a
        obtain ⟨y, q⟩ := b
        obtain ⟨rfl, h4⟩ := hs
        exact parseP_s f _ _ _ h4
theorem parseR_s {t u : ByteArray} {l m : List Tk} {a b : Int} (h1 : lexR t = (l, 0, a)) (h2 : lexR u = (m, 0, b)) (h : l.map kt = m.map kt) : (parseR t).1 = (parseR u).1 ∧ (parseR t).2.1 = (parseR u).2.1 := by
  have hl : l.length = m.length := by have := congrArg List.length h; simpa using this
  have hs := parseP_s (en := (t.size : Int)) (en' := (u.size : Int)) l.length [] l m h
  unfold parseR
  rw [h1, h2]
  simp only [if_true]
  rw [← hl]
  revert hs
  cases parseP (t.size : Int) l.length [] l <;> cases parseP (u.size : Int) l.length [] m <;> intro hs
  · exact ⟨rfl, hs⟩
  · exact hs.elim
  · exact hs.elim
  · exact ⟨hs, rfl⟩
end Go.Proofs.Ytfdjlphfohnnnaa
/-
  Contracts: catalog.Normal and its reference; the references of packages catalog and fleet that only read.
-/
namespace Go.Proofs.Ytfdjlphfohnnnaa
open Go.RowKit Go.Sy
set_option linter.unusedVariables false
set_option linter.unusedSimpArgs false
attribute [local irreducible] Calls thenQ blockQ retQ Spc Spl Spq Ex Ev Evs Gd Upd ESub HKeep Res Res1

set_option maxRecDepth 100000 in
set_option maxHeartbeats 1000000 in
theorem indexStr_c {w : World} {A : Option Addr} {n c : Nat} {xs : List ByteArray} {s : ByteArray} (h : RdS w w.heap.size 1 strC A n xs) :
    Calls Try.prog 51 #[.slice A n c, .string s] w (Ret w (.int .i64 (idx xs fun x => decide (s = x)))) := by
  have hbd := h.bound
  refine sp_enter (vs := [_, _]) Try.func51 rfl Try.ntmps51 rfl ?_
  repeat (first|apply then_n|apply sp_seq|apply sp_region|apply spl_nil|apply sp_block|((apply spl_pure rfl);(·(((first|apply ex_move|apply ex_assign|apply ex_len)<;>(first|exact eT rfl|exact eC))))))
  refine sp_loop (X := Nat) (fun k => [(8, true, .int .i64 k), (7, true, .int .i64 n), (1, true, .string s), (0, true, .slice A n c)]) (fun _ => w) (fun _ => [])
    (fun k => k ≤ n ∧ (xs.take k).any (fun x => decide (s = x)) = false) (fun k => n - k) 0 ⟨Nat.zero_le _, rfl⟩ (by (repeat (first|exact ESub.nil|apply ESub.cons rfl))) rfl (by (repeat (exact HKeep.refl))) ?_
  rintro k ⟨hk, hno⟩
  by_cases hlt : k < n
  · obtain ⟨ad, x, rfl, hb, hx, hsz, hc⟩ := h.at_ hlt
    repeat (first|apply then_n|apply sp_seq|apply sp_region|apply spl_nil|((apply sp_cond_t);(·exact eT rfl);(·(exact decide_eq_true (by omega))))|apply sp_skip|apply sp_block|((apply spl_pure rfl);(·(first|(apply ex_loadfield (k:=0);(·exact eT rfl);(·exact h);(·rfl);(·exact hx);(·rfl))|((first|apply ex_move|apply ex_assign|apply ex_lss|apply ex_seql)<;>(exact eT rfl))|((apply ex_indexAddr)<;>(first|exact eT rfl|rfl|assumption))))))
    refine sp_cond (eT rfl) (fun hp => ?_) (fun hp => ?_)
    · repeat (first|apply then_n|apply sp_seq|apply sp_region|apply spl_nil|apply then_r|apply block_r|apply sp_ret|((apply spl_pure rfl);(·(((first|apply ex_move|apply ex_assign)<;>(exact eT rfl))))))
      (apply ret_ok rfl;(·((apply Res.ofOne;((apply Res1.tmp;(·rfl))))))); rw [idx_hit hno hx hp]
    · repeat (first|apply then_n|apply block_n|apply sp_region|apply spl_nil|apply sp_skip|((apply spl_pure rfl);(·(first|((apply ex_move)<;>(exact eT rfl))|(apply ex_addn<;>(first|exact eT rfl|exact eC|(constructor<;>omega)))))))
      exact ⟨k + 1, ⟨by omega, any_miss hno hx hp⟩, by omega, (by (repeat (first|exact ESub.nil|apply ESub.cons rfl))), rfl, (by (repeat (exact HKeep.refl)))⟩
  · repeat (first|apply then_n|apply sp_seq|apply sp_region|apply spl_nil|apply then_e|apply block_here|(apply sp_cond_f;(·exact eT rfl);(·(exact decide_eq_false (by omega))))|apply sp_ret|apply sp_exit|((apply spl_pure rfl);(·(((first|apply ex_assign|apply ex_lss)<;>(first|exact eT rfl|exact eC))))))
    (apply ret_ok rfl;(·((apply Res.ofOne;((apply Res1.tmp;(·rfl))))))); rw [idx_none hno (by rw [h.len]; omega)]

def normalB (ks : List KindR) (kind name other : ByteArray) : Bool :=
  ((findS ((findK ks kind).getD KindR.zero).slots name).isSome && decide (0 ≤ idx ((findS ((findK ks kind).getD KindR.zero).slots name).getD SlotR.zero).kinds (fun x => decide (other = x)))) &&
    decide (idx ((findS ((findK ks kind).getD KindR.zero).slots name).getD SlotR.zero).kinds (fun x => decide (other = x)) < ((findS ((findK ks kind).getD KindR.zero).slots name).getD SlotR.zero).normal)

set_option maxRecDepth 100000 in
set_option maxHeartbeats 1000000 in
theorem normal_c {w : World} {A : Option Addr} {n c : Nat} {ks : List KindR} {s t o : ByteArray} (h : RdKinds w w.heap.size ⟨A, n, c⟩ ks) :
    Calls Try.prog 23 #[.agg #[.slice A n c], .string s, .string t, .string o] w (Ret w (.bool (normalB ks s t o))) := by
  have hrd := findS_rd (s := t) (findK_rd (s := s) h)
  unfold normalB
  have c1 := fun (w' : World) (h' : RdKinds w' w'.heap.size ⟨A, n, c⟩ ks) => catSlot_c (s := s) (t := t) h'
  generalize findS ((findK ks s).getD KindR.zero).slots t = S at *
  refine sp_enter (vs := [_, _, _, _]) Try.func23 rfl Try.ntmps23 rfl ?_
  repeat (first|(apply spl_callp rfl;(·(repeat (first|exact eN|(apply eS;(·exact eT rfl)))));(·exact fun w' hh => c1 w' (h.hp hh)))|(apply spl_callp rfl;(·(repeat (first|exact eN|(apply eS;(·exact eT rfl)))));(·exact fun w' hh => indexStr_c (hrd.1.hp' hh)))|apply then_n|apply sp_seq|apply sp_region|apply spl_nil|apply sp_ret|((first|apply spl_pure rfl|(apply spl_pure_g rfl;(·exact Gd.tt rfl rfl)));(·(first|((first|apply ex_move|apply ex_assign|apply ex_fieldAddr'|apply ex_lss|apply ex_geq|apply ex_andT)<;>(first|exact eT rfl|exact eC|exact eG rfl))|((first|apply ex_loadown|apply ex_extract)<;>(first|exact eT rfl|exact eG rfl|exact Bk.own InH.mem|rfl))|(apply ex_loadowns<;>(first|exact eT rfl|exact Bk.own InH.mem|(rfl))))))|(apply spl_box;(·exact eT rfl);(·rfl);intro _ _)|(apply spl_alloc rfl;intro _ _)|(apply spl_stores;(·exact eT rfl);(·exact eT rfl);(·(repeat (exact Upd.here)));(·(rfl));(·(rfl));(·exact Ones.one)))
  (apply ret_ok rfl;(·((apply Res.ofOne;((apply Res1.tmp;(·rfl))))))); rfl
end Go.Proofs.Ytfdjlphfohnnnaa
/-
  Bytes of texts read at known places (for seats without the reference of layer 5).
-/
namespace Go.Proofs.Ytfdjlphfohnnnaa
open Go.RowKit Go.Sy
set_option linter.unusedVariables false
set_option linter.unusedSimpArgs false
theorem ex_sindexE {P : Program} {Be : Nat} {w0 : World} {H : Heap} {G : Bool} {e : Env} {ty : TypeId} {x y : Operand} {t : TypeId} {k : IntKind} {s : ByteArray} {i : Nat} {b : UInt8} (hi : i < s.size) (hb : s[i] = b) (h : Ev G e x (.string s)) (h2 : Ev G e y (.int k i)) [ht : TStr P t] : Ex P Be w0 H G e (.index t x y) ty (.int .u8 (b.toNat : Nat)) := by
  subst hb
  exact ex_sindex h h2 hi
/-- Where the guard says no, nothing is looked at. -/
theorem ex_index_dead {P : Program} {Be : Nat} {w0 : World} {H : Heap} {G : Bool} {e : Env} {ty t : TypeId} {x y : Operand} (h : G = false) : Ex P Be w0 H G e (.index t x y) ty (.int .u8 0) := fun _ _ _ _ _ _ _ _ hG => by rw [h] at hG; cases hG
end Go.Proofs.Ytfdjlphfohnnnaa
/-
  Further operations: functions without a Go body, pointers compared and turned, arrays indexed, a row's bytes frozen into a string.
-/
namespace Go.Sy
open Go.RowKit
set_option linter.unusedVariables false
set_option linter.unusedSimpArgs false

theorem bi_sd {ats : Array TypeId} {ty : TypeId} {cs : Array Bool} {args : Array Value} : builtin .unsafeSliceData ats ty cs args = (do pure (.value (← Builtin.unsafeSliceData_ ats ty args))) := rfl
theorem bi_us {ats : Array TypeId} {ty : TypeId} {cs : Array Bool} {args : Array Value} : builtin .unsafeString ats ty cs args = (do pure (.value (← Builtin.unsafeString_ ats ty args))) := rfl
section
variable {P : Program} {Be : Nat} {w0 : World} {H : Heap} {G : Bool} {e : Env} {ty : TypeId}
/-- A function without a Go body: its result at once. -/
theorem ex_extern {f : FuncId} {xs : List Operand} {ts : Array TypeId} {vs : List Value} {v : Value} (h : Evs G e xs vs) (hr : ∀ w, (callFunc f vs.toArray).run P w = .ok (.value v) w) : Ex P Be w0 H G e (.call ⟨.value (.func f), xs.toArray, ts⟩) ty v := by
  intro N a w o ho _ hf hh hG
  have h1 := h N a hf hG
  have hc : a.eval (.func f) = .func (.func f) #[] #[] := rfl
  simp only [execOp, ho, resolve, Deferred.ofValue, hc, Sem.run_bind, Sem.run_pure, Result.andThen_ok, invoke]
  have h2 : Array.map a.eval xs.toArray = vs.toArray := by simp [h1]
  rw [h2]
  have h3 := hr w
  simpa using h3
/-- A pointer held against itself. -/
theorem ex_pneqS {t t' el n : TypeId} {x y : Operand} {p : Addr} (h1 : Ev G e x (.pointer (some p))) (h2 : Ev G e y (.pointer (some p))) [ht : TPtr P t el] [hs : TSize P el n] : Ex P Be w0 H G e (.binOp .neq t x y t') ty (.bool false) := by
  intro N a w o ho _ hf hh hG
  obtain ⟨i, hi⟩ : ∃ i, P.info? el = some i := by
    have := hs.size
    cases h : P.info? el with
    | none => rw [h] at this; cases this
    | some i => exact ⟨i, rfl⟩
  simp only [execOp, ho, h1 N a hf hG, h2 N a hf hG, Sem.run_bind]
  have : (eqGuard .neq t x y (.pointer (some p)) (.pointer (some p))).run P w = .ok () w := by unfold eqGuard; simp
  rw [this]
  simp only [Result.andThen_ok, Lib.run_neq_ptr_same w p ht.ptr hi]
  rfl
/-- To unsafe.Pointer and back. -/
theorem ex_toUnsafe {t t' el n : TypeId} {x : Operand} {g k : Nat} {cs : Array Value} {T : TypeId} {f : Nat × Nat} (h : Ev G e x (.pointer (some ⟨g, k, none⟩))) (hm : Bk Be w0 H g (.cells cs T f)) (hk : Nat.blt k cs.size = true) [ht : TPtr P t el] [hs : TSize P el n] (hn : Nat.beq n 0 = false) (hd : P.underlying t' = some .unsafePointer) :
    Ex P Be w0 H G e (.convert t t' x) ty (.pointer (some ⟨g, k, none⟩)) := by
  intro N a w o ho _ hf hh hG
  obtain ⟨i, hi⟩ : ∃ i, P.info? el = some i := by
    have := hs.size
    cases h : P.info? el with
    | none => rw [h] at this; cases this
    | some i => exact ⟨i, rfl⟩
  have his : i.size = n := by have := hs.size; rw [hi] at this; simpa using this
  have hw := hm w hh
  have := Lib.run_to_unsafe (P := P) w (src := t) (dst := t') (e := T) (cells := cs.size) ⟨g, k, none⟩ ht.ptr hd hi (by rw [his]; intro h0; subst h0; cases hn) (by simp [World.shape?, hw]) (by simpa [Nat.blt_eq] using hk)
  simp only [execOp, ho, h N a hf hG, Sem.run_bind, this, Result.andThen_ok, Sem.run_pure]
theorem ex_fromUnsafe {t t' el n : TypeId} {x : Operand} {g k : Nat} {cs : Array Value} {T : TypeId} {f : Nat × Nat} (h : Ev G e x (.pointer (some ⟨g, k, none⟩))) (hm : Bk Be w0 H g (.cells cs T f)) [ht : TPtr P t' el] [hs : TSize P el n] (hd : P.underlying t = some .unsafePointer)
    (hl : liesAt P P.depth T (cs.size / P.cellsOf T) k el 1 = true) : Ex P Be w0 H G e (.convert t t' x) ty (.pointer (some ⟨g, k, none⟩)) := by
  intro N a w o ho _ hf hh hG
  obtain ⟨i, hi⟩ : ∃ i, P.info? el = some i := by
    have := hs.size
    cases h : P.info? el with
    | none => rw [h] at this; cases this
    | some i => exact ⟨i, rfl⟩
  have hw := hm w hh
  have := Lib.run_from_unsafe (P := P) w (src := t) (dst := t') (e := T) (cells := cs.size) ⟨g, k, none⟩ hd ht.ptr hi (by simp [World.shape?, hw]) hl
  simp only [execOp, ho, h N a hf hG, Sem.run_bind, this, Result.andThen_ok, Sem.run_pure]
/-- 'a[i]' of an array in a block. -/
theorem ex_indexAddrA {t el : TypeId} {x y : Operand} {k : IntKind} {g off n sz : Nat} {i : Nat} (h : Ev G e x (.pointer (some ⟨g, off, none⟩))) (h2 : Ev G e y (.int k (i : Int))) (hi : i < n) [ht : TArray P t n el] [hs : TSize P el sz] : Ex P Be w0 H G e (.indexAddr t x y) ty (.pointer (some ⟨g, off + i * sz, none⟩)) := by
  intro N a w o ho _ hf hh hG
  simp [execOp, ho, h N a hf hG, h2 N a hf hG, Instr.indexAt, Instr.sureAddr, asIntOf, run_underlying ht.array, hs.run w, hi, addr_add]
theorem ex_indexAddrJ {t el : TypeId} {x y : Operand} {k : IntKind} {g off n sz : Nat} {i j : Nat} (hj : off + i * sz = j) (h : Ev G e x (.pointer (some ⟨g, off, none⟩))) (h2 : Ev G e y (.int k (i : Int))) (hi : i < n) [ht : TArray P t n el] [hs : TSize P el sz] : Ex P Be w0 H G e (.indexAddr t x y) ty (.pointer (some ⟨g, j, none⟩)) := by
  subst hj
  exact ex_indexAddrA h h2 hi
/-- unsafe.SliceData of a slice with room, of nil. -/
theorem ex_sliceData {x : Operand} {ts : Array TypeId} {p : Addr} {n c : Nat} (h : Ev G e x (.slice (some p) n c)) (hc : 0 < c) : Ex P Be w0 H G e (.call ⟨.builtin .unsafeSliceData, #[x], ts⟩) ty (.pointer (some p)) := by
  intro N a w o ho _ hf hh hG
  have := Lib.run_unsafeSliceData_row (P := P) w ts o.type p n c (by omega)
  simp only [execOp, ho, resolve, invoke, Sem.run_bind, Sem.run_pure, Result.andThen_ok, List.map_toArray, List.map_cons, List.map_nil, h N a hf hG, bi_sd, this, Sem.run_bind, Sem.run_pure, Result.andThen_ok]
theorem ex_sliceDataN {x : Operand} {ts : Array TypeId} {n c : Nat} (h : Ev G e x (.slice none n c)) : Ex P Be w0 H G e (.call ⟨.builtin .unsafeSliceData, #[x], ts⟩) ty (.pointer none) := by
  intro N a w o ho _ hf hh hG
  have := Lib.run_unsafeSliceData_nil (P := P) w ts o.type n c
  simp only [execOp, ho, resolve, invoke, Sem.run_bind, Sem.run_pure, Result.andThen_ok, List.map_toArray, List.map_cons, List.map_nil, h N a hf hG, bi_sd, this, Sem.run_bind, Sem.run_pure, Result.andThen_ok]
theorem ex_unsafeStringN {x y : Operand} {pt it : TypeId} {p : Option Addr} (h : Ev G e x (.pointer p)) (h2 : Ev G e y (.int .i64 0)) : Ex P Be w0 H G e (.call ⟨.builtin .unsafeString, #[x, y], #[pt, it]⟩) ty (.string .empty) := by
  intro N a w o ho _ hf hh hG
  have := Lib.run_unsafeString_none (P := P) w pt it o.type p
  simp only [execOp, ho, resolve, invoke, Sem.run_bind, Sem.run_pure, Result.andThen_ok, List.map_toArray, List.map_cons, List.map_nil, h N a hf hG, h2 N a hf hG, bi_us, this, Sem.run_bind, Sem.run_pure, Result.andThen_ok]
end

theorem Hp.freeze {Be : Nat} {w0 w : World} {H : Heap} {g n : Nat} (h : Hp Be w0 H w) (hg : ∀ p ∈ H, p.1 ≠ g) (hfr : w0.heap.size ≤ g) : Hp Be w0 H (w.freeze ⟨g, 0, none⟩ n) := by
  unfold World.freeze
  split
  · exact h
  · refine ⟨h.os, h.tape, h.output, by simpa using h.size, h.be, fun k hk hn => ?_, fun p hp => ?_, h.dist, h.low⟩
    · simp only [Array.getElem?_modify]
      rw [if_neg (by omega)]
      exact h.old k hk hn
    · simp only [Array.getElem?_modify]
      rw [if_neg (fun e => hg p hp e.symm)]
      exact h.own p hp

section
variable {P : Program} {N Be : Nat} {Q : Post} {e : Env} {w0 : World} {H : Heap} {ops : Array Oper} {rest : List Oper} {ty : TypeId} {pos : String} {after : Array Edge} {d : Nat}
/-- unsafe.String over the head of an own row: the row is forgotten. -/
theorem spl_unsafeString {x y : Operand} {pt it T : TypeId} {g : Nat} {s : ByteArray} {cs : Array Value} {Hr : Heap} (hN : Nat.blt d N = true) (hx : Ev true e x (.pointer (some ⟨g, 0, none⟩))) (hy : Ev true e y (.int .i64 (s.size : Int))) (hrem : Rem H g (.cells cs T (0, 0)) Hr) (hfr : w0.heap.size ≤ g)
    [hp : TPtr P pt T] (hc : P.cellsOf T = 1) (h0 : 0 < s.size) (hn : s.size ≤ cs.size) (h63 : s.size ≤ 9223372036854775807) (hcell : ∀ (j : Nat) (v : Value), (byteCells s)[j]? = some v → cs[j]? = some v)
    (k : Spl P N Be ops Q rest ((d, true, .string s) :: e) w0 Hr) :
    Spl P N Be ops Q (⟨some d, .call ⟨.builtin .unsafeString, #[x, y], #[pt, it]⟩, ty, pos, after, none⟩ :: rest) e w0 H := by
  intro a w hf hh
  have hd : d < N := by simpa [Nat.blt_eq] using hN
  refine wpList_plain rfl fun K hK => ?_
  have hh1 := hh.perm hrem.perm
  have hg : w.heap[g]? = some (.cells cs T (0, 0)) := hh1.own _ (.head _)
  have hlen : s.data.toList.length = s.size := by simp
  have hr := Lib.run_unsafeString_row (P := P) w pt it ty T hp.ptr hc g cs.size (by simp [World.shape?, hg]) s.data.toList (by intro h; rw [h] at hlen; simp at hlen; omega) (by rw [hlen]; exact hn) (by rw [hlen]; exact h63)
    (fun j b hb => by
      have h1 : (byteCells s)[j]? = some (.int .u8 b.toNat) := by simp only [byteCells, List.getElem?_map, hb, Option.map_some]
      have h2 := hcell j _ h1
      rw [addr_add]
      simp [World.cell?, hg, h2])
  rw [hlen] at hr
  have hs : (⟨s.data.toList.toArray⟩ : ByteArray) = s := by simp
  rw [hs] at hr
  have hr' : (execOp a.eval ⟨some d, .call ⟨.builtin .unsafeString, #[x, y], #[pt, it]⟩, ty, pos, after, none⟩).run P w = .ok (.value (.string s)) (w.freeze ⟨g, 0, none⟩ s.size) := by
    simp only [execOp, resolve, invoke, Sem.run_bind, Sem.run_pure, Result.andThen_ok, List.map_toArray, List.map_cons, List.map_nil, hx N a hf rfl, hy N a hf rfl, bi_us, hr, Sem.run_bind, Sem.run_pure, Result.andThen_ok]
  unfold Oper.wp
  rw [hr', Oper.upon_value]
  have hd1 := hh1.dist
  rw [List.map_cons, List.nodup_cons] at hd1
  refine hK _ _ (k _ _ (hf.puttrue hd) (Hp.freeze (hh1.sub (HKeep.drop hfr HKeep.refl)) (fun p hp e => hd1.1 ?_) hfr))
  rw [← e]
  exact List.mem_map.2 ⟨p, hp, rfl⟩
end
end Go.Sy
/-
  Contracts: strings.IndexByte, the lexer's classes of bytes, its names.
-/
namespace Go.Proofs.Ytfdjlphfohnnnaa
open Go.RowKit Go.Sy
set_option linter.unusedVariables false
set_option linter.unusedSimpArgs false

theorem indexByte_run (s : ByteArray) (c : UInt8) (w : World) : (callFunc 93 #[.string s, .int .u8 (c.toNat : Int)]).run Try.prog w = .ok (.value (.int .i64 (firstIdx s c))) w := by
  rw [run_callFunc_indexByte Try.func93 (by kernel_rfl) (by kernel_rfl) (by kernel_rfl) (by kernel_rfl), run_indexByte_string]
  simp
theorem firstIdx_has (s : ByteArray) (c : UInt8) : decide (firstIdx s c ≥ 0) = hasB s c := by
  unfold firstIdx
  split
  · rename_i i h
    have h1 := List.find?_some h
    have h2 := List.mem_of_find?_eq_some h
    simp only [List.mem_range] at h2
    have h3 : s[i]! = s[i] := getElem!_pos s i h2
    rw [h3] at h1
    have : hasB s c = true := by
      unfold hasB
      rw [List.any_eq_true]
      refine ⟨s[i], ?_, ?_⟩
      · have : s[i] = s.data.toList[i]'(by simpa using h2) := rfl
        rw [this]
        exact List.getElem_mem _
      · simp only [beq_iff_eq] at h1
        rw [h1]; simp
    rw [this]
    simp
  · rename_i h
    rw [List.find?_eq_none] at h
    have : hasB s c = false := by
      unfold hasB
      rw [List.any_eq_false]
      intro x hx
      obtain ⟨i, hi, rfl⟩ := List.getElem_of_mem hx
      have hi' : i < s.size := by simpa using hi
      have := h i (by simpa using hi')
      rw [getElem!_pos s i hi'] at this
      have h4 : s[i] = s.data.toList[i] := rfl
      rw [← h4]
      simp only [beq_iff_eq] at this
      simp only [decide_eq_true_eq]
      intro he
      exact this (UInt8.toNat.inj (by omega))
    rw [this]
    rfl
def cls0 (c : UInt8) : Nat := bif isLetter c then 3 else bif isDigit c then 4 else bif isBlank c then 1 else bif isSym c then 6 else 0
def cls (c : UInt8) : Nat := if c.toNat = 34 then 7 else if c.toNat = 95 then 5 else if c.toNat = 35 then 2 else cls0 c
def tabL (k : Nat) : List Value := (List.range 256).map fun j => Value.int .u8 ((bif Nat.blt j k then cls0 j.toUInt8 else 0 : Nat) : Int)
def tabA (k : Nat) : Array Value := (tabL k).toArray
def clsL : List Value := (List.range 256).map fun j => Value.int .u8 ((cls j.toUInt8 : Nat) : Int)
def clsA : Array Value := clsL.toArray
theorem tabA_size (k : Nat) : (tabA k).size = 256 := by simp [tabA, tabL]
theorem clsA_size : clsA.size = 256 := by simp [clsA, clsL]
theorem toUInt8_toNat (c : UInt8) : c.toNat.toUInt8 = c := by simp
theorem clsA_at (c : UInt8) : clsA[0 + c.toNat * 1]? = some (.int .u8 (cls c : Nat)) := by
  have := c.toNat_lt
  simp [clsA, clsL, List.getElem?_range, this]
theorem tabA_get (k i : Nat) : (tabA k)[i]? = if i < 256 then some (.int .u8 ((bif Nat.blt i k then cls0 i.toUInt8 else 0 : Nat) : Int)) else none := by
  simp only [tabA, tabL, List.getElem?_toArray, List.getElem?_map]
  split
  · rename_i h; rw [List.getElem?_range h]; rfl
  · rename_i h; rw [List.getElem?_eq_none (by simpa using h)]; rfl
theorem clsA_get (i : Nat) : clsA[i]? = if i < 256 then some (.int .u8 ((cls i.toUInt8 : Nat) : Int)) else none := by
  simp only [clsA, clsL, List.getElem?_toArray, List.getElem?_map]
  split
  · rename_i h; rw [List.getElem?_range h]; rfl
  · rename_i h; rw [List.getElem?_eq_none (by simpa using h)]; rfl
theorem tabA_step (c : UInt8) : (tabA c.toNat).setIfInBounds c.toNat (.int .u8 (cls0 c : Nat)) = tabA (c.toNat + 1) := by
  have hc : c.toNat < 256 := c.toNat_lt
  refine Array.ext_getElem? fun i => ?_
  rw [Array.getElem?_setIfInBounds, tabA_get, tabA_get, tabA_size]
  by_cases h : c.toNat = i
  · subst h
    have : Nat.blt c.toNat (c.toNat + 1) = true := by rw [Nat.blt_eq]; omega
    rw [if_pos rfl, if_pos hc, if_pos hc, this, toUInt8_toNat]
    rfl
  · rw [if_neg h]
    have : Nat.blt i (c.toNat + 1) = Nat.blt i c.toNat := by
      rw [Bool.eq_iff_iff, Nat.blt_eq, Nat.blt_eq]
      omega
    rw [this]
theorem tabA_skip (c : UInt8) (h : cls0 c = 0) : tabA (c.toNat + 1) = tabA c.toNat := by
  refine Array.ext_getElem? fun i => ?_
  rw [tabA_get, tabA_get]
  by_cases h' : c.toNat = i
  · subst h'
    rw [toUInt8_toNat, h]
    cases Nat.blt c.toNat (c.toNat + 1) <;> cases Nat.blt c.toNat c.toNat <;> rfl
  · have : Nat.blt i (c.toNat + 1) = Nat.blt i c.toNat := by
      rw [Bool.eq_iff_iff, Nat.blt_eq, Nat.blt_eq]
      omega
    rw [this]
theorem tabA_done : (((tabA 256).setIfInBounds 35 (.int .u8 2)).setIfInBounds 95 (.int .u8 5)).setIfInBounds 34 (.int .u8 7) = clsA := by
  refine Array.ext_getElem? fun i => ?_
  rw [Array.getElem?_setIfInBounds, Array.getElem?_setIfInBounds, Array.getElem?_setIfInBounds, tabA_get, clsA_get, Array.size_setIfInBounds, Array.size_setIfInBounds, tabA_size]
  by_cases h34 : 34 = i
  · subst h34; rfl
  · by_cases h95 : 95 = i
    · subst h95; rfl
    · by_cases h35 : 35 = i
      · subst h35; rfl
      · rw [if_neg h34, if_neg h95, if_neg h35]
        split
        · rename_i hi
          have hb : Nat.blt i 256 = true := by rw [Nat.blt_eq]; exact hi
          have ht : (i.toUInt8).toNat = i := by simp; omega
          unfold cls
          rw [hb, cond_true, ht, if_neg (fun h => h34 h.symm), if_neg (fun h => h95 h.symm), if_neg (fun h => h35 h.symm)]
        · rfl
theorem clsA_ones : ∀ v ∈ clsA, v.oneCell' = true := ones_of_all (by rw [List.all_eq_true]; intro v hv; simp only [clsA, clsL, List.mem_map] at hv; obtain ⟨j, _, rfl⟩ := hv; rfl)
instance (priority := high) zeroClasses : TZero Try.prog 108 (.agg (tabA 0)) := ⟨by kernel_rfl⟩
attribute [local irreducible] Calls thenQ blockQ retQ Spc Spl Spq Ex Ev Evs Gd Upd ESub HKeep Res Res1 wlk effQ Rem SrcAt Split tabA clsA

set_option maxRecDepth 100000 in
theorem indexByte1_c {w : World} (s : ByteArray) (c : UInt8) : Calls Try.prog 91 #[.string s, .int .u8 (c.toNat : Int)] w (Ret w (.int .i64 (firstIdx s c))) := by
  refine sp_enter (vs := [_, _]) Try.func91 rfl Try.ntmps91 rfl ?_
  repeat (first|apply then_n|apply sp_seq|apply sp_region|apply spl_nil|apply sp_ret|((apply spl_pure rfl);(·(first|(apply ex_extern;(·(repeat (first|exact eN|(apply eS;(·exact eT rfl)))));(·exact indexByte_run s c))|((first|apply ex_move|apply ex_assign)<;>(first|exact eT rfl|exact eC))))))
  (apply ret_ok rfl;(·((apply Res.ofOne;((apply Res1.tmp;(·rfl))))))); rfl
set_option maxRecDepth 100000 in
theorem indexByte_c {w : World} (s : ByteArray) (c : UInt8) : Calls Try.prog 85 #[.string s, .int .u8 (c.toNat : Int)] w (Ret w (.int .i64 (firstIdx s c))) := by
  refine sp_enter (vs := [_, _]) Try.func85 rfl Try.ntmps85 rfl ?_
  repeat (first|(apply spl_callp rfl;(·(repeat (first|exact eN|(apply eS;(·exact eT rfl)))));(·exact fun w' hh => indexByte1_c s c))|apply then_n|apply sp_seq|apply sp_region|apply spl_nil|apply sp_ret|((apply spl_pure rfl);(·(((first|apply ex_move|apply ex_assign)<;>(first|exact eT rfl|exact eC))))))
  (apply ret_ok rfl;(·((apply Res.ofOne;((apply Res1.tmp;(·rfl))))))); rfl

set_option maxRecDepth 100000 in
set_option maxHeartbeats 4000000 in
theorem classes_c {w : World} : Calls Try.prog 68 #[] w (Ret w (.agg clsA)) := by
  refine sp_enter (vs := []) Try.func68 rfl Try.ntmps68 rfl ?_
  repeat (first|apply then_n|apply sp_seq|apply sp_region|apply spl_nil|apply sp_block|((apply spl_pure rfl);(·(((apply ex_move)<;>(exact eC)))))|(apply spl_alloc rfl;intro _ _))
  rename_i g0 hg0 g1 hg1
  refine sp_loop (X := Nat) (fun k => [(4, true, .int .i64 (k : Int)), (0, true, .pointer (some ⟨g0, 0, none⟩)), (1, true, .pointer (some ⟨g1, 0, none⟩))]) (fun _ => w) (fun k => [(g1, .cells (tabA k) 108 (0, 0)), (g0, .cells (tabA 0) 108 (0, 0))])
    (fun k => k ≤ 256) (fun k => 256 - k) 0 (Nat.zero_le _) (by (repeat (first|exact ESub.nil|apply ESub.cons rfl))) rfl (by (repeat (exact HKeep.refl))) ?_
  intro k hk
  by_cases hlt : k < 256
  · obtain ⟨c, rfl⟩ : ∃ c : UInt8, c.toNat = k := ⟨k.toUInt8, by simp; omega⟩
    have hblt : Nat.blt c.toNat (tabA c.toNat).size = true := by rw [tabA_size, Nat.blt_eq]; exact hlt
    have hwr : IntKind.u8.wrap (c.toNat : Int) = (c.toNat : Int) := by
      have h1 : (c.toNat : Int) % 256 = c.toNat := by omega
      unfold IntKind.wrap
      simp [IntKind.bits, IntKind.signed, h1]
    have hix : 0 + c.toNat * 1 = c.toNat := by omega
    have hst := tabA_step c
    have hib : decide (firstIdx ⟨#[32, 9, 10]⟩ c ≥ 0) = isBlank c := firstIdx_has blanks c
    have his : decide (firstIdx ⟨#[59, 44, 46, 58, 40, 41, 123, 125, 91, 93, 61, 60, 62, 47, 43, 45, 42]⟩ c ≥ 0) = isSym c := firstIdx_has symbols c
    unfold cls0 at hst
    cases hL : isLetter c with
    | true =>
      simp only [hL, cond_true] at hst
      unfold isLetter at hL
      cases h1 : (decide ((97 : Int) ≤ (c.toNat : Int)) && decide ((c.toNat : Int) ≤ 122)) with
      | true =>
        repeat (first|(apply spl_store1;(·exact eT rfl);(·exact eC);(·rfl);(·(repeat (exact Upd.here)));(·exact hblt))|apply then_n|apply block_n|apply sp_seq|apply sp_region|apply spl_nil|((apply sp_cond_t);(·exact eT rfl);(·(first|exact decide_eq_true (by omega)|assumption)))|apply sp_skip|apply sp_block|((first|apply spl_pure rfl|(apply spl_pure_g rfl;(·exact Gd.tt rfl rfl)));(·(first|(apply ex_convin;(·exact eT rfl);(·exact hwr))|(apply ex_indexAddrJ (j:=c.toNat);(·exact hix);(·exact eT rfl);(·exact eT rfl);(·exact hlt))|((first|apply ex_move|apply ex_assign|apply ex_lss|apply ex_leq|apply ex_andT)<;>(first|exact eT rfl|exact eC|exact eG rfl))|(apply ex_addn<;>(first|exact eT rfl|exact eC|(constructor<;>omega)))))))
        exact ⟨c.toNat + 1, hlt, by omega, (by (repeat (first|exact ESub.nil|apply ESub.cons rfl))), rfl, (by rw [← hst]; (repeat (exact HKeep.refl)))⟩
      | false =>
        have h2 : (decide ((65 : Int) ≤ (c.toNat : Int)) && decide ((c.toNat : Int) ≤ 90)) = true := by rw [h1, Bool.false_or] at hL; exact hL
        repeat (first|(apply spl_store1;(·exact eT rfl);(·exact eC);(·rfl);(·(repeat (exact Upd.here)));(·exact hblt))|apply then_n|apply block_n|apply sp_seq|apply sp_region|apply spl_nil|((apply sp_cond_t);(·exact eT rfl);(·(first|exact decide_eq_true (by omega)|assumption)))|(apply sp_cond_f;(·exact eT rfl);(·(assumption)))|apply sp_skip|apply sp_block|((first|apply spl_pure rfl|(apply spl_pure_g rfl;(·exact Gd.tt rfl rfl)));(·(first|(apply ex_convin;(·exact eT rfl);(·exact hwr))|(apply ex_indexAddrJ (j:=c.toNat);(·exact hix);(·exact eT rfl);(·exact eT rfl);(·exact hlt))|((first|apply ex_move|apply ex_assign|apply ex_lss|apply ex_leq|apply ex_andT)<;>(first|exact eT rfl|exact eC|exact eG rfl))|(apply ex_addn<;>(first|exact eT rfl|exact eC|(constructor<;>omega)))))))
        exact ⟨c.toNat + 1, hlt, by omega, (by (repeat (first|exact ESub.nil|apply ESub.cons rfl))), rfl, (by rw [← hst]; (repeat (exact HKeep.refl)))⟩
    | false =>
      simp only [hL, cond_false] at hst
      unfold isLetter at hL
      obtain ⟨h1, h2⟩ := Bool.or_eq_false_iff.1 hL
      cases hD : isDigit c with
      | true =>
        simp only [hD, cond_true] at hst
        unfold isDigit at hD
        repeat (first|(apply spl_store1;(·exact eT rfl);(·exact eC);(·rfl);(·(repeat (exact Upd.here)));(·exact hblt))|apply then_n|apply block_n|apply sp_seq|apply sp_region|apply spl_nil|((apply sp_cond_t);(·exact eT rfl);(·(first|exact decide_eq_true (by omega)|assumption)))|(apply sp_cond_f;(·exact eT rfl);(·(assumption)))|apply sp_skip|apply sp_block|((first|apply spl_pure rfl|(apply spl_pure_g rfl;(·exact Gd.tt rfl rfl)));(·(first|(apply ex_convin;(·exact eT rfl);(·exact hwr))|(apply ex_indexAddrJ (j:=c.toNat);(·exact hix);(·exact eT rfl);(·exact eT rfl);(·exact hlt))|((first|apply ex_move|apply ex_assign|apply ex_lss|apply ex_leq|apply ex_andT)<;>(first|exact eT rfl|exact eC|exact eG rfl))|(apply ex_addn<;>(first|exact eT rfl|exact eC|(constructor<;>omega)))))))
        exact ⟨c.toNat + 1, hlt, by omega, (by (repeat (first|exact ESub.nil|apply ESub.cons rfl))), rfl, (by rw [← hst]; (repeat (exact HKeep.refl)))⟩
      | false =>
        simp only [hD, cond_false] at hst
        unfold isDigit at hD
        cases hB : isBlank c with
        | true =>
          simp only [hB, cond_true] at hst
          rw [hB] at hib
          repeat (first|(apply spl_callp rfl;(·(repeat (first|exact eN|(apply eS;(·(first|exact eT rfl|exact eC))))));(·exact fun w' hh => indexByte_c _ c))|(apply spl_store1;(·exact eT rfl);(·exact eC);(·rfl);(·(repeat (exact Upd.here)));(·exact hblt))|apply then_n|apply block_n|apply sp_seq|apply sp_region|apply spl_nil|((apply sp_cond_t);(·exact eT rfl);(·(first|exact decide_eq_true (by omega)|assumption)))|(apply sp_cond_f;(·exact eT rfl);(·(assumption)))|apply sp_skip|apply sp_block|((first|apply spl_pure rfl|(apply spl_pure_g rfl;(·exact Gd.tt rfl rfl)));(·(first|(apply ex_convin;(·exact eT rfl);(·exact hwr))|(apply ex_indexAddrJ (j:=c.toNat);(·exact hix);(·exact eT rfl);(·exact eT rfl);(·exact hlt))|((first|apply ex_move|apply ex_assign|apply ex_lss|apply ex_leq|apply ex_geq|apply ex_andT)<;>(first|exact eT rfl|exact eC|exact eG rfl))|(apply ex_addn<;>(first|exact eT rfl|exact eC|(constructor<;>omega)))))))
          exact ⟨c.toNat + 1, hlt, by omega, (by (repeat (first|exact ESub.nil|apply ESub.cons rfl))), rfl, (by rw [← hst]; (repeat (exact HKeep.refl)))⟩
        | false =>
          simp only [hB, cond_false] at hst
          rw [hB] at hib
          cases hS : isSym c with
          | true =>
            simp only [hS, cond_true] at hst
            rw [hS] at his
            repeat (first|(apply spl_callp rfl;(·(repeat (first|exact eN|(apply eS;(·(first|exact eT rfl|exact eC))))));(·exact fun w' hh => indexByte_c _ c))|(apply spl_store1;(·exact eT rfl);(·exact eC);(·rfl);(·(repeat (exact Upd.here)));(·exact hblt))|apply then_n|apply block_n|apply sp_seq|apply sp_region|apply spl_nil|((apply sp_cond_t);(·exact eT rfl);(·(first|exact decide_eq_true (by omega)|assumption)))|(apply sp_cond_f;(·exact eT rfl);(·(assumption)))|apply sp_skip|apply sp_block|((first|apply spl_pure rfl|(apply spl_pure_g rfl;(·exact Gd.tt rfl rfl)));(·(first|(apply ex_convin;(·exact eT rfl);(·exact hwr))|(apply ex_indexAddrJ (j:=c.toNat);(·exact hix);(·exact eT rfl);(·exact eT rfl);(·exact hlt))|((first|apply ex_move|apply ex_assign|apply ex_lss|apply ex_leq|apply ex_geq|apply ex_andT)<;>(first|exact eT rfl|exact eC|exact eG rfl))|(apply ex_addn<;>(first|exact eT rfl|exact eC|(constructor<;>omega)))))))
            exact ⟨c.toNat + 1, hlt, by omega, (by (repeat (first|exact ESub.nil|apply ESub.cons rfl))), rfl, (by rw [← hst]; (repeat (exact HKeep.refl)))⟩
          | false =>
            rw [hS] at his
            have hsk := tabA_skip c (by unfold cls0 isLetter isDigit; simp only [h1, h2, hD, hB, hS, Bool.or_false, cond_false])
            repeat (first|(apply spl_callp rfl;(·(repeat (first|exact eN|(apply eS;(·(first|exact eT rfl|exact eC))))));(·exact fun w' hh => indexByte_c _ c))|apply then_n|apply block_n|apply sp_seq|apply sp_region|apply spl_nil|((apply sp_cond_t);(·exact eT rfl);(·(exact decide_eq_true (by omega))))|(apply sp_cond_f;(·exact eT rfl);(·(assumption)))|apply sp_skip|apply sp_block|((first|apply spl_pure rfl|(apply spl_pure_g rfl;(·exact Gd.tt rfl rfl)));(·(first|(apply ex_convin;(·exact eT rfl);(·exact hwr))|((first|apply ex_move|apply ex_assign|apply ex_lss|apply ex_leq|apply ex_geq|apply ex_andT)<;>(first|exact eT rfl|exact eC|exact eG rfl))|(apply ex_addn<;>(first|exact eT rfl|exact eC|(constructor<;>omega)))))))
            exact ⟨c.toNat + 1, hlt, by omega, (by (repeat (first|exact ESub.nil|apply ESub.cons rfl))), rfl, (by rw [hsk]; (repeat (exact HKeep.refl)))⟩
  · have : k = 256 := by omega
    subst this
    have hs0 := tabA_size 256
    have hs00 := tabA_size 0
    have hs1 : ((((tabA 256).setIfInBounds 35 (.int .u8 2)).setIfInBounds 95 (.int .u8 5)).setIfInBounds 34 (.int .u8 7)).size = 256 := by rw [tabA_done, clsA_size]
    have hon : ∀ v ∈ ((((tabA 256).setIfInBounds 35 (.int .u8 2)).setIfInBounds 95 (.int .u8 5)).setIfInBounds 34 (.int .u8 7)), v.oneCell' = true := by rw [tabA_done]; exact clsA_ones
    repeat (first|(apply spl_store1;(·exact eT rfl);(·exact eC);(·rfl);(·(repeat (exact Upd.here)));(·(simp [hs0])))|apply then_n|apply sp_seq|apply sp_region|apply spl_nil|apply then_e|apply block_here|(apply sp_cond_f;(·exact eT rfl);(·(exact decide_eq_false (by omega))))|apply sp_ret|apply sp_exit|((apply spl_pure rfl);(·(first|(apply ex_indexAddrJ (i:=35) (j:=35);(·rfl);(·exact eT rfl);(·exact eC);(·decide))|(apply ex_indexAddrJ (i:=95) (j:=95);(·rfl);(·exact eT rfl);(·exact eC);(·decide))|(apply ex_indexAddrJ (i:=34) (j:=34);(·rfl);(·exact eT rfl);(·exact eC);(·decide))|((apply ex_lss)<;>(first|exact eT rfl|exact eC))|((apply ex_loadowns)<;>(first|exact eT rfl|exact Bk.own InH.mem|(assumption))))))|(apply spl_stores;(·exact eT rfl);(·exact eT rfl);(·(repeat (first|exact Upd.here|apply Upd.there)));(·(assumption));(·(assumption));(·(assumption))))
    (apply ret_ok rfl;(·((apply Res.ofOne;((apply Res1.cell;(·rfl);(·exact InH.mem);(·(assumption))))))))
    rw [tabA_done]
end Go.Proofs.Ytfdjlphfohnnnaa
/-
  Contracts: the lexer's names.
-/
namespace Go.Proofs.Ytfdjlphfohnnnaa
open Go.RowKit Go.Sy
set_option linter.unusedVariables false
set_option linter.unusedSimpArgs false
def clsP (c : UInt8) : Bool := (decide (((cls c : Nat) : Int) = 3) == isLetter c) && (decide (((cls c : Nat) : Int) = 4) == isDigit c) && (decide (((cls c : Nat) : Int) = 5) == decide ((c.toNat : Int) = 95)) && (decide (((cls c : Nat) : Int) = 1) == isBlank c) && (decide (((cls c : Nat) : Int) = 2) == decide ((c.toNat : Int) = 35)) && (decide (((cls c : Nat) : Int) = 6) == isSym c) && (decide (((cls c : Nat) : Int) = 7) == decide ((c.toNat : Int) = 34))
theorem all_bytes {p : UInt8 → Bool} (h : ((List.range 256).all fun n => p n.toUInt8) = true) (c : UInt8) : p c = true := by
  have := List.all_eq_true.1 h c.toNat (by simpa using c.toNat_lt)
  rwa [toUInt8_toNat] at this
theorem clsP_all (c : UInt8) : clsP c = true := all_bytes (by kernel_rfl) c
theorem clsF (c : UInt8) : decide (((cls c : Nat) : Int) = 3) = isLetter c ∧ decide (((cls c : Nat) : Int) = 4) = isDigit c ∧ decide (((cls c : Nat) : Int) = 5) = decide ((c.toNat : Int) = 95) ∧ decide (((cls c : Nat) : Int) = 1) = isBlank c ∧ decide (((cls c : Nat) : Int) = 2) = decide ((c.toNat : Int) = 35) ∧ decide (((cls c : Nat) : Int) = 6) = isSym c ∧ decide (((cls c : Nat) : Int) = 7) = decide ((c.toNat : Int) = 34) := by
  have := clsP_all c
  simp only [clsP, Bool.and_eq_true, beq_iff_eq] at this
  obtain ⟨⟨⟨⟨⟨⟨h1, h2⟩, h3⟩, h4⟩, h5⟩, h6⟩, h7⟩ := this
  exact ⟨h1, h2, h3, h4, h5, h6, h7⟩
def nameR (l : List UInt8) : Bool := match l with | [] => true | c :: r => isLetter c && r.all isWord
theorem word_letter (c : UInt8) (h : isLetter c = true) : isWord c = true := by simp [isWord, h]
theorem nameL_eq (l : List UInt8) : nameL l = ((!l.isEmpty && decide (l.length ≤ 24)) && nameR l) := by
  cases l with
  | nil => rfl
  | cons c r =>
    simp only [nameL, nameR, List.all_cons, List.isEmpty_cons, Bool.not_false, Bool.true_and]
    cases h : isLetter c with
    | false => simp
    | true => rw [word_letter c h]; cases r.all isWord <;> simp
attribute [local irreducible] Calls thenQ blockQ retQ Spc Spl Spq Ex Ev Evs Gd Upd ESub HKeep Res Res1 wlk effQ Rem SrcAt Split tabA clsA

set_option maxRecDepth 100000 in
set_option maxHeartbeats 1000000 in
theorem lexName_c {w : World} (t : ByteArray) (ht : t.size < 9223372036854775808) : Calls Try.prog 44 #[.string t] w (Ret w (.bool (nameL (tx t)))) := by
  refine sp_enter (vs := [_]) Try.func44 rfl Try.ntmps44 rfl ?_
  have hlen := tx_len t
  have hs00 := tabA_size 0
  have hs1 := clsA_size
  have hon := clsA_ones
  repeat (first|(apply spl_callp rfl;(·(repeat (exact eN)));(·exact fun w' hh => classes_c))|apply then_n|apply sp_seq|apply sp_region|apply spl_nil|apply sp_block|((apply spl_pure rfl);(·(first|((first|apply ex_move|apply ex_assign)<;>(first|exact eT rfl|exact eC))|((apply ex_slen)<;>(exact eT rfl)))))|(apply spl_alloc rfl;intro _ _)|(apply spl_stores;(·exact eT rfl);(·exact eT rfl);(·(repeat (exact Upd.here)));(·(assumption));(·(assumption));(·(assumption))))
  rename_i g hg
  refine sp_loop (X := Nat) (fun k => [(9, true, .int .i64 (k : Int)), (8, true, .int .i64 (t.size : Int)), (0, true, .string t), (3, true, .pointer (some ⟨g, 0, none⟩))]) (fun _ => w) (fun _ => [(g, .cells clsA 108 (0, 0))])
    (fun k => k ≤ t.size ∧ (k = 0 ∨ nameR (tx t) = ((tx t).drop k).all isWord)) (fun k => t.size - k) 0 ⟨Nat.zero_le _, .inl rfl⟩ (by (repeat (first|exact ESub.nil|apply ESub.cons rfl))) rfl (by (repeat (exact HKeep.refl))) ?_
  rintro k ⟨hk, hi⟩
  by_cases hlt : k < t.size
  · obtain ⟨c, hb, hd⟩ := drop_at hlt
    obtain ⟨f3, f4, f5, -⟩ := clsF c
    have hat := clsA_at c
    have hR : nameR (tx t) = ((isLetter c || (!decide ((k : Int) = 0) && isWord c)) && ((tx t).drop (k + 1)).all isWord) := by
      rcases hi with h | h
      · subst h
        rw [List.drop_zero] at hd
        rw [hd]
        simp [nameR]
      · by_cases h0 : k = 0
        · subst h0
          rw [List.drop_zero] at hd
          rw [hd]
          simp [nameR]
        · rw [h, hd, List.all_cons]
          congr 1
          have : decide ((k : Int) = 0) = false := decide_eq_false (by omega)
          rw [this]
          cases hl : isLetter c with
          | true => rw [word_letter c hl]; rfl
          | false => rfl
    repeat (first|apply then_n|apply sp_seq|apply sp_region|apply spl_nil|((apply sp_cond_t);(·exact eT rfl);(·(exact decide_eq_true (by omega))))|apply sp_skip|apply sp_block|((first|apply spl_pure rfl|(apply spl_pure_g rfl;(·(first|exact Gd.tt rfl rfl|exact Gd.gt rfl rfl|exact Gd.gf rfl rfl))));(·(first|(apply ex_sindexE hlt hb;(·exact eT rfl);(·exact eT rfl))|(apply ex_indexAddrA;(·exact eT rfl);(·exact eT rfl);(·exact c.toNat_lt))|(apply ex_loadown;(·exact eT rfl);(·exact Bk.own InH.mem);(·exact hat))|((first|apply ex_move|apply ex_assign|apply ex_lss|apply ex_seql|apply ex_sneq|apply ex_andT)<;>(first|exact eT rfl|exact eG rfl))|((first|apply ex_eql|apply ex_neq)<;>(first|exact eT rfl|exact eC|exact eG rfl))|((apply ex_and)<;>(exact eG rfl))|((apply ex_or)<;>(exact eG rfl))))))
    refine sp_cond (eT rfl) (fun hp => ?_) (fun hp => ?_)
    · repeat (first|apply then_n|apply sp_seq|apply sp_region|apply spl_nil|apply then_r|apply block_r|apply sp_ret|((apply spl_pure rfl);(·(((apply ex_assign)<;>(exact eC))))))
      rw [f3, f4, f5] at hp
      have hw : (isLetter c || (!decide ((k : Int) = 0) && isWord c)) = false := by
        unfold isWord
        revert hp
        cases isLetter c <;> cases isDigit c <;> cases decide ((k : Int) = 0) <;> cases decide ((c.toNat : Int) = 95) <;> simp
      (apply ret_ok rfl;(·((apply Res.ofOne;((apply Res1.tmp;(·rfl))))))); rw [nameL_eq, hR, hw, Bool.false_and, Bool.and_false]
    · repeat (first|apply then_n|apply block_n|apply sp_region|apply spl_nil|apply sp_skip|((apply spl_pure rfl);(·(first|((apply ex_move)<;>(exact eT rfl))|(apply ex_addn<;>(first|exact eT rfl|exact eC|(constructor<;>omega)))))))
      rw [f3, f4, f5] at hp
      have hw : (isLetter c || (!decide ((k : Int) = 0) && isWord c)) = true := by
        unfold isWord
        revert hp
        cases isLetter c <;> cases isDigit c <;> cases decide ((k : Int) = 0) <;> cases decide ((c.toNat : Int) = 95) <;> simp
      rw [hw, Bool.true_and] at hR
      exact ⟨k + 1, ⟨by omega, .inr hR⟩, by omega, (by (repeat (first|exact ESub.nil|apply ESub.cons rfl))), rfl, (by (repeat (exact HKeep.refl)))⟩
  · repeat (first|apply then_n|apply sp_seq|apply sp_region|apply spl_nil|apply then_e|apply block_here|(apply sp_cond_f;(·exact eT rfl);(·(exact decide_eq_false (by omega))))|apply sp_ret|apply sp_exit|((first|apply spl_pure rfl|(apply spl_pure_g rfl;(·exact Gd.tt rfl rfl)));(·(first|((first|apply ex_move|apply ex_assign|apply ex_lss|apply ex_leq|apply ex_sneq|apply ex_andT)<;>(first|exact eT rfl|exact eC|exact eG rfl))|((apply ex_slen)<;>(exact eG rfl))))))
    have he : decide (t = ({ data := #[] } : ByteArray)) = (tx t).isEmpty := by
      rw [Bool.eq_iff_iff, decide_eq_true_iff, List.isEmpty_iff]
      constructor
      · rintro rfl; rfl
      · intro h
        apply ByteArray.ext
        apply Array.ext'
        exact h
    have hn : nameR (tx t) = true := by
      rw [drop_end (by omega)] at hi
      rcases hi with h | h
      · have h0 : t.size = 0 := by omega
        have hnil : tx t = [] := List.length_eq_zero_iff.1 (by rw [hlen]; exact h0)
        rw [hnil]
        rfl
      · exact h
    have h24 : decide ((t.size : Int) ≤ 24) = decide ((tx t).length ≤ 24) := by
      rw [hlen, Bool.eq_iff_iff, decide_eq_true_iff, decide_eq_true_iff]; omega
    (apply ret_ok rfl;(·((apply Res.ofOne;((apply Res1.tmp;(·rfl)))))))
    rw [nameL_eq, hn, he, h24, Bool.and_true]
end Go.Proofs.Ytfdjlphfohnnnaa
/-
  The layer 'Sy', maps: own maps that are made, read, written; keys that are strings, numbers.
-/
namespace Go.Sy
open Go.RowKit
set_option linter.unusedVariables false
set_option linter.unusedSimpArgs false

section
variable {K : Type} [DecidableEq K]
def ent (kv : K → Value) (e : K × Value × Nat) : MapEntry := { key := kv e.1, val := e.2.1, born := e.2.2 }
/-- A map's block. -/
def mobj (kv : K → Value) (es : List (K × Value × Nat)) (c : Nat) : Obj := .map (es.map (ent kv)).toArray c
def findL (k : K) : List (K × Value × Nat) → Nat → Option (Nat × Value)
  | [], _ => none
  | e :: es, i => if k = e.1 then some (i, e.2.1) else findL k es (i + 1)
def getL (k : K) : List (K × Value × Nat) → Option Value
  | [] => none
  | e :: es => if k = e.1 then some e.2.1 else getL k es
def putL (k : K) (v : Value) (c : Nat) : List (K × Value × Nat) → List (K × Value × Nat)
  | [] => [(k, v, c)]
  | e :: es => if k = e.1 then (k, v, e.2.2) :: es else e :: putL k v c es
def delL (k : K) : List (K × Value × Nat) → List (K × Value × Nat)
  | [] => []
  | e :: es => if k = e.1 then es else e :: delL k es
def tick (k : K) (c : Nat) (es : List (K × Value × Nat)) : Nat := if (getL k es).isSome then c else c + 1
theorem findL_spec (k : K) (v : Value) (c : Nat) : ∀ (es : List (K × Value × Nat)) (i : Nat),
    (findL k es i = none ∧ getL k es = none ∧ putL k v c es = es ++ [(k, v, c)] ∧ delL k es = es) ∨
    ∃ j e, findL k es i = some (i + j, e.2.1) ∧ es[j]? = some e ∧ e.1 = k ∧ getL k es = some e.2.1 ∧ putL k v c es = es.set j (k, v, e.2.2) ∧ delL k es = es.eraseIdx j
  | [], i => .inl ⟨rfl, rfl, rfl, rfl⟩
  | e :: es, i => by
    by_cases h : k = e.1
    · exact .inr ⟨0, e, by simp [findL, h], rfl, h.symm, by simp [getL, h], by simp [putL, h], by simp [delL, h]⟩
    · rcases findL_spec k v c es (i + 1) with ⟨h1, h2, h3, h4⟩ | ⟨j, e', h1, h2, h3, h4, h5, h6⟩
      · exact .inl ⟨by simp [findL, h, h1], by simp [getL, h, h2], by simp [putL, h, h3], by simp [delL, h, h4]⟩
      · exact .inr ⟨j + 1, e', by simp [findL, h, h1]; omega, by simpa using h2, h3, by simp [getL, h, h4], by simp [putL, h, h5], by simp [delL, h, h6]⟩
theorem getL_put (k k' : K) (v : Value) (c : Nat) : ∀ es : List (K × Value × Nat), getL k' (putL k v c es) = if k' = k then some v else getL k' es
  | [] => by simp [putL, getL]
  | e :: es => by
    by_cases h : k = e.1
    · by_cases h2 : k' = k
      · simp [putL, getL, h, h2]
      · have h3 : ¬ k' = e.1 := fun q => h2 (q.trans h.symm)
        simp [putL, getL, h, h2, h3]
        try (intro q; exact absurd q h3)
    · by_cases h2 : k' = e.1
      · have h3 : ¬ k' = k := fun q => h (q.symm.trans h2)
        simp [putL, getL, h, h2]
        try (intro q; exact absurd q.symm h)
      · simp [putL, getL, h, h2, getL_put k k' v c es]
/-- A type whose values are keys of maps, by what they stand for. -/
class TKey (P : Program) (t : TypeId) (kv : outParam (K → Value)) : Prop where
  check : ∀ (b : Bool) (k : K) (w : World), (Instr.checkKey b 10000 t (kv k)).run P w = .ok () w
  find : ∀ (k : K) (es : List (K × Value × Nat)) (w : World), (Instr.findKey t (kv k) (es.map (ent kv))).run P w = .ok (findL k es 0) w
  same : ∀ k, Instr.sameBits 10000 (kv k) (kv k) = true
end
instance TKey.str {P : Program} {t : TypeId} [ht : TStr P t] : TKey P t (K := ByteArray) .string where
  check b k w := MapKept.run_checkKey ht.str (k := .string k) (by simp [MapKept.IsKey]) b 9999
  find k es w := by
    refine MapKept.run_findKey ht.str ?_
    generalize 0 = i
    induction es generalizing i with
    | nil => rfl
    | cons e es ih =>
      simp only [List.map_cons, Instr.findNow, ent, Instr.sameNow, findL]
      have hbq : (k == e.1) = decide (k = e.1) := by rw [Bool.eq_iff_iff, MapKept.bytes_beq, decide_eq_true_iff]
      rw [hbq]
      by_cases h : k = e.1
      · rw [if_pos h, decide_eq_true h]
      · rw [if_neg h, decide_eq_false h]
        exact ih (i + 1)
  same k := by
    have : (k == k) = true := (MapKept.bytes_beq k k).2 rfl
    simp [Instr.sameBits, this]
instance TKey.int {P : Program} {t : TypeId} {q : IntKind} [ht : TInt P t q] : TKey P t (K := Int) (.int q) where
  check b k w := MapKept.run_checkKey ht.int (k := .int q k) (by simp [MapKept.IsKey]) b 9999
  find k es w := by
    refine MapKept.run_findKey ht.int ?_
    generalize 0 = i
    induction es generalizing i with
    | nil => rfl
    | cons e es ih =>
      simp only [List.map_cons, Instr.findNow, ent, Instr.sameNow, findL]
      by_cases h : k = e.1
      · rw [if_pos h, h]; simp
      · rw [if_neg h]
        have : (k == e.1) = false := by simpa using h
        simp only [if_true, this]
        exact ih (i + 1)
  same k := by simp [Instr.sameBits]

section
variable {P : Program} {Be : Nat} {w0 : World} {H : Heap} {G : Bool} {e : Env} {ty : TypeId} {K : Type} [DecidableEq K]
theorem run_lookupM {t tk te : TypeId} {z : Value} {kv : K → Value} {g c : Nat} {es : List (K × Value × Nat)} (k : K) (ok : Bool) {w : World} [ht : TMap P t tk te] [hk : TKey P tk kv] [hz : TZero P te z] (hb : w.heap[g]? = some (mobj kv es c)) :
    (Instr.lookup t (.map (some g)) (kv k) ok).run P w = .ok (if ok then .tuple #[(getL k es).getD z, .bool (getL k es).isSome] else (getL k es).getD z) w := by
  have h1 := hk.find k es w
  have h2 := hk.check (es.map (ent kv)).toArray.isEmpty k w
  simp only [Instr.lookup, Sem.run_bind, run_underlying ht.map, Result.andThen_ok, MapKept.run_getObj_map (hb : w.heap[g]? = some (.map _ _)), Sem.run_pure, h2, h1]
  rcases findL_spec k (.bool true) 0 es 0 with ⟨q1, q2, -, -⟩ | ⟨j, e, q1, -, -, q2, -, -⟩
  · rw [q1, q2]
    simp only [Sem.run_bind, hz.run w, Result.andThen_ok, Sem.run_pure]
    rfl
  · rw [q1, q2]
    simp only [Sem.run_pure, Result.andThen_ok]
    rfl
theorem ex_lookup {t tk te : TypeId} {z : Value} {x y : Operand} {kv : K → Value} {g c : Nat} {es : List (K × Value × Nat)} {k : K} {v : Value} [ht : TMap P t tk te] [hk : TKey P tk kv] [hz : TZero P te z] (hv : (getL k es).getD z = v) (h : Ev G e x (.map (some g))) (h2 : Ev G e y (kv k)) (hm : Bk Be w0 H g (mobj kv es c)) :
    Ex P Be w0 H G e (.lookup t x y false) ty v := by
  subst hv
  intro N a w o ho _ hf hh hG
  simp only [execOp, ho, h N a hf hG, h2 N a hf hG, Sem.run_bind, run_lookupM (ht := ht) (hk := hk) (hz := hz) k false (hm w hh), Result.andThen_ok, Sem.run_pure]
  rfl
theorem ex_lookupOk {t tk te : TypeId} {z : Value} {x y : Operand} {kv : K → Value} {g c : Nat} {es : List (K × Value × Nat)} {k : K} {v : Value} {b : Bool} [ht : TMap P t tk te] [hk : TKey P tk kv] [hz : TZero P te z] (hv : (getL k es).getD z = v) (hb : (getL k es).isSome = b) (h : Ev G e x (.map (some g))) (h2 : Ev G e y (kv k)) (hm : Bk Be w0 H g (mobj kv es c)) :
    Ex P Be w0 H G e (.lookup t x y true) ty (.tuple #[v, .bool b]) := by
  subst hv
  subst hb
  intro N a w o ho _ hf hh hG
  simp only [execOp, ho, h N a hf hG, h2 N a hf hG, Sem.run_bind, run_lookupM (ht := ht) (hk := hk) (hz := hz) k true (hm w hh), Result.andThen_ok, Sem.run_pure]
  rfl
end
theorem Hp.setObj {Be : Nat} {w0 w : World} {H H' : Heap} {g : Nat} {o o' : Obj} (h : Hp Be w0 H w) (hu : Upd H g o o' H') : Hp Be w0 H' { w with heap := w.heap.setIfInBounds g o' } :=
  h.upd hu rfl rfl rfl (by simp) (fun k _ hk => (MapKept.heap_set (h.own _ hu.mem)).2 k hk) (MapKept.heap_set (h.own _ hu.mem)).1
section
variable {P : Program} {N Be : Nat} {Q : Post} {e : Env} {w0 : World} {H : Heap} {ops : Array Oper} {rest : List Oper} {ty : TypeId} {pos : String} {after : Array Edge} {d : Nat} {K : Type} [DecidableEq K]
theorem spl_makeMap {t : TypeId} (hN : Nat.blt d N = true)
    (k : ∀ g, w0.heap.size ≤ g → Spl P N Be ops Q rest ((d, true, .map (some g)) :: e) w0 ((g, .map #[] 0) :: H)) :
    Spl P N Be ops Q (⟨some d, .makeMap t none, ty, pos, after, none⟩ :: rest) e w0 H := by
  intro a w hf hh
  have hd : d < N := by simpa [Nat.blt_eq] using hN
  refine wpList_plain rfl fun K hK => ?_
  have hr : (execOp a.eval ⟨some d, .makeMap t none, ty, pos, after, none⟩).run P w = .ok (.value (.map (some w.heap.size))) (w.alloc (.map #[] 0)) := rfl
  unfold Oper.wp
  rw [hr, Oper.upon_value]
  exact hK _ _ (k _ hh.size _ _ (hf.puttrue hd) (hh.alloc _))
theorem run_mapUpdateM {t tk te : TypeId} {kv : K → Value} {g c : Nat} {es : List (K × Value × Nat)} (k : K) (v : Value) {w : World} [ht : TMap P t tk te] [hk : TKey P tk kv] (hb : w.heap[g]? = some (mobj kv es c)) :
    (Instr.mapUpdate t (.map (some g)) (kv k) v).run P w = .ok () { w with heap := w.heap.setIfInBounds g (mobj kv (putL k v c es) (tick k c es)) } := by
  have h1 := hk.find k es w
  have h2 := hk.check false k w
  have hb' : w.heap[g]? = some (.map (es.map (ent kv)).toArray c) := hb
  simp only [Instr.mapUpdate, Sem.run_bind, run_underlying ht.map, Result.andThen_ok, MapKept.run_getObj_map hb', h2, h1]
  rcases findL_spec k v c es 0 with ⟨q1, q2, q3, -⟩ | ⟨j, e, q1, qj, qe, q2, q3, -⟩
  · rw [q1]
    simp only
    rw [MapKept.run_setObj_map _ hb']
    have : (es.map (ent kv)).toArray.push { key := kv k, val := v, born := c } = ((putL k v c es).map (ent kv)).toArray := by
      rw [q3]; simp [ent]
    rw [this]
    unfold mobj tick
    rw [q2]
    rfl
  · rw [q1]
    simp only [Nat.zero_add]
    have hj : j < es.length := (List.getElem?_eq_some_iff.1 qj).1
    have hkey : (((es.map (ent kv)).toArray[j]?).map (·.key)).getD (kv k) = kv k := by
      simp only [List.getElem?_toArray, List.getElem?_map, qj, Option.map_some, ent, qe, Option.getD_some]
    have hst : (Instr.keyThatStays (kv k) (kv k)).run P w = .ok (kv k) w := by simp [Instr.keyThatStays, hk.same k]
    rw [hkey]
    simp only [Sem.run_bind, hst, Result.andThen_ok]
    rw [MapKept.run_setObj_map _ hb']
    have : ((es.map (ent kv)).toArray.modify j fun e => { e with key := kv k, val := v }) = ((putL k v c es).map (ent kv)).toArray := by
      rw [q3]
      apply Array.ext'
      simp only [Array.toList_modify, List.map_set, ent]
      apply List.ext_getElem?
      intro i
      simp only [List.getElem?_modify, List.getElem?_set, List.getElem?_map, List.length_map]
      by_cases hij : j = i
      · subst hij
        have hge : es[j] = e := by rw [List.getElem?_eq_getElem hj] at qj; exact Option.some.inj qj
        simp [hj]
        rw [hge]; rfl
      · simp [hij]
    rw [this]
    unfold mobj tick
    rw [q2]
    rfl
theorem spl_mapUpdate {t tk te : TypeId} {x y z : Operand} {kv : K → Value} {g c : Nat} {es : List (K × Value × Nat)} {k : K} {v : Value} {H' : Heap} [ht : TMap P t tk te] [hk : TKey P tk kv] (h : Ev true e x (.map (some g))) (h2 : Ev true e y (kv k)) (h3 : Ev true e z v)
    (hu : Upd H g (mobj kv es c) (mobj kv (putL k v c es) (tick k c es)) H') (kk : Spl P N Be ops Q rest e w0 H') :
    Spl P N Be ops Q (⟨none, .mapUpdate t x y z, ty, pos, after, none⟩ :: rest) e w0 H := by
  intro a w hf hh
  refine wpList_plain rfl fun K hK => ?_
  have hr : (execOp a.eval ⟨none, .mapUpdate t x y z, ty, pos, after, none⟩).run P w = .ok .skip { w with heap := w.heap.setIfInBounds g (mobj kv (putL k v c es) (tick k c es)) } := by
    simp only [execOp, h N a hf rfl, h2 N a hf rfl, h3 N a hf rfl, Sem.run_bind, run_mapUpdateM (ht := ht) (hk := hk) k v (hh.own _ hu.mem), Result.andThen_ok, Sem.run_pure]
  unfold Oper.wp
  rw [hr, Oper.upon_skip]
  exact hK _ _ (kk _ _ hf.putnone (hh.setObj hu))
theorem spl_insert {t tk te : TypeId} {x y z : Operand} {kv : K → Value} {g c : Nat} {es : List (K × Value × Nat)} {k : K} {v : Value} {H' : Heap} [ht : TMap P t tk te] [hk : TKey P tk kv] (h : Ev true e x (.map (some g))) (h2 : Ev true e y (kv k)) (h3 : Ev true e z v)
    (hu : Upd H g (mobj kv es c) (mobj kv (putL k v c es) (tick k c es)) H') (kk : Spl P N Be ops Q rest e w0 H') :
    Spl P N Be ops Q (⟨none, .insert t x y z, ty, pos, after, none⟩ :: rest) e w0 H := by
  intro a w hf hh
  refine wpList_plain rfl fun K hK => ?_
  have hr : (execOp a.eval ⟨none, .insert t x y z, ty, pos, after, none⟩).run P w = .ok .skip { w with heap := w.heap.setIfInBounds g (mobj kv (putL k v c es) (tick k c es)) } := by
    simp only [execOp, h N a hf rfl, h2 N a hf rfl, h3 N a hf rfl, Sem.run_bind, run_mapUpdateM (ht := ht) (hk := hk) k v (hh.own _ hu.mem), Result.andThen_ok, Sem.run_pure]
  unfold Oper.wp
  rw [hr, Oper.upon_skip]
  exact hK _ _ (kk _ _ hf.putnone (hh.setObj hu))
end
section
variable {P : Program} {N Be : Nat} {Q : Post} {e : Env} {w0 : World} {H : Heap} {ops : Array Oper} {rest : List Oper} {ty : TypeId} {pos : String} {after : Array Edge} {d : Nat}
/-- A guarded call of a function value. -/
theorem spl_callv_g {c : Operand} {f : FuncId} {first cap : List Value} {xs : List Operand} {ts : Array TypeId} {vs : List Value} {v : Value} {g : Option (Nat × Bool)} {G : Bool} [TFn P f] (hN : Nat.blt d N = true) (hg : Gd ops e g G) (hcv : Ev G e c (.func (.func f) first.toArray cap.toArray)) (hx : Evs G e xs vs)
    (hc : G = true → ∀ w, Hp Be w0 H w → Calls P f (first ++ vs ++ cap).toArray w (Ret w v))
    (k : Spl P N Be ops Q rest ((d, G, v) :: e) w0 H) : Spl P N Be ops Q (⟨some d, .call ⟨.value c, xs.toArray, ts⟩, ty, pos, after, g⟩ :: rest) e w0 H := by
  intro a w hf hh
  have hd : d < N := by simpa [Nat.blt_eq] using hN
  refine wpList_step fun K hK => ?_
  rw [hg N a _ hf rfl]
  cases hG : G with
  | true =>
    rw [if_pos rfl]
    unfold Oper.wp
    rw [exec_call (f := f) rfl (hcv N a hf hG) (hx N a hf hG), Oper.upon_enter]
    simp only [List.append_toArray]
    refine (hc hG w hh).mono ?_
    rintro en w' ⟨rfl, hb⟩
    refine hK _ _ (k _ _ ?_ (hh.below hb))
    rw [hG]; exact hf.puttrue hd
  | false =>
    rw [if_neg (by simp)]
    refine hK _ _ (k _ _ ?_ hh)
    rw [hG]; exact hf.put (g := false) hd
end
end Go.Sy
/-
  Contracts: catalog.Valid, in plain terms and walked.
-/
namespace Go.Proofs.Ytfdjlphfohnnnaa
open Go.RowKit Go.Sy
set_option linter.unusedVariables false
set_option linter.unusedSimpArgs false
/-- Is it among them? -/
def inB (x : ByteArray) (l : List ByteArray) : Bool := l.any fun y => decide (x = y)
theorem inB_snoc (x y : ByteArray) (l : List ByteArray) : inB x (l ++ [y]) = (inB x l || decide (x = y)) := by simp [inB]
/-- A kind that a slot may take. -/
def good (bf : List KindR) (x : ByteArray) : Bool := match findK bf x with | some k => !k.vehicle | none => false
def kindsOk (bf : List KindR) : List ByteArray → List ByteArray → Bool
  | _, [] => true
  | sn, x :: r => (!inB x sn && good bf x) && kindsOk bf (sn ++ [x]) r
def slotOk (bf : List KindR) (s : SlotR) : Bool := (nameL (tx s.name) && (decide (1 ≤ s.normal) && decide (s.normal ≤ (s.ks.n : Int)))) && kindsOk bf [] s.kinds
def slotsOk (bf : List KindR) : List ByteArray → List SlotR → Bool
  | _, [] => true
  | sn, s :: r => (!inB s.name sn && slotOk bf s) && slotsOk bf (sn ++ [s.name]) r
def kindOk (bf : List KindR) (k : KindR) : Bool := ((findK bf k.name).isNone && (nameL (tx k.name) && decide (k.ss.n ≤ 12))) && slotsOk bf [] k.slots
def catOk : List KindR → List KindR → Bool
  | _, [] => true
  | bf, k :: r => kindOk bf k && catOk (bf ++ [k]) r
def validB (ks : List KindR) : Bool := catOk [] ks && decide (ks.length ≤ 60)
/-! The maps. -/
def PM (es : List (ByteArray × Value × Nat)) (bf : List KindR) : Prop := ∀ s, getL s es = (findK bf s).map fun k => Value.bool (!k.vehicle)
def SM (es : List (ByteArray × Value × Nat)) (sn : List ByteArray) : Prop := ∀ s, getL s es = if inB s sn = true then some (Value.bool true) else none
theorem PM.nil : PM [] [] := fun _ => rfl
theorem SM.nil : SM [] [] := fun _ => rfl
theorem SM.put {es : List (ByteArray × Value × Nat)} {sn : List ByteArray} {c : Nat} {x : ByteArray} (h : SM es sn) : SM (putL x (.bool true) c es) (sn ++ [x]) := by
  intro s
  rw [getL_put, h s, inB_snoc]
  by_cases hs : s = x
  · simp [hs]
  · simp [hs]
theorem PM.put {es : List (ByteArray × Value × Nat)} {bf : List KindR} {c : Nat} {k : KindR} (h : PM es bf) (hn : findK bf k.name = none) : PM (putL k.name (.bool (!k.vehicle)) c es) (bf ++ [k]) := by
  intro s
  rw [getL_put, h s]
  unfold findK at *
  rw [List.find?_append]
  by_cases hs : s = k.name
  · rw [if_pos hs, hs, hn]; simp
  · rw [if_neg hs]
    have : ¬ k.name = s := fun q => hs q.symm
    simp [this]
theorem SM.get {es : List (ByteArray × Value × Nat)} {sn : List ByteArray} (h : SM es sn) (x : ByteArray) : (getL x es).getD (.bool false) = .bool (inB x sn) := by
  rw [h x]
  cases inB x sn <;> rfl
theorem PM.get {es : List (ByteArray × Value × Nat)} {bf : List KindR} (h : PM es bf) (x : ByteArray) : (getL x es).getD (.bool false) = .bool (good bf x) := by
  rw [h x]
  unfold good
  cases findK bf x <;> rfl
theorem PM.has {es : List (ByteArray × Value × Nat)} {bf : List KindR} (h : PM es bf) (x : ByteArray) : (getL x es).isSome = (findK bf x).isSome := by
  rw [h x]
  cases findK bf x <;> rfl
theorem mobj_nil : (Obj.map #[] 0) = mobj (K := ByteArray) Value.string [] 0 := rfl
attribute [local irreducible] Calls thenQ blockQ retQ Spc Spl Spq Ex Ev Evs Gd Upd ESub HKeep Res Res1 wlk effQ Rem SrcAt Split mobj
theorem catOk_at {ks : List KindR} {i : Nat} {x : KindR} (hx : ks[i]? = some x) : catOk (ks.take i) (ks.drop i) = (kindOk (ks.take i) x && catOk (ks.take (i + 1)) (ks.drop (i + 1))) := by
  obtain ⟨h1, h2⟩ := List.getElem?_eq_some_iff.1 hx
  rw [← List.getElem_cons_drop h1, h2, take_succ hx]
  rfl
theorem slotsOk_at {bf : List KindR} {ss : List SlotR} {j : Nat} {y : SlotR} (hy : ss[j]? = some y) : slotsOk bf ((ss.take j).map (·.name)) (ss.drop j) = ((!inB y.name ((ss.take j).map (·.name)) && slotOk bf y) && slotsOk bf ((ss.take (j + 1)).map (·.name)) (ss.drop (j + 1))) := by
  obtain ⟨h1, h2⟩ := List.getElem?_eq_some_iff.1 hy
  rw [← List.getElem_cons_drop h1, h2, take_succ hy, List.map_append]
  rfl
theorem kindsOk_at {bf : List KindR} {ks : List ByteArray} {m : Nat} {z : ByteArray} (hz : ks[m]? = some z) : kindsOk bf (ks.take m) (ks.drop m) = ((!inB z (ks.take m) && good bf z) && kindsOk bf (ks.take (m + 1)) (ks.drop (m + 1))) := by
  obtain ⟨h1, h2⟩ := List.getElem?_eq_some_iff.1 hz
  rw [← List.getElem_cons_drop h1, h2, take_succ hz]
  rfl
set_option maxRecDepth 100000 in
set_option maxHeartbeats 4000000 in
theorem valid_c {w : World} {A : Option Addr} {n c : Nat} {ks : List KindR} (h : RdKinds w w.heap.size ⟨A, n, c⟩ ks) (hsm : ∀ k ∈ ks, k.name.size < 9223372036854775808 ∧ ∀ s ∈ k.slots, s.name.size < 9223372036854775808) :
    Calls Try.prog 19 #[.agg #[.slice A n c]] w (Ret w (.bool (validB ks))) := by
  have hbd : n ≤ 9223372036854775807 := h.1.bound
  have hlen : ks.length = n := h.1.len
  refine sp_enter (vs := [_]) Try.func19 rfl Try.ntmps19 rfl ?_
  repeat (first|(apply spl_makeMap rfl;intro _ _)|apply then_n|apply sp_seq|apply sp_region|apply spl_nil|apply sp_block|((apply spl_pure rfl);(·(first|((first|apply ex_move|apply ex_assign|apply ex_fieldAddr'|apply ex_len)<;>(first|exact eT rfl|exact eC))|((apply ex_loadown)<;>(first|exact eT rfl|exact Bk.own InH.mem|rfl)))))|(apply spl_box;(·exact eT rfl);(·rfl);intro _ _))
  rename_i g1 h1 g2 h2
  rw [mobj_nil]
  refine sp_loop (X := Nat × List (ByteArray × Value × Nat) × Nat) (fun x => [(18, true, .int .i64 (x.1 : Int)), (17, true, .int .i64 (n : Int)), (16, true, .slice A n c), (3, true, .map (some g2)), (1, true, .pointer (some ⟨g1, 0, none⟩))]) (fun _ => w) (fun x => [(g2, mobj Value.string x.2.1 x.2.2), (g1, .cells #[.slice A n c] 24 (0, 0))])
    (fun x => x.1 ≤ n ∧ PM x.2.1 (ks.take x.1) ∧ catOk [] ks = catOk (ks.take x.1) (ks.drop x.1)) (fun x => n - x.1) (0, [], 0) ⟨Nat.zero_le _, PM.nil, rfl⟩ (by (repeat (first|exact ESub.nil|apply ESub.cons rfl))) rfl (by (repeat (exact HKeep.refl))) ?_
  rintro ⟨i, es, ck⟩ ⟨hin, hPM, hcat⟩
  replace hin : i ≤ n := hin
  replace hPM : PM es (ks.take i) := hPM
  replace hcat : catOk [] ks = catOk (ks.take i) (ks.drop i) := hcat
  dsimp only
  by_cases hlt : i < n
  · obtain ⟨ad, x, hA, hb, hx, hsz, hc⟩ := h.1.at_ hlt
    have hmem := List.mem_of_getElem? hx
    have hsl := h.2 x hmem
    have hbd2 := hsl.1.bound
    have hlen2 : x.slots.length = x.ss.n := hsl.1.len
    rw [catOk_at hx] at hcat
    have hhas := hPM.has x.name
    have hnm := fun w' : World => lexName_c (w := w') x.name (hsm x hmem).1
    obtain ⟨hd, hhd⟩ : ∃ hd, hd = ((findK (ks.take i) x.name).isNone && (nameL (tx x.name) && decide (x.ss.n ≤ 12))) := ⟨_, rfl⟩
    have hgt : ∀ q : Nat, decide ((12 : Int) < (q : Int)) = !decide (q ≤ 12) := fun q => by
      rw [Bool.eq_iff_iff]; simp; omega
    have hcond : (((findK (ks.take i) x.name).isSome || !nameL (tx x.name)) || decide ((12 : Int) < (x.ss.n : Int))) = !hd := by
      rw [hhd, hgt]
      cases findK (ks.take i) x.name <;> cases nameL (tx x.name) <;> simp
    cases hd with
    | false =>
      have hko : kindOk (ks.take i) x = false := by unfold kindOk; rw [← hhd]; rfl
      rw [hko, Bool.false_and] at hcat
      repeat (first|(apply sp_cond_t;(·exact eT rfl);(·exact hcond))|(apply spl_callp_g rfl;(·exact Gd.tf rfl rfl);(·(repeat (first|exact eN|(apply eS;(·exact eG rfl)))));(·exact fun _ w' hh => hnm w'))|apply then_n|apply sp_seq|apply sp_region|apply spl_nil|apply then_r|apply block_r|((apply sp_cond_t);(·exact eT rfl);(·(exact decide_eq_true (by omega))))|apply sp_skip|apply sp_ret|apply sp_block|((first|apply spl_pure rfl|(apply spl_pure_g rfl;(·exact Gd.tf rfl rfl)));(·(first|(apply ex_lookupOk rfl hhas;(·exact eT rfl);(·exact eT rfl);(·exact Bk.own InH.mem))|(apply ex_loadelem;(·exact eT rfl);(·exact h.1);(·exact hA);(·exact hx))|((first|apply ex_move|apply ex_assign|apply ex_fieldAddr'|apply ex_not|apply ex_lss|apply ex_gtr|apply ex_len)<;>(first|exact eT rfl|exact eC|exact eG rfl))|((apply ex_orT)<;>(first|exact eT rfl|exact eG rfl))|((first|apply ex_loadown|apply ex_extract|apply ex_indexAddr)<;>(first|exact eT rfl|exact eG rfl|exact Bk.own InH.mem|rfl|assumption)))))|(apply spl_alloc rfl;intro _ _)|(apply spl_stores;(·exact eT rfl);(·exact eT rfl);(·(repeat (exact Upd.here)));(·(rfl));(·(rfl));(·exact Ones.one)))
      (apply ret_ok rfl;(·((apply Res.ofOne;((apply Res1.tmp;(·rfl))))))); unfold validB; rw [hcat]; rfl
    | true =>
      have hko : kindOk (ks.take i) x = slotsOk (ks.take i) [] x.slots := by unfold kindOk; rw [← hhd]; rfl
      have hnone : findK (ks.take i) x.name = none := by
        cases hf : findK (ks.take i) x.name with
        | none => rfl
        | some k => rw [hf] at hhd; cases hhd
      rw [hko] at hcat
      repeat (first|(apply spl_makeMap rfl;intro _ _)|(apply sp_cond_f;(·exact eT rfl);(·exact hcond))|(apply spl_callp_g rfl;(·exact Gd.tf rfl rfl);(·(repeat (first|exact eN|(apply eS;(·exact eG rfl)))));(·exact fun _ w' hh => hnm w'))|apply then_n|apply sp_seq|apply sp_region|apply spl_nil|((apply sp_cond_t);(·exact eT rfl);(·(exact decide_eq_true (by omega))))|apply sp_skip|apply sp_block|((first|apply spl_pure rfl|(apply spl_pure_g rfl;(·exact Gd.tf rfl rfl)));(·(first|(apply ex_lookupOk rfl hhas;(·exact eT rfl);(·exact eT rfl);(·exact Bk.own InH.mem))|(apply ex_loadelem;(·exact eT rfl);(·exact h.1);(·exact hA);(·exact hx))|((first|apply ex_move|apply ex_assign|apply ex_fieldAddr'|apply ex_not|apply ex_lss|apply ex_gtr|apply ex_len)<;>(first|exact eT rfl|exact eC|exact eG rfl))|((apply ex_orT)<;>(first|exact eT rfl|exact eG rfl))|((first|apply ex_loadown|apply ex_extract|apply ex_indexAddr)<;>(first|exact eT rfl|exact eG rfl|exact Bk.own InH.mem|rfl|assumption)))))|(apply spl_alloc rfl;intro _ _)|(apply spl_stores;(·exact eT rfl);(·exact eT rfl);(·(repeat (exact Upd.here)));(·(rfl));(·(rfl));(·exact Ones.one)))
      rename_i g5 h5 g8 h8
      rw [mobj_nil]
      refine sp_loop (X := Nat × List (ByteArray × Value × Nat) × Nat) (fun z => [(46, true, .int .i64 (z.1 : Int)), (45, true, .int .i64 (x.ss.n : Int)), (44, true, .slice x.ss.a x.ss.n x.ss.c), (8, true, .map (some g8)), (5, true, .pointer (some ⟨g5, 0, none⟩)), (18, true, .int .i64 (i : Int)), (17, true, .int .i64 (n : Int)), (16, true, .slice A n c), (3, true, .map (some g2)), (1, true, .pointer (some ⟨g1, 0, none⟩))]) (fun _ => w)
        (fun z => [(g8, mobj Value.string z.2.1 z.2.2), (g5, .cells x.cells 34 (0, 0)), (g2, mobj Value.string es ck), (g1, .cells #[.slice A n c] 24 (0, 0))])
        (fun z => z.1 ≤ x.ss.n ∧ SM z.2.1 ((x.slots.take z.1).map (·.name)) ∧ slotsOk (ks.take i) [] x.slots = slotsOk (ks.take i) ((x.slots.take z.1).map (·.name)) (x.slots.drop z.1)) (fun z => x.ss.n - z.1) (0, [], 0) ⟨Nat.zero_le _, SM.nil, rfl⟩ (by (repeat (first|exact ESub.nil|apply ESub.cons rfl))) rfl (by (repeat (exact HKeep.refl))) ?_
      rintro ⟨j, es2, ck2⟩ ⟨hjn, hSM, hslots⟩
      replace hjn : j ≤ x.ss.n := hjn
      replace hSM : SM es2 ((x.slots.take j).map (·.name)) := hSM
      replace hslots : slotsOk (ks.take i) [] x.slots = slotsOk (ks.take i) ((x.slots.take j).map (·.name)) (x.slots.drop j) := hslots
      dsimp only
      by_cases hlt2 : j < x.ss.n
      · obtain ⟨ad2, y, hA2, hb2, hy, hsz2, hc2⟩ := hsl.1.at_ hlt2
        have hmem2 := List.mem_of_getElem? hy
        have hst := hsl.2 y hmem2
        have hbd3 := hst.1.bound
        have hlen3 : y.kinds.length = y.ks.n := hst.1.len
        rw [slotsOk_at hy] at hslots
        have hget := hSM.get y.name
        generalize hsn : (x.slots.take j).map (·.name) = sn at hslots hSM hget
        have hsn2 : (x.slots.take (j + 1)).map (·.name) = sn ++ [y.name] := by rw [take_succ hy, List.map_append, hsn]; rfl
        have hnm2 := fun w' : World => lexName_c (w := w') y.name ((hsm x hmem).2 y hmem2)
        obtain ⟨hd2, hhd2⟩ : ∃ hd, hd = (!inB y.name sn && (nameL (tx y.name) && (decide (1 ≤ y.normal) && decide (y.normal ≤ (y.ks.n : Int))))) := ⟨_, rfl⟩
        have e1 : decide (y.normal < 1) = !decide (1 ≤ y.normal) := by rw [Bool.eq_iff_iff]; simp <;> omega
        have e2 : decide ((y.ks.n : Int) < y.normal) = !decide (y.normal ≤ (y.ks.n : Int)) := by rw [Bool.eq_iff_iff]; simp
        have hcond2 : (((inB y.name sn || !nameL (tx y.name)) || decide (y.normal < 1)) || decide ((y.ks.n : Int) < y.normal)) = !hd2 := by
          rw [hhd2, e1, e2]
          cases inB y.name sn <;> cases nameL (tx y.name) <;> cases decide (1 ≤ y.normal) <;> cases decide (y.normal ≤ (y.ks.n : Int)) <;> rfl
        cases hd2 with
        | false =>
          have hso : (!inB y.name sn && slotOk (ks.take i) y) = false := by
            unfold slotOk
            rw [← Bool.and_assoc, ← hhd2]; rfl
          rw [hso, Bool.false_and] at hslots
          rw [hslots, Bool.false_and] at hcat
          repeat (first|(apply sp_cond_t;(·exact eT rfl);(·exact hcond2))|(apply spl_callp_g rfl;(·exact Gd.tf rfl rfl);(·(repeat (first|exact eN|(apply eS;(·exact eG rfl)))));(·exact fun _ w' hh => hnm2 w'))|apply then_n|apply sp_seq|apply sp_region|apply spl_nil|apply then_r|apply block_r|((apply sp_cond_t);(·exact eT rfl);(·(exact decide_eq_true (by omega))))|apply sp_skip|apply sp_ret|apply sp_block|((first|apply spl_pure rfl|(apply spl_pure_g rfl;(·exact Gd.tf rfl rfl)));(·(first|(apply ex_lookup hget;(·exact eT rfl);(·exact eT rfl);(·exact Bk.own InH.mem))|(apply ex_loadelem;(·exact eT rfl);(·exact hsl.1);(·exact hA2);(·exact hy))|((first|apply ex_move|apply ex_assign|apply ex_fieldAddr'|apply ex_not|apply ex_lss|apply ex_gtr|apply ex_len)<;>(first|exact eT rfl|exact eC|exact eG rfl))|((apply ex_orT)<;>(first|exact eT rfl|exact eG rfl))|((first|apply ex_loadown|apply ex_indexAddr)<;>(first|exact eT rfl|exact eG rfl|exact Bk.own InH.mem|rfl|assumption)))))|(apply spl_alloc rfl;intro _ _)|(apply spl_stores;(·exact eT rfl);(·exact eT rfl);(·(repeat (exact Upd.here)));(·(rfl));(·(rfl));(·exact Ones.one)))
          (apply ret_ok rfl;(·((apply Res.ofOne;((apply Res1.tmp;(·rfl))))))); unfold validB; rw [hcat]; rfl
        | true =>
          have hso : (!inB y.name sn && slotOk (ks.take i) y) = kindsOk (ks.take i) [] y.kinds := by
            unfold slotOk
            rw [← Bool.and_assoc, ← hhd2]; rfl
          rw [hso] at hslots
          repeat (first|(apply spl_makeMap rfl;intro _ _)|(apply spl_mapUpdate (K:=ByteArray);(·exact eT rfl);(·exact eT rfl);(·exact eC);(·(repeat (first|exact Upd.here|apply Upd.there))))|(apply sp_cond_f;(·exact eT rfl);(·exact hcond2))|(apply spl_callp_g rfl;(·exact Gd.tf rfl rfl);(·(repeat (first|exact eN|(apply eS;(·exact eG rfl)))));(·exact fun _ w' hh => hnm2 w'))|apply then_n|apply sp_seq|apply sp_region|apply spl_nil|((apply sp_cond_t);(·exact eT rfl);(·(exact decide_eq_true (by omega))))|apply sp_skip|apply sp_block|((first|apply spl_pure rfl|(apply spl_pure_g rfl;(·exact Gd.tf rfl rfl)));(·(first|(apply ex_lookup hget;(·exact eT rfl);(·exact eT rfl);(·exact Bk.own InH.mem))|(apply ex_loadelem;(·exact eT rfl);(·exact hsl.1);(·exact hA2);(·exact hy))|((first|apply ex_move|apply ex_assign|apply ex_fieldAddr'|apply ex_not|apply ex_lss|apply ex_gtr|apply ex_len)<;>(first|exact eT rfl|exact eC|exact eG rfl))|((apply ex_orT)<;>(first|exact eT rfl|exact eG rfl))|((first|apply ex_loadown|apply ex_indexAddr)<;>(first|exact eT rfl|exact eG rfl|exact Bk.own InH.mem|rfl|assumption)))))|(apply spl_alloc rfl;intro _ _)|(apply spl_stores;(·exact eT rfl);(·exact eT rfl);(·(repeat (exact Upd.here)));(·(rfl));(·(rfl));(·exact Ones.one)))
          rename_i g10 h10 g11 h11
          rw [mobj_nil]
          have hSM2 : SM (putL y.name (.bool true) ck2 es2) (sn ++ [y.name]) := hSM.put
          generalize putL y.name (.bool true) ck2 es2 = es2' at hSM2
          generalize tick y.name ck2 es2 = ck2'
          refine sp_loop (X := Nat × List (ByteArray × Value × Nat) × Nat) (fun z => [(80, true, .int .i64 (z.1 : Int)), (79, true, .int .i64 (y.ks.n : Int)), (78, true, .slice y.ks.a y.ks.n y.ks.c), (11, true, .map (some g11)), (46, true, .int .i64 (j : Int)), (45, true, .int .i64 (x.ss.n : Int)), (44, true, .slice x.ss.a x.ss.n x.ss.c), (8, true, .map (some g8)), (5, true, .pointer (some ⟨g5, 0, none⟩)), (18, true, .int .i64 (i : Int)), (17, true, .int .i64 (n : Int)), (16, true, .slice A n c), (3, true, .map (some g2)), (1, true, .pointer (some ⟨g1, 0, none⟩))]) (fun _ => w)
            (fun z => [(g11, mobj Value.string z.2.1 z.2.2), (g8, mobj Value.string es2' ck2'), (g5, .cells x.cells 34 (0, 0)), (g2, mobj Value.string es ck), (g1, .cells #[.slice A n c] 24 (0, 0))])
            (fun z => z.1 ≤ y.ks.n ∧ SM z.2.1 (y.kinds.take z.1) ∧ kindsOk (ks.take i) [] y.kinds = kindsOk (ks.take i) (y.kinds.take z.1) (y.kinds.drop z.1)) (fun z => y.ks.n - z.1) (0, [], 0) ⟨Nat.zero_le _, SM.nil, rfl⟩ (by (repeat (first|exact ESub.nil|apply ESub.cons rfl))) rfl (by (repeat (first|exact HKeep.refl|apply HKeep.keep|(apply HKeep.pick;(·(repeat (first|exact Rem.here|apply Rem.there))))|apply HKeep.drop (by first|assumption|omega)))) ?_
          rintro ⟨m, es3, ck3⟩ ⟨hmn, hTM, hkinds⟩
          replace hmn : m ≤ y.ks.n := hmn
          replace hTM : SM es3 (y.kinds.take m) := hTM
          replace hkinds : kindsOk (ks.take i) [] y.kinds = kindsOk (ks.take i) (y.kinds.take m) (y.kinds.drop m) := hkinds
          dsimp only
          by_cases hlt3 : m < y.ks.n
          · obtain ⟨ad3, z, hA3, hb3, hz, hsz3, hc3⟩ := hst.1.at_ hlt3
            rw [kindsOk_at hz] at hkinds
            have hget2 := hTM.get z
            have hget3 := hPM.get z
            cases hbad : (!inB z (y.kinds.take m) && good (ks.take i) z) with
            | false =>
              rw [hbad, Bool.false_and] at hkinds
              rw [hkinds, Bool.false_and] at hslots
              rw [hslots, Bool.false_and] at hcat
              have hcond3 : (inB z (y.kinds.take m) || !good (ks.take i) z) = true := by
                revert hbad
                cases inB z (y.kinds.take m) <;> cases good (ks.take i) z <;> simp
              repeat (first|(apply sp_cond_t;(·exact eT rfl);(·exact hcond3))|apply then_n|apply sp_seq|apply sp_region|apply spl_nil|apply then_r|apply block_r|((apply sp_cond_t);(·exact eT rfl);(·(exact decide_eq_true (by omega))))|apply sp_skip|apply sp_ret|apply sp_block|((first|apply spl_pure rfl|(apply spl_pure_g rfl;(·exact Gd.tf rfl rfl)));(·(first|(apply ex_lookup hget2;(·(first|exact eT rfl|exact eG rfl));(·(first|exact eT rfl|exact eG rfl));(·exact Bk.own InH.mem))|(apply ex_lookup hget3;(·exact eG rfl);(·exact eG rfl);(·exact Bk.own InH.mem))|(apply ex_loadfield (k:=0);(·exact eT rfl);(·exact hst.1);(·exact hA3);(·exact hz);(·rfl))|((first|apply ex_move|apply ex_assign|apply ex_not|apply ex_lss)<;>(first|exact eT rfl|exact eC|exact eG rfl))|((apply ex_orT)<;>(first|exact eT rfl|exact eG rfl))|((apply ex_indexAddr)<;>(first|exact eT rfl|assumption))))))
              (apply ret_ok rfl;(·((apply Res.ofOne;((apply Res1.tmp;(·rfl))))))); unfold validB; rw [hcat]; rfl
            | true =>
              rw [hbad, Bool.true_and] at hkinds
              have hcond3 : (inB z (y.kinds.take m) || !good (ks.take i) z) = false := by
                revert hbad
                cases inB z (y.kinds.take m) <;> cases good (ks.take i) z <;> simp
              repeat (first|(apply spl_mapUpdate (K:=ByteArray);(·exact eT rfl);(·exact eT rfl);(·exact eC);(·(repeat (exact Upd.here))))|(apply sp_cond_f;(·exact eT rfl);(·exact hcond3))|apply then_n|apply block_n|apply sp_seq|apply sp_region|apply spl_nil|((apply sp_cond_t);(·exact eT rfl);(·(exact decide_eq_true (by omega))))|apply sp_skip|apply sp_block|((first|apply spl_pure rfl|(apply spl_pure_g rfl;(·exact Gd.tf rfl rfl)));(·(first|(apply ex_lookup hget2;(·(first|exact eT rfl|exact eG rfl));(·(first|exact eT rfl|exact eG rfl));(·exact Bk.own InH.mem))|(apply ex_lookup hget3;(·exact eG rfl);(·exact eG rfl);(·exact Bk.own InH.mem))|(apply ex_loadfield (k:=0);(·exact eT rfl);(·exact hst.1);(·exact hA3);(·exact hz);(·rfl))|((first|apply ex_move|apply ex_assign|apply ex_not|apply ex_lss)<;>(first|exact eT rfl|exact eG rfl))|((apply ex_orT)<;>(first|exact eT rfl|exact eG rfl))|(apply ex_addn<;>(first|exact eT rfl|exact eC|(constructor<;>omega)))|((apply ex_indexAddr)<;>(first|exact eT rfl|assumption))))))
              exact ⟨(m + 1, putL z (.bool true) ck3 es3, tick z ck3 es3), ⟨hlt3, by rw [take_succ hz]; exact hTM.put, hkinds⟩, by show y.ks.n - (m + 1) < y.ks.n - m; omega, (by (repeat (first|exact ESub.nil|apply ESub.cons rfl))), rfl, (by (repeat (exact HKeep.refl)))⟩
          · have hk0 : kindsOk (ks.take i) (y.kinds.take m) (y.kinds.drop m) = true := by rw [List.drop_eq_nil_of_le (by omega)]; rfl
            rw [hkinds, hk0, Bool.true_and] at hslots
            repeat (first|apply then_n|apply block_n|apply sp_seq|apply sp_region|apply spl_nil|apply then_e|apply block_here|(apply sp_cond_f;(·exact eT rfl);(·(exact decide_eq_false (by omega))))|apply sp_exit|((apply spl_pure rfl);(·(first|((first|apply ex_move|apply ex_lss)<;>(exact eT rfl))|(apply ex_addn<;>(first|exact eT rfl|exact eC|(constructor<;>omega)))))))
            exact ⟨(j + 1, es2', ck2'), ⟨hlt2, by rw [hsn2]; exact hSM2, hslots⟩, by show x.ss.n - (j + 1) < x.ss.n - j; omega, (by (repeat (first|exact ESub.nil|apply ESub.cons rfl))), rfl, (by (repeat (first|exact HKeep.refl|(apply HKeep.pick;(·(repeat (first|exact Rem.here|apply Rem.there))))|apply HKeep.drop (by first|assumption|omega))))⟩
      · have hs0 : slotsOk (ks.take i) ((x.slots.take j).map (·.name)) (x.slots.drop j) = true := by rw [List.drop_eq_nil_of_le (by omega)]; rfl
        rw [hslots, hs0, Bool.true_and] at hcat
        repeat (first|(apply spl_mapUpdate (K:=ByteArray);(·exact eT rfl);(·exact eT rfl);(·exact eT rfl);(·(repeat (first|exact Upd.here|apply Upd.there))))|apply then_n|apply block_n|apply sp_seq|apply sp_region|apply spl_nil|apply then_e|apply block_here|(apply sp_cond_f;(·exact eT rfl);(·(exact decide_eq_false (by omega))))|apply sp_exit|((apply spl_pure rfl);(·(first|((first|apply ex_move|apply ex_fieldAddr'|apply ex_not|apply ex_lss)<;>(exact eT rfl))|(apply ex_addn<;>(first|exact eT rfl|exact eC|(constructor<;>omega)))|((apply ex_loadown)<;>(first|exact eT rfl|exact Bk.own InH.mem|rfl))))))
        exact ⟨(i + 1, putL x.name (.bool (!x.vehicle)) ck es, tick x.name ck es), ⟨hlt, by rw [take_succ hx]; exact hPM.put hnone, hcat⟩, by show n - (i + 1) < n - i; omega, (by (repeat (first|exact ESub.nil|apply ESub.cons rfl))), rfl, (by (repeat (first|exact HKeep.refl|(apply HKeep.pick;(·(repeat (first|exact Rem.here|apply Rem.there))))|apply HKeep.drop (by first|assumption|omega))))⟩
  · have h0 : catOk (ks.take i) (ks.drop i) = true := by rw [List.drop_eq_nil_of_le (by omega)]; rfl
    rw [h0] at hcat
    repeat (first|apply then_n|apply sp_seq|apply sp_region|apply spl_nil|apply then_e|apply block_here|(apply sp_cond_f;(·exact eT rfl);(·(exact decide_eq_false (by omega))))|apply sp_ret|apply sp_exit|((apply spl_pure rfl);(·(first|((first|apply ex_assign|apply ex_fieldAddr'|apply ex_lss|apply ex_leq|apply ex_len)<;>(first|exact eT rfl|exact eC))|((apply ex_loadown)<;>(first|exact eT rfl|exact Bk.own InH.mem|rfl))))))
    (apply ret_ok rfl;(·((apply Res.ofOne;((apply Res1.tmp;(·rfl)))))))
    unfold validB
    rw [hcat, hlen, Bool.true_and]
    congr 1
    rw [Bool.eq_iff_iff]
    simp
    omega
end Go.Proofs.Ytfdjlphfohnnnaa
/-
  Contracts: strings.Builder.
-/
namespace Go.Proofs.Ytfdjlphfohnnnaa
open Go.RowKit Go.Sy
set_option linter.unusedVariables false
set_option linter.unusedSimpArgs false
theorem noEscape_run (v : Value) (w : World) : (callFunc 76 #[v]).run Try.prog w = .ok (.value v) w := by
  rw [run_callFunc_extern Try.func76 (by kernel_rfl) (by kernel_rfl) (by kernel_rfl) (e := Extern.AbiNoEscape.same) (by kernel_rfl), Lib.run_noEscape]
  rfl
theorem unsafeT : Try.prog.underlying 117 = some .unsafePointer := by kernel_rfl
theorem cellsB : Try.prog.cellsOf 5 = 1 := by kernel_rfl
theorem liesB : liesAt Try.prog Try.prog.depth 60 (2 / Try.prog.cellsOf 60) 0 60 1 = true := by kernel_rfl
/-- A builder's blocks. -/
def BH (b : Nat) (p : Option Addr) (r : RowS) (s : ByteArray) : Heap := (b, .cells #[.pointer p, r.val s.size] 60 (0, 0)) :: r.hp (byteCells s) 5
def BOk (w0 : World) (r : RowS) (s : ByteArray) : Prop := r.ok 1 s.size (byteCells s) ∧ ∀ g, r.g = some g → w0.heap.size ≤ g ∧ 0 < s.size
theorem BH_n {b : Nat} {p : Option Addr} {s : ByteArray} {cap : Nat} {tl : List Value} : BH b p ⟨none, cap, tl⟩ s = [(b, .cells #[.pointer p, .slice none s.size cap] 60 (0, 0))] := rfl
theorem BH_s {b g : Nat} {p : Option Addr} {s : ByteArray} {cap : Nat} {tl : List Value} : BH b p ⟨some g, cap, tl⟩ s = [(b, .cells #[.pointer p, .slice (some ⟨g, 0, none⟩) s.size cap] 60 (0, 0)), (g, .cells (byteCells s ++ tl).toArray 5 (0, 0))] := rfl
theorem BHR_n {b : Nat} {p : Option Addr} {s : ByteArray} {cap : Nat} {tl : List Value} {R : Heap} : BH b p ⟨none, cap, tl⟩ s ++ R = (b, .cells #[.pointer p, .slice none s.size cap] 60 (0, 0)) :: R := rfl
theorem BHR_s {b g : Nat} {p : Option Addr} {s : ByteArray} {cap : Nat} {tl : List Value} {R : Heap} : BH b p ⟨some g, cap, tl⟩ s ++ R = (b, .cells #[.pointer p, .slice (some ⟨g, 0, none⟩) s.size cap] 60 (0, 0)) :: (g, .cells (byteCells s ++ tl).toArray 5 (0, 0)) :: R := rfl
theorem BOk.start {w0 : World} : BOk w0 RowS.start ⟨#[]⟩ := ⟨⟨rfl, rfl, rfl⟩, fun g h => by cases h⟩
theorem byteCells_push (s : ByteArray) (c : UInt8) : byteCells (s.push c) = byteCells s ++ [.int .u8 (c.toNat : Int)] := by
  simp [byteCells, ByteArray.push]
theorem byteCells_app (s t : ByteArray) : byteCells (s ++ t) = byteCells s ++ byteCells t := by
  simp [byteCells]
theorem byteCells_len (s : ByteArray) : (byteCells s).length = s.size := by simp [byteCells]
theorem size_push (s : ByteArray) (c : UInt8) : (s.push c).size = s.size + 1 := by
  show (s.data.push c).size = s.data.size + 1
  simp
attribute [local irreducible] Calls thenQ blockQ retQ Spc Spl Spq Ex Ev Evs Gd Upd ESub HKeep Res Res1 wlk effQ Rem SrcAt Split

set_option maxRecDepth 100000 in
theorem copyCheck_c {Be : Nat} {w0 w : World} {b : Nat} {p : Option Addr} {v : Value} {R : Heap} (hp : p = none ∨ p = some ⟨b, 0, none⟩) (hh : Hp Be w0 ((b, .cells #[.pointer p, v] 60 (0, 0)) :: R) w) :
    Calls Try.prog 54 #[.pointer (some ⟨b, 0, none⟩)] w (RetX Be w0 (fun _ : Unit => .tuple #[]) (fun _ => (b, .cells #[.pointer (some ⟨b, 0, none⟩), v] 60 (0, 0)) :: R) (fun _ => True)) := by
  refine sp_enterM (vs := [_]) Try.func54 rfl Try.ntmps54 rfl hh ?_
  rcases hp with rfl | rfl
  · repeat (first|(apply sp_cond_t;(·exact eT rfl);(·(simp;done)))|apply then_n|apply sp_seq|apply sp_region|apply spl_nil|((apply spl_pure rfl);(·(first|(apply ex_extern;(·(repeat (first|exact eN|(apply eS;(·exact eT rfl)))));(·exact noEscape_run _))|(apply ex_toUnsafe;(·exact eT rfl);(·exact Bk.own InH.mem);(·rfl);(·rfl);(·exact unsafeT))|(apply ex_fromUnsafe;(·exact eT rfl);(·exact Bk.own InH.mem);(·exact unsafeT);(·exact liesB))|((first|apply ex_move|apply ex_fieldAddr'|apply ex_seql|apply ex_nilCheck)<;>(exact eT rfl))|((apply ex_peql)<;>(first|exact eT rfl|exact eC))|(apply ex_loadown<;>(first|exact eT rfl|exact Bk.own InH.mem|rfl)))))|(apply spl_store1;(·exact eT rfl);(·exact eT rfl);(·rfl);(·(repeat (exact Upd.here)));(·rfl)))
    (apply endX_ok rfl;(·exact Res.none_))
    exact ⟨(), rfl, trivial, by (repeat (exact HKeep.refl))⟩
  · repeat (first|(apply sp_cond_f;(·exact eT rfl);(·(simp;done)))|apply then_n|apply sp_seq|apply sp_region|apply spl_nil|apply sp_skip|((apply spl_pure rfl);(·(first|(apply ex_pneqS;(·exact eT rfl);(·exact eT rfl))|((first|apply ex_move|apply ex_fieldAddr'|apply ex_seql|apply ex_nilCheck)<;>(exact eT rfl))|((apply ex_peql)<;>(first|exact eT rfl|exact eC))|(apply ex_loadown<;>(first|exact eT rfl|exact Bk.own InH.mem|rfl))))))
    (apply endX_ok rfl;(·exact Res.none_))
    exact ⟨(), rfl, trivial, by (repeat (exact HKeep.refl))⟩

set_option maxRecDepth 100000 in
set_option maxHeartbeats 1000000 in
theorem writeByte_c {Be : Nat} {w0 w : World} {b : Nat} {p : Option Addr} {r : RowS} {s : ByteArray} {R : Heap} (hp : p = none ∨ p = some ⟨b, 0, none⟩) (hr : BOk w0 r s) (hs : s.size < 100000000) (c : UInt8) (hh : Hp Be w0 (BH b p r s ++ R) w) :
    Calls Try.prog 53 #[.pointer (some ⟨b, 0, none⟩), .int .u8 (c.toNat : Int)] w (RetX Be w0 (fun _ : RowS => .nilIface) (fun r' => BH b (some ⟨b, 0, none⟩) r' (s.push c) ++ R) (fun r' => BOk w0 r' (s.push c))) := by
  refine sp_enterM (vs := [_, _]) Try.func53 rfl Try.ntmps53 rfl hh ?_
  have hlen := byteCells_len s
  have hone : ∀ u ∈ [Value.int .u8 (c.toNat : Int)], u.oneCell' = true := fun u hu => by simp at hu; subst hu; rfl
  rcases r with ⟨_ | g, cap, tail⟩
  · obtain ⟨⟨h0, rfl, hb0⟩, -⟩ := hr
    rw [BH_n]
    repeat (first|(apply spl_callx (fun _ : Unit => .tuple #[]) (fun _ => w0) (fun _ => _ :: _) (fun _ => True) rfl;(·(repeat (first|exact eN|(apply eS;(·exact eT rfl)))));(·exact fun w' hh => copyCheck_c hp hh);(rintro ⟨⟩ -))|apply then_n|apply sp_seq|apply sp_region|apply spl_nil|apply sp_ret|((apply spl_pure rfl);(·(first|((first|apply ex_move|apply ex_assign|apply ex_fieldAddr'|apply ex_nilCheck)<;>(first|exact eT rfl|exact eC))|(apply ex_loadown<;>(first|exact eT rfl|exact Bk.own InH.mem|rfl)))))|(apply spl_store1;(·exact eT rfl);(·exact eT rfl);(·rfl);(·(repeat (first|exact Upd.here|apply Upd.there)));(·rfl))|(apply spl_buildSlice rfl;(·rfl);(·(repeat (first|exact eN|(apply eS;(·exact eT rfl)))));(·rfl);(·rfl);(·rfl);intro _ _)|(refine spl_append_grow (olds := []) (news := [.int .u8 (c.toNat : Int)]) (m := 1) (by (exact eT rfl)) (by (exact eT rfl)) (fun w' hh => CellsAt.nil) (by rw [h0]; rfl) (fun w' hh => SrcAt.slice (CellsAt.own hh.ownI (fun j u hj => by rw [List.getElem?_toArray]; exact hj)) rfl rfl hone) (by omega) (by omega) rfl rfl rfl rfl ?_;intro gA capA tA hgA hcA hlA))
    (apply retX_ok rfl;(·((apply Res.ofOne;((apply Res1.tmp;(·rfl)))))))
    refine ⟨⟨some gA, capA, tA⟩, rfl, ⟨⟨?_, ?_, ?_⟩, ?_⟩, ?_⟩
    · rw [size_push]; exact hcA
    · rw [byteCells_push, hb0]; exact hlA
    · rw [byteCells_len, Nat.mul_one]
    · rintro g h; cases h; rw [size_push]; exact ⟨hgA, Nat.succ_pos _⟩
    · rw [BH_s, size_push, byteCells_push, hb0]; (repeat (first|exact HKeep.refl|apply HKeep.keep|(apply HKeep.app;(·(repeat (first|exact Split.here|apply Split.cons|apply Split.app))))|(apply HKeep.pick;(·(repeat (first|exact Rem.here|apply Rem.there))))|apply HKeep.drop (by first|assumption|omega)))
  · obtain ⟨⟨h0, h1, h2⟩, h3⟩ := hr
    obtain ⟨h3, h4⟩ := h3 g rfl
    rw [BH_s]
    repeat (first|(apply spl_callx (fun _ : Unit => .tuple #[]) (fun _ => w0) (fun _ => _ :: _) (fun _ => True) rfl;(·(repeat (first|exact eN|(apply eS;(·exact eT rfl)))));(·exact fun w' hh => copyCheck_c hp hh);(rintro ⟨⟩ -))|apply then_n|apply sp_seq|apply sp_region|apply spl_nil|apply sp_ret|((apply spl_pure rfl);(·(first|((first|apply ex_move|apply ex_assign|apply ex_fieldAddr'|apply ex_nilCheck)<;>(first|exact eT rfl|exact eC))|(apply ex_loadown<;>(first|exact eT rfl|exact Bk.own InH.mem|rfl)))))|(apply spl_store1;(·exact eT rfl);(·exact eT rfl);(·rfl);(·(repeat (first|exact Upd.here|apply Upd.there)));(·rfl))|(apply spl_buildSlice rfl;(·rfl);(·(repeat (first|exact eN|(apply eS;(·exact eT rfl)))));(·rfl);(·rfl);(·rfl);intro _ _)|(refine spl_append_own (xs := byteCells s) (tail := tail) (news := [.int .u8 (c.toNat : Int)]) (m := 1) (by (exact eT rfl)) (by (exact eT rfl)) (by (repeat (first|exact Rem.here|apply Rem.there))) (by assumption) h2 h1 h0 (fun w' hh => SrcAt.slice (CellsAt.own hh.ownI (fun j u hj => by rw [List.getElem?_toArray]; exact hj)) rfl rfl hone) rfl (by omega) rfl rfl rfl rfl ?_;intro gA capA tA hgA hcA hlA))
    (apply retX_ok rfl;(·((apply Res.ofOne;((apply Res1.tmp;(·rfl)))))))
    refine ⟨⟨some gA, capA, tA⟩, rfl, ⟨⟨?_, ?_, ?_⟩, ?_⟩, ?_⟩
    · rw [size_push]; exact hcA
    · rw [byteCells_push]; exact hlA
    · rw [byteCells_len, Nat.mul_one]
    · rintro g h; cases h; rw [size_push]; exact ⟨hgA, Nat.succ_pos _⟩
    · rw [BH_s, size_push, byteCells_push]; (repeat (first|exact HKeep.refl|apply HKeep.keep|(apply HKeep.app;(·(repeat (first|exact Split.here|apply Split.cons|apply Split.app))))|(apply HKeep.pick;(·(repeat (first|exact Rem.here|apply Rem.there))))|apply HKeep.drop (by first|assumption|omega)))

set_option maxRecDepth 100000 in
set_option maxHeartbeats 1000000 in
theorem writeString_c {Be : Nat} {w0 w : World} {b : Nat} {p : Option Addr} {r : RowS} {s : ByteArray} {R : Heap} (hp : p = none ∨ p = some ⟨b, 0, none⟩) (hr : BOk w0 r s) (hs : s.size < 100000000) (x : ByteArray) (hx0 : 0 < x.size) (hx : x.size < 100000000) (hh : Hp Be w0 (BH b p r s ++ R) w) :
    Calls Try.prog 29 #[.pointer (some ⟨b, 0, none⟩), .string x] w (RetX Be w0 (fun _ : RowS => .tuple #[.int .i64 (x.size : Int), .nilIface]) (fun r' => BH b (some ⟨b, 0, none⟩) r' (s ++ x) ++ R) (fun r' => BOk w0 r' (s ++ x))) := by
  refine sp_enterM (vs := [_, _]) Try.func29 rfl Try.ntmps29 rfl hh ?_
  have hlen := byteCells_len s
  have hlx := byteCells_len x
  rcases r with ⟨_ | g, cap, tail⟩
  · obtain ⟨⟨h0, rfl, hb0⟩, -⟩ := hr
    rw [BH_n]
    repeat (first|(apply spl_callx (fun _ : Unit => .tuple #[]) (fun _ => w0) (fun _ => _ :: _) (fun _ => True) rfl;(·(repeat (first|exact eN|(apply eS;(·exact eT rfl)))));(·exact fun w' hh => copyCheck_c hp hh);(rintro ⟨⟩ -))|apply then_n|apply sp_seq|apply sp_region|apply spl_nil|apply sp_ret|((apply spl_pure rfl);(·(first|((first|apply ex_move|apply ex_assign|apply ex_fieldAddr'|apply ex_nilCheck)<;>(first|exact eT rfl|exact eC))|((apply ex_slen)<;>(exact eT rfl))|(apply ex_loadown<;>(first|exact eT rfl|exact Bk.own InH.mem|rfl)))))|(apply spl_store1;(·exact eT rfl);(·exact eT rfl);(·rfl);(·(repeat (first|exact Upd.here|apply Upd.there)));(·rfl))|(refine spl_append_grow (olds := []) (news := byteCells x) (m := x.size) (by (exact eT rfl)) (by (exact eT rfl)) (fun w' hh => CellsAt.nil) (by rw [h0]; rfl) (fun w' hh => SrcAt.string) (by omega) (by omega) rfl rfl rfl rfl ?_;intro gA capA tA hgA hcA hlA))
    (apply retX_ok rfl;(·((apply Res.ofTwo<;>((apply Res1.tmp;(·rfl)))))))
    refine ⟨⟨some gA, capA, tA⟩, rfl, ⟨⟨?_, ?_, ?_⟩, ?_⟩, ?_⟩
    · rw [ByteArray.size_append]; exact hcA
    · rw [byteCells_app, hb0]; exact hlA
    · rw [byteCells_len, Nat.mul_one]
    · rintro g h; cases h; rw [ByteArray.size_append]; exact ⟨hgA, by omega⟩
    · rw [BH_s, ByteArray.size_append, byteCells_app, hb0]; (repeat (first|exact HKeep.refl|(apply HKeep.pick;(·(repeat (first|exact Rem.here|apply Rem.there))))))
  · obtain ⟨⟨h0, h1, h2⟩, h3⟩ := hr
    obtain ⟨h3, h4⟩ := h3 g rfl
    rw [BH_s]
    repeat (first|(apply spl_callx (fun _ : Unit => .tuple #[]) (fun _ => w0) (fun _ => _ :: _) (fun _ => True) rfl;(·(repeat (first|exact eN|(apply eS;(·exact eT rfl)))));(·exact fun w' hh => copyCheck_c hp hh);(rintro ⟨⟩ -))|apply then_n|apply sp_seq|apply sp_region|apply spl_nil|apply sp_ret|((apply spl_pure rfl);(·(first|((first|apply ex_move|apply ex_assign|apply ex_fieldAddr'|apply ex_nilCheck)<;>(first|exact eT rfl|exact eC))|((apply ex_slen)<;>(exact eT rfl))|(apply ex_loadown<;>(first|exact eT rfl|exact Bk.own InH.mem|rfl)))))|(apply spl_store1;(·exact eT rfl);(·exact eT rfl);(·rfl);(·(repeat (first|exact Upd.here|apply Upd.there)));(·rfl))|(refine spl_append_own (xs := byteCells s) (tail := tail) (news := byteCells x) (m := x.size) (by (exact eT rfl)) (by (exact eT rfl)) (by (repeat (first|exact Rem.here|apply Rem.there))) (by assumption) h2 h1 h0 (fun w' hh => SrcAt.string) (by omega) (by omega) rfl rfl rfl rfl ?_;intro gA capA tA hgA hcA hlA))
    (apply retX_ok rfl;(·((apply Res.ofTwo<;>((apply Res1.tmp;(·rfl)))))))
    refine ⟨⟨some gA, capA, tA⟩, rfl, ⟨⟨?_, ?_, ?_⟩, ?_⟩, ?_⟩
    · rw [ByteArray.size_append]; exact hcA
    · rw [byteCells_app]; exact hlA
    · rw [byteCells_len, Nat.mul_one]
    · rintro g h; cases h; rw [ByteArray.size_append]; exact ⟨hgA, by omega⟩
    · rw [BH_s, ByteArray.size_append, byteCells_app]; (repeat (first|exact HKeep.refl|(apply HKeep.pick;(·(repeat (first|exact Rem.here|apply Rem.there))))))

set_option maxRecDepth 100000 in
set_option maxHeartbeats 1000000 in
theorem string_c {Be : Nat} {w0 w : World} {b : Nat} {p : Option Addr} {r : RowS} {s : ByteArray} {R : Heap} (hr : BOk w0 r s) (hs : s.size < 100000000) (hb : w0.heap.size ≤ b) (hh : Hp Be w0 (BH b p r s ++ R) w) :
    Calls Try.prog 31 #[.pointer (some ⟨b, 0, none⟩)] w (RetX Be w0 (fun _ : Unit => .string s) (fun _ => R) (fun _ => True)) := by
  refine sp_enterM (vs := [_]) Try.func31 rfl Try.ntmps31 rfl hh ?_
  rcases r with ⟨_ | g, cap, tail⟩
  · obtain ⟨⟨h0, rfl, hb0⟩, -⟩ := hr
    rw [BHR_n, h0]
    repeat (first|apply then_n|apply sp_seq|apply sp_region|apply spl_nil|((apply spl_pure rfl);(·(((apply ex_assign)<;>(exact eC))))))
    refine sp_drawn [(0, true), (1, true), (2, true), (3, true), (5, true), (6, true), (7, true), (8, true), (9, true), (4, false), (10, false), (11, true)] 12 ((b, .cells #[.pointer p, .slice none 0 0] 60 (0, 0)) :: R) mixed (by kernel_rfl) (by (repeat (exact HKeep.refl))) ?_
    repeat (first|apply then_n|apply spl_nil|apply sp_ret|((first|apply spl_pure rfl|apply wlk_read rfl rfl);(·(first|(apply ex_sliceDataN;(·exact eT rfl))|(apply ex_unsafeStringN;(·exact eT rfl);(·exact eT rfl))|((first|apply ex_move|apply ex_assign|apply ex_fieldAddr'|apply ex_len|apply ex_nilCheck)<;>(exact eT rfl))|(apply ex_loadown<;>(first|exact eT rfl|exact Bk.own InH.mem|rfl)))))|(apply effq;(·(intro h_;((repeat (exact HKeep.refl))))))|apply wlk_nil|apply wlk_eff rfl)
    (apply retX_ok rfl;(·((apply Res.ofOne;((apply Res1.tmp;(·rfl)))))))
    have hs0 : s = .empty := by
      apply ByteArray.ext
      apply Array.ext'
      have : s.data.toList.length = 0 := by simpa using h0
      exact List.length_eq_zero_iff.1 this
    exact ⟨(), by rw [hs0], trivial, by (repeat (first|exact HKeep.refl|apply HKeep.drop (by first|assumption|omega)))⟩
  · obtain ⟨⟨h0, h1, h2⟩, h3⟩ := hr
    obtain ⟨h3, h4⟩ := h3 g rfl
    rw [BHR_s]
    have h0' : s.size ≤ cap := h0
    have hlt : (byteCells s ++ tail).length = cap := by have : (byteCells s ++ tail).length = cap * 1 := h1; omega
    repeat (first|apply then_n|apply sp_seq|apply sp_region|apply spl_nil|((apply spl_pure rfl);(·(((apply ex_assign)<;>(exact eC))))))
    refine sp_drawn [(0, true), (1, true), (2, true), (3, true), (5, true), (6, true), (7, true), (8, true), (9, true), (4, false), (10, false), (11, true)] 12 ((b, .cells #[.pointer p, .slice (some ⟨g, 0, none⟩) s.size cap] 60 (0, 0)) :: R) mixed (by kernel_rfl) (by (repeat (first|exact HKeep.refl|apply HKeep.keep|apply HKeep.drop (by first|assumption|omega)))) ?_
    repeat (first|apply then_n|apply spl_nil|apply sp_ret|((first|apply spl_pure rfl|apply wlk_read rfl rfl);(·(first|(apply ex_sliceData;(·exact eT rfl);(·omega))|((first|apply ex_move|apply ex_assign|apply ex_fieldAddr'|apply ex_len|apply ex_nilCheck)<;>(exact eT rfl))|(apply ex_loadown<;>(first|exact eT rfl|exact Bk.own InH.mem|rfl)))))|(apply effq;(·(intro h_;((repeat (first|exact HKeep.refl|apply HKeep.keep|apply HKeep.drop (by first|assumption|omega)))))))|apply wlk_nil|apply wlk_eff rfl|(refine spl_unsafeString rfl (by (exact eT rfl)) (by (exact eT rfl)) (by (repeat (first|exact Rem.here|apply Rem.there))) (by assumption) cellsB h4 ?_ (by omega) ?_ ?_;rotate_left 2))
    · (apply retX_ok rfl;(·((apply Res.ofOne;((apply Res1.tmp;(·rfl)))))))
      exact ⟨(), rfl, trivial, by (repeat (first|exact HKeep.refl|apply HKeep.drop (by first|assumption|omega)))⟩
    · rw [List.size_toArray, hlt]; exact h0'
    · intro j v hj
      rw [List.getElem?_toArray, List.getElem?_append_left (List.getElem?_eq_some_iff.1 hj).1]
      exact hj
end Go.Proofs.Ytfdjlphfohnnnaa
/-
  Contracts: the lexer's Quote and unquoted.
-/
namespace Go.Proofs.Ytfdjlphfohnnnaa
open Go.RowKit Go.Sy
set_option linter.unusedVariables false
set_option linter.unusedSimpArgs false
section
variable {P : Program} {N Be : Nat} {Q : Post} {e : Env} {w0 : World} {H : Heap} {ops : Array Oper} {rest : List Oper} {ty : TypeId} {pos : String} {after : Array Edge} {d : Nat}
theorem spl_callR {f : FuncId} {xs : List Operand} {ts : Array TypeId} {vs : List Value} [TFn P f] {X : Type} {V : X → Value} {HH : X → Heap} {I : X → Prop} (hN : Nat.blt d N = true) (hx : Evs true e xs vs)
    (hc : ∀ w, Hp Be w0 H w → Calls P f vs.toArray w (RetX Be w0 V HH I))
    (k : ∀ x, I x → Spl P N Be ops Q rest ((d, true, V x) :: e) w0 (HH x)) : Spl P N Be ops Q (⟨some d, .call ⟨.value (.func f), xs.toArray, ts⟩, ty, pos, after, none⟩ :: rest) e w0 H :=
  spl_callx V (fun _ => w0) HH I hN hx hc k
end
theorem writeByte_c0 {Be : Nat} {w0 w : World} {b : Nat} {p : Option Addr} {r : RowS} {s : ByteArray} (hp : p = none ∨ p = some ⟨b, 0, none⟩) (hr : BOk w0 r s) (hs : s.size < 100000000) (c : UInt8) (hh : Hp Be w0 (BH b p r s) w) :
    Calls Try.prog 53 #[.pointer (some ⟨b, 0, none⟩), .int .u8 (c.toNat : Int)] w (RetX Be w0 (fun _ : RowS => .nilIface) (fun r' => BH b (some ⟨b, 0, none⟩) r' (s.push c)) (fun r' => BOk w0 r' (s.push c))) := by
  have := writeByte_c (R := []) hp hr hs c (by rw [List.append_nil]; exact hh)
  simpa only [List.append_nil] using this
theorem writeString_c0 {Be : Nat} {w0 w : World} {b : Nat} {p : Option Addr} {r : RowS} {s : ByteArray} (hp : p = none ∨ p = some ⟨b, 0, none⟩) (hr : BOk w0 r s) (hs : s.size < 100000000) (x : ByteArray) (hx0 : 0 < x.size) (hx : x.size < 100000000) (hh : Hp Be w0 (BH b p r s) w) :
    Calls Try.prog 29 #[.pointer (some ⟨b, 0, none⟩), .string x] w (RetX Be w0 (fun _ : RowS => .tuple #[.int .i64 (x.size : Int), .nilIface]) (fun r' => BH b (some ⟨b, 0, none⟩) r' (s ++ x)) (fun r' => BOk w0 r' (s ++ x))) := by
  have := writeString_c (R := []) hp hr hs x hx0 hx (by rw [List.append_nil]; exact hh)
  simpa only [List.append_nil] using this
theorem string_c0 {Be : Nat} {w0 w : World} {b : Nat} {p : Option Addr} {r : RowS} {s : ByteArray} (hr : BOk w0 r s) (hs : s.size < 100000000) (hb : w0.heap.size ≤ b) (hh : Hp Be w0 (BH b p r s) w) :
    Calls Try.prog 31 #[.pointer (some ⟨b, 0, none⟩)] w (RetX Be w0 (fun _ : Unit => .string s) (fun _ => []) (fun _ => True)) :=
  string_c (R := []) hr hs hb (by rw [List.append_nil]; exact hh)
theorem BH_start (b : Nat) : [(b, Obj.cells #[.pointer none, .slice none 0 0] 60 (0, 0))] = BH b none RowS.start ⟨#[]⟩ := rfl
theorem take_at {t : ByteArray} {k : Nat} {c : UInt8} {hlt : k < t.size} (hb : t[k] = c) : (tx t).take (k + 1) = (tx t).take k ++ [c] := by
  have h1 : k < (tx t).length := by rw [tx_len]; exact hlt
  rw [List.take_add_one, List.getElem?_eq_getElem h1, ← hb]
  rfl
attribute [local irreducible] Calls thenQ blockQ retQ Spc Spl Spq Ex Ev Evs Gd Upd ESub HKeep Res Res1 wlk effQ Rem SrcAt Split BH

set_option maxRecDepth 100000 in
set_option maxHeartbeats 4000000 in
theorem lexQuote_c {w : World} (t : ByteArray) (ht : t.size < 10000000) : Calls Try.prog 27 #[.string t] w (Ret w (.string (ofL (quoteL (tx t))))) := by
  refine sp_enter (vs := [_]) Try.func27 rfl Try.ntmps27 rfl ?_
  have hlen := tx_len t
  repeat (first|(apply spl_callR rfl;(·(repeat (first|exact eN|(apply eS;(·(first|exact eT rfl|exact eC))))));(·exact fun w' hh => writeByte_c0 (r:=RowS.start) (s:=⟨#[]⟩) (.inl rfl) BOk.start (by decide) 34 (by rw [← BH_start];exact hh));(intro r1 hr1))|apply then_n|apply sp_seq|apply sp_region|apply spl_nil|apply sp_block|((apply spl_pure rfl);(·(first|((first|apply ex_move|apply ex_assign)<;>(first|exact eT rfl|exact eC))|((apply ex_slen)<;>(exact eT rfl)))))|(apply spl_alloc rfl;intro _ _))
  rename_i b hb
  refine sp_loop (X := Nat × RowS × ByteArray) (fun x => [(9, true, .int .i64 (x.1 : Int)), (8, true, .int .i64 (t.size : Int)), (0, true, .string t), (3, true, .pointer (some ⟨b, 0, none⟩))]) (fun _ => w) (fun x => BH b (some ⟨b, 0, none⟩) x.2.1 x.2.2)
    (fun x => x.1 ≤ t.size ∧ BOk w x.2.1 x.2.2 ∧ tx x.2.2 = 34 :: ((tx t).take x.1).flatMap escB ∧ x.2.2.size ≤ 2 * x.1 + 1) (fun x => t.size - x.1) (0, r1, _) ⟨Nat.zero_le _, hr1, rfl, (by show (ByteArray.push ⟨#[]⟩ 34).size ≤ 1; decide)⟩ (by (repeat (first|exact ESub.nil|apply ESub.cons rfl))) rfl (by (repeat (exact HKeep.refl))) ?_
  rintro ⟨k, r, s⟩ ⟨hk, hr, hs, hsz⟩
  replace hk : k ≤ t.size := hk
  replace hsz : s.size ≤ 2 * k + 1 := hsz
  replace hr : BOk w r s := hr
  replace hs : tx s = 34 :: ((tx t).take k).flatMap escB := hs
  dsimp only
  by_cases hlt : k < t.size
  · obtain ⟨c, hb', hd⟩ := drop_at hlt
    have htk := take_at (hlt := hlt) hb'
    by_cases h10 : c.toNat = 10
    · have hi : (c.toNat : Int) = 10 := by omega
      repeat (first|(apply sp_cond_t;(·exact eT rfl);(·(simp [*];done)))|(apply spl_callR rfl;(·(repeat (first|exact eN|(apply eS;(·(first|exact eT rfl|exact eC))))));(·exact fun w' hh => writeString_c0 (.inr rfl) hr (by omega) _ (by decide) (by decide) hh);(intro r2 hr2))|apply then_n|apply block_n|apply sp_seq|apply sp_region|apply spl_nil|apply sp_skip|apply sp_block|((apply spl_pure rfl);(·(first|(apply ex_sindexE hlt hb';(·exact eT rfl);(·exact eT rfl))|((first|apply ex_move|apply ex_assign|apply ex_lss|apply ex_seql)<;>(exact eT rfl))|((apply ex_eql)<;>(first|exact eT rfl|exact eC))|(apply ex_addn<;>(first|exact eT rfl|exact eC|(constructor<;>omega)))))))
      refine ⟨(k + 1, r2, _), ⟨hlt, hr2, ?_, ?_⟩, by (show t.size - (k + 1) < t.size - k; omega), (by (repeat (first|exact ESub.nil|apply ESub.cons rfl))), rfl, (by (repeat (exact HKeep.refl)))⟩
      · show tx (s ++ _) = 34 :: ((tx t).take (k + 1)).flatMap escB
        rw [tx_append, hs, htk, List.flatMap_append]; simp [escB, h10, tx]
      · show (s ++ _).size ≤ 2 * (k + 1) + 1
        rw [ByteArray.size_append]; show s.size + 2 ≤ _; omega
    · by_cases h34 : c.toNat = 34 ∨ c.toNat = 92
      · have hesc : escB c = [92, c] := by simp [escB, h10, h34]
        have hi10 : ¬ (c.toNat : Int) = 10 := by omega
        by_cases h3 : c.toNat = 34
        · have hi : (c.toNat : Int) = 34 := by omega
          repeat (first|(apply sp_cond_t;(·exact eT rfl);(·(simp [*];done)))|(apply sp_cond_f;(·exact eT rfl);(·(simp [*];done)))|(apply spl_callR rfl;(·(repeat (first|exact eN|(apply eS;(·(first|exact eT rfl|exact eC))))));(·exact fun w' hh => writeByte_c0 (.inr rfl) hr (by omega) 92 hh);(intro r2 hr2))|(apply spl_callR rfl;(·(repeat (first|exact eN|(apply eS;(·exact eT rfl)))));(·exact fun w' hh => writeByte_c0 (.inr rfl) hr2 (by rw [size_push];omega) c hh);(intro r3 hr3))|apply then_n|apply block_n|apply sp_seq|apply sp_region|apply spl_nil|apply sp_skip|apply sp_block|((apply spl_pure rfl);(·(first|(apply ex_sindexE hlt hb';(·exact eT rfl);(·exact eT rfl))|((first|apply ex_move|apply ex_assign|apply ex_lss|apply ex_seql)<;>(exact eT rfl))|((apply ex_eql)<;>(first|exact eT rfl|exact eC))|(apply ex_addn<;>(first|exact eT rfl|exact eC|(constructor<;>omega)))))))
          refine ⟨(k + 1, r3, _), ⟨hlt, hr3, ?_, ?_⟩, by (show t.size - (k + 1) < t.size - k; omega), (by (repeat (first|exact ESub.nil|apply ESub.cons rfl))), rfl, (by (repeat (exact HKeep.refl)))⟩
          · show tx ((s.push 92).push c) = 34 :: ((tx t).take (k + 1)).flatMap escB
            rw [tx_push, tx_push, hs, htk, List.flatMap_append]; simp [hesc]
          · show ((s.push _).push _).size ≤ 2 * (k + 1) + 1
            rw [size_push, size_push]; omega
        · have hi : (c.toNat : Int) = 92 := by omega
          repeat (first|(apply sp_cond_t;(·exact eT rfl);(·(simp [*];done)))|(apply sp_cond_f;(·exact eT rfl);(·(simp [*];done)))|(apply spl_callR rfl;(·(repeat (first|exact eN|(apply eS;(·(first|exact eT rfl|exact eC))))));(·exact fun w' hh => writeByte_c0 (.inr rfl) hr (by omega) 92 hh);(intro r2 hr2))|(apply spl_callR rfl;(·(repeat (first|exact eN|(apply eS;(·exact eT rfl)))));(·exact fun w' hh => writeByte_c0 (.inr rfl) hr2 (by rw [size_push];omega) c hh);(intro r3 hr3))|apply then_n|apply block_n|apply sp_seq|apply sp_region|apply spl_nil|apply sp_skip|apply sp_block|((apply spl_pure rfl);(·(first|(apply ex_sindexE hlt hb';(·exact eT rfl);(·exact eT rfl))|((first|apply ex_move|apply ex_assign|apply ex_lss|apply ex_seql)<;>(exact eT rfl))|((apply ex_eql)<;>(first|exact eT rfl|exact eC))|(apply ex_addn<;>(first|exact eT rfl|exact eC|(constructor<;>omega)))))))
          refine ⟨(k + 1, r3, _), ⟨hlt, hr3, ?_, ?_⟩, by (show t.size - (k + 1) < t.size - k; omega), (by (repeat (first|exact ESub.nil|apply ESub.cons rfl))), rfl, (by (repeat (exact HKeep.refl)))⟩
          · show tx ((s.push 92).push c) = 34 :: ((tx t).take (k + 1)).flatMap escB
            rw [tx_push, tx_push, hs, htk, List.flatMap_append]; simp [hesc]
          · show ((s.push _).push _).size ≤ 2 * (k + 1) + 1
            rw [size_push, size_push]; omega
      · have hesc : escB c = [c] := by simp [escB, h10, h34]
        have hi10 : ¬ (c.toNat : Int) = 10 := by omega
        have hi34 : ¬ (c.toNat : Int) = 34 := by omega
        have hi92 : ¬ (c.toNat : Int) = 92 := by omega
        repeat (first|(apply sp_cond_t;(·exact eT rfl);(·(simp [*];done)))|(apply sp_cond_f;(·exact eT rfl);(·(simp [*];done)))|(apply spl_callR rfl;(·(repeat (first|exact eN|(apply eS;(·exact eT rfl)))));(·exact fun w' hh => writeByte_c0 (.inr rfl) hr (by omega) c hh);(intro r2 hr2))|apply then_n|apply block_n|apply sp_seq|apply sp_region|apply spl_nil|apply sp_skip|apply sp_block|((apply spl_pure rfl);(·(first|(apply ex_sindexE hlt hb';(·exact eT rfl);(·exact eT rfl))|((first|apply ex_move|apply ex_assign|apply ex_lss|apply ex_seql)<;>(exact eT rfl))|((apply ex_eql)<;>(first|exact eT rfl|exact eC))|(apply ex_addn<;>(first|exact eT rfl|exact eC|(constructor<;>omega)))))))
        refine ⟨(k + 1, r2, _), ⟨hlt, hr2, ?_, ?_⟩, by (show t.size - (k + 1) < t.size - k; omega), (by (repeat (first|exact ESub.nil|apply ESub.cons rfl))), rfl, (by (repeat (exact HKeep.refl)))⟩
        · show tx (s.push c) = 34 :: ((tx t).take (k + 1)).flatMap escB
          rw [tx_push, hs, htk, List.flatMap_append]; simp [hesc]
        · show (s.push _).size ≤ 2 * (k + 1) + 1
          rw [size_push]; omega
  · have hkt : (tx t).take k = tx t := List.take_of_length_le (by rw [hlen]; omega)
    rw [hkt] at hs
    repeat (first|(apply sp_cond_f;(·exact eT rfl);(·(simp [*];done)))|(apply spl_callR rfl;(·(repeat (first|exact eN|(apply eS;(·(first|exact eT rfl|exact eC))))));(·exact fun w' hh => writeByte_c0 (.inr rfl) hr (by omega) 34 hh);(intro r2 hr2))|(apply spl_callR rfl;(·(repeat (first|exact eN|(apply eS;(·exact eT rfl)))));(·exact fun w' hh => string_c0 hr2 (by rw [size_push];omega) hb hh);(rintro ⟨⟩ -))|apply then_n|apply sp_seq|apply sp_region|apply spl_nil|apply then_e|apply block_here|apply sp_ret|apply sp_exit|((apply spl_pure rfl);(·(((first|apply ex_assign|apply ex_lss)<;>(exact eT rfl))))))
    (apply ret_ok rfl;(·((apply Res.ofOne;((apply Res1.tmp;(·rfl)))))))
    congr 1
    apply tx_inj
    rw [tx_push, hs, tx_ofL]
    rfl
end Go.Proofs.Ytfdjlphfohnnnaa
/-
  Contracts: the lexer's unquoted.
-/
namespace Go.Proofs.Ytfdjlphfohnnnaa
open Go.RowKit Go.Sy
set_option linter.unusedVariables false
set_option linter.unusedSimpArgs false
def idx3 (d : UInt8) : Int := if d.toNat = 92 then 0 else if d.toNat = 34 then 1 else if d.toNat = 110 then 2 else -1
theorem firstIdx3 (d : UInt8) : firstIdx ⟨#[92, 34, 110]⟩ d = idx3 d := by
  have := all_bytes (p := fun d => decide (firstIdx ⟨#[92, 34, 110]⟩ d = idx3 d)) (by kernel_rfl) d
  simpa using this
def unqR (x : ByteArray) : ByteArray × Nat := match unqL ((tx x).drop 1) with | none => (⟨#[]⟩, 0) | some p => (ofL p.1, p.2 + 1)
attribute [local irreducible] Calls thenQ blockQ retQ Spc Spl Spq Ex Ev Evs Gd Upd ESub HKeep Res Res1 wlk effQ Rem SrcAt Split BH


theorem unqL_q {c : UInt8} {r : List UInt8} (h : c.toNat = 34) : unqL (c :: r) = some ([], 1) := by
  cases r <;> (unfold unqL; rw [if_pos h])
theorem unqL_nl {c : UInt8} {r : List UInt8} (h : ¬ c.toNat = 34) (h2 : c.toNat = 10) : unqL (c :: r) = none := by
  cases r <;> (unfold unqL; rw [if_neg h, if_pos h2])
theorem unqL_c {c : UInt8} {r : List UInt8} (h : ¬ c.toNat = 34) (h2 : ¬ c.toNat = 10) (h3 : ¬ c.toNat = 92) : unqL (c :: r) = (unqL r).map fun p => (c :: p.1, p.2 + 1) := by
  cases r
  · simp [unqL, h, h2, h3]
  · rw [unqL, if_neg h, if_neg h2, if_neg h3]
theorem unqL_esc {c d e : UInt8} {r : List UInt8} (h : c.toNat = 92) (he : escOf d = some e) : unqL (c :: d :: r) = (unqL r).map fun p => (e :: p.1, p.2 + 2) := by
  rw [unqL, if_neg (by omega), if_neg (by omega), if_pos h]
  simp only [he]
set_option maxRecDepth 100000 in
set_option maxHeartbeats 4000000 in
theorem unquoted_c {w : World} (t : ByteArray) (ht : t.size < 10000000) : Calls Try.prog 75 #[.string t] w (Ret w (.tuple #[.string (unqR t).1, .int .i64 ((unqR t).2 : Nat)])) := by
  refine sp_enter (vs := [_]) Try.func75 rfl Try.ntmps75 rfl ?_
  have hlen := tx_len t
  repeat (first|apply then_n|apply sp_seq|apply sp_region|apply spl_nil|apply sp_block|((apply spl_pure rfl);(·(((apply ex_assign)<;>(exact eC)))))|(apply spl_alloc rfl;intro _ _))
  rename_i b hb
  refine sp_loop (X := Nat × Option Addr × RowS × ByteArray) (fun x => [(5, true, .int .i64 (x.1 : Int)), (0, true, .string t), (4, true, .pointer (some ⟨b, 0, none⟩))]) (fun _ => w) (fun x => BH b x.2.1 x.2.2.1 x.2.2.2)
    (fun x => 1 ≤ x.1 ∧ x.1 ≤ t.size + 1 ∧ (x.2.1 = none ∨ x.2.1 = some ⟨b, 0, none⟩) ∧ BOk w x.2.2.1 x.2.2.2 ∧ (unqL ((tx t).drop 1) = (unqL ((tx t).drop x.1)).map fun p => (tx x.2.2.2 ++ p.1, p.2 + (x.1 - 1))) ∧ x.2.2.2.size ≤ x.1) (fun x => t.size + 1 - x.1) (1, none, RowS.start, ⟨#[]⟩) ⟨Nat.le_refl _, by (show 1 ≤ t.size + 1; omega), .inl rfl, BOk.start, ?_, Nat.zero_le _⟩ (by (repeat (first|exact ESub.nil|apply ESub.cons rfl))) rfl (by rw [← BH_start]; (repeat (exact HKeep.refl))) ?_
  · show unqL ((tx t).drop 1) = (unqL ((tx t).drop 1)).map fun p => (([] : List UInt8) ++ p.1, p.2 + 0)
    cases unqL ((tx t).drop 1) <;> rfl
  rintro ⟨k, p, r, s⟩ ⟨hk1, hk, hp, hr, hi, hsz⟩
  replace hk1 : 1 ≤ k := hk1
  replace hk : k ≤ t.size + 1 := hk
  replace hsz : s.size ≤ k := hsz
  replace hp : p = none ∨ p = some ⟨b, 0, none⟩ := hp
  replace hr : BOk w r s := hr
  replace hi : unqL ((tx t).drop 1) = (unqL ((tx t).drop k)).map fun p => (tx s ++ p.1, p.2 + (k - 1)) := hi
  dsimp only
  by_cases hlt : k < t.size
  · obtain ⟨c, hb', hd⟩ := drop_at hlt
    by_cases h34 : c.toNat = 34
    · have hi34 : (c.toNat : Int) = 34 := by omega
      have hu : unqR t = (s, k + 1) := by
        unfold unqR
        rw [hi, hd, unqL_q h34]
        simp only [Option.map_some, List.append_nil]
        rw [ofL_tx, show 1 + (k - 1) + 1 = k + 1 by omega]
      repeat (first|(apply sp_cond_t;(·exact eT rfl);(·(simp [*];done)))|(apply spl_callR rfl;(·(repeat (first|exact eN|(apply eS;(·exact eT rfl)))));(·exact fun w' hh => string_c0 hr (by omega) hb hh);(rintro ⟨⟩ -))|apply then_n|apply sp_seq|apply sp_region|apply spl_nil|apply then_r|apply block_r|apply sp_skip|apply sp_ret|apply sp_block|((apply spl_pure rfl);(·(first|(apply ex_sindexE hlt hb';(·exact eT rfl);(·exact eT rfl))|((first|apply ex_move|apply ex_assign|apply ex_lss|apply ex_seql)<;>(exact eT rfl))|((first|apply ex_eql|apply ex_slen)<;>(first|exact eT rfl|exact eC))|(apply ex_addn<;>(first|exact eT rfl|exact eC|(constructor<;>omega)))))))
      (apply ret_ok rfl;(·((apply Res.ofTwo<;>((apply Res1.tmp;(·rfl)))))))
      rw [hu]
      rfl
    · have hi34 : ¬ (c.toNat : Int) = 34 := by omega
      by_cases h10 : c.toNat = 10
      · have hi10 : (c.toNat : Int) = 10 := by omega
        have hu : unqR t = (⟨#[]⟩, 0) := by
          unfold unqR
          rw [hi, hd, unqL_nl h34 h10]
          rfl
        repeat (first|(apply sp_cond_t;(·exact eT rfl);(·(simp [*];done)))|(apply sp_cond_f;(·exact eT rfl);(·(simp [*];done)))|apply then_n|apply sp_seq|apply sp_region|apply spl_nil|apply then_r|apply block_r|apply sp_skip|apply sp_ret|apply sp_block|((apply spl_pure rfl);(·(first|(apply ex_sindexE hlt hb';(·exact eT rfl);(·exact eT rfl))|((first|apply ex_move|apply ex_assign|apply ex_lss|apply ex_seql)<;>(first|exact eT rfl|exact eC))|((first|apply ex_eql|apply ex_slen)<;>(first|exact eT rfl|exact eC))))))
        (apply ret_ok rfl;(·((apply Res.ofTwo<;>((apply Res1.tmp;(·rfl)))))))
        rw [hu]
        rfl
      · have hi10 : ¬ (c.toNat : Int) = 10 := by omega
        by_cases h92 : c.toNat = 92
        · have hi92 : (c.toNat : Int) = 92 := by omega
          by_cases hlt2 : k + 1 < t.size
          · obtain ⟨d, hb2, hd2⟩ := drop_at hlt2
            have hi3 : ∀ (w' : World) (n : Nat), idx3 d = (n : Int) → Calls Try.prog 85 #[.string ⟨#[92, 34, 110]⟩, .int .u8 (d.toNat : Int)] w' (Ret w' (.int .i64 ((n : Nat) : Int))) := fun w' n hn => by
              rw [← hn, ← firstIdx3]
              exact indexByte_c _ d
            by_cases hd92 : d.toNat = 92
            · have hdd := hd92
              have hi3 := fun w' n (h : n = 0) => hi3 w' n (by simp [idx3, hdd, h])
              have hix := fun w' => (hi3 w' 0 rfl : Calls Try.prog 85 #[.string ⟨#[92, 34, 110]⟩, .int .u8 (d.toNat : Int)] w' (Ret w' (.int .i64 ((0 : Nat) : Int))))
              repeat (first|(apply sp_cond_t;(·exact eT rfl);(·(first|(simp [*];done)|(simp;omega))))|(apply sp_cond_f;(·exact eT rfl);(·(first|(simp;done)|(simp [*];done))))|(apply spl_callp rfl;(·(repeat (first|exact eN|(apply eS;(·(first|exact eT rfl|exact eC))))));(·exact fun w' hh => hix w'))|(apply spl_callR rfl;(·(repeat (first|exact eN|(apply eS;(·exact eT rfl)))));(·exact fun w' hh => writeByte_c0 hp hr (by omega) 92 hh);(intro r2 hr2))|apply then_n|apply block_n|apply sp_seq|apply sp_region|apply spl_nil|apply sp_skip|apply sp_block|((apply spl_pure rfl);(·(first|(apply ex_sindexE hlt hb';(·exact eT rfl);(·exact eT rfl))|(apply ex_sindexE hlt2 hb2;(·exact eT rfl);(·exact eT rfl))|(apply ex_sindexE (s:=⟨#[92, 34, 10]⟩) (i:=0) (b:=92) (by decide) rfl;(·exact eC);(·exact eT rfl))|((first|apply ex_move|apply ex_assign|apply ex_lss|apply ex_seql)<;>(first|exact eT rfl|exact eC))|((first|apply ex_eql|apply ex_slen)<;>(first|exact eT rfl|exact eC))|(apply ex_addn<;>(first|exact eT rfl|exact eC|(constructor<;>omega)))))))
              refine ⟨(k + 2, some ⟨b, 0, none⟩, r2, s.push 92), ⟨by (show 1 ≤ k + 2; omega), by (show k + 2 ≤ t.size + 1; omega), .inr rfl, hr2, ?_, ?_⟩, by (show t.size + 1 - (k + 2) < t.size + 1 - k; omega), (by (repeat (first|exact ESub.nil|apply ESub.cons rfl))), rfl, (by (repeat (exact HKeep.refl)))⟩
              · show unqL ((tx t).drop 1) = (unqL ((tx t).drop (k + 2))).map fun p => (tx (s.push 92) ++ p.1, p.2 + (k + 2 - 1))
                rw [hi, hd, hd2]
                rw [unqL_esc h92 (e := 92) (by simp [escOf, hdd]), Option.map_map]
                congr 1
                funext p
                simp only [Function.comp, tx_push, List.append_assoc, List.singleton_append]
                rw [show p.2 + 2 + (k - 1) = p.2 + (k + 2 - 1) by omega]
              · show (s.push 92).size ≤ k + 2
                rw [size_push]; omega
            · by_cases hd34 : d.toNat = 34
              · have hdd := hd34
                have hi3 := fun w' n (h : n = 1) => hi3 w' n (by simp [idx3, hdd, h])
                have hix := fun w' => (hi3 w' 1 rfl : Calls Try.prog 85 #[.string ⟨#[92, 34, 110]⟩, .int .u8 (d.toNat : Int)] w' (Ret w' (.int .i64 ((1 : Nat) : Int))))
                repeat (first|(apply sp_cond_t;(·exact eT rfl);(·(first|(simp [*];done)|(simp;omega))))|(apply sp_cond_f;(·exact eT rfl);(·(first|(simp;done)|(simp [*];done))))|(apply spl_callp rfl;(·(repeat (first|exact eN|(apply eS;(·(first|exact eT rfl|exact eC))))));(·exact fun w' hh => hix w'))|(apply spl_callR rfl;(·(repeat (first|exact eN|(apply eS;(·exact eT rfl)))));(·exact fun w' hh => writeByte_c0 hp hr (by omega) 34 hh);(intro r2 hr2))|apply then_n|apply block_n|apply sp_seq|apply sp_region|apply spl_nil|apply sp_skip|apply sp_block|((apply spl_pure rfl);(·(first|(apply ex_sindexE hlt hb';(·exact eT rfl);(·exact eT rfl))|(apply ex_sindexE hlt2 hb2;(·exact eT rfl);(·exact eT rfl))|(apply ex_sindexE (s:=⟨#[92, 34, 10]⟩) (i:=1) (b:=34) (by decide) rfl;(·exact eC);(·exact eT rfl))|((first|apply ex_move|apply ex_assign|apply ex_lss|apply ex_seql)<;>(first|exact eT rfl|exact eC))|((first|apply ex_eql|apply ex_slen)<;>(first|exact eT rfl|exact eC))|(apply ex_addn<;>(first|exact eT rfl|exact eC|(constructor<;>omega)))))))
                refine ⟨(k + 2, some ⟨b, 0, none⟩, r2, s.push 34), ⟨by (show 1 ≤ k + 2; omega), by (show k + 2 ≤ t.size + 1; omega), .inr rfl, hr2, ?_, ?_⟩, by (show t.size + 1 - (k + 2) < t.size + 1 - k; omega), (by (repeat (first|exact ESub.nil|apply ESub.cons rfl))), rfl, (by (repeat (exact HKeep.refl)))⟩
                · show unqL ((tx t).drop 1) = (unqL ((tx t).drop (k + 2))).map fun p => (tx (s.push 34) ++ p.1, p.2 + (k + 2 - 1))
                  rw [hi, hd, hd2]
                  rw [unqL_esc h92 (e := 34) (by simp [escOf, hdd]), Option.map_map]
                  congr 1
                  funext p
                  simp only [Function.comp, tx_push, List.append_assoc, List.singleton_append]
                  rw [show p.2 + 2 + (k - 1) = p.2 + (k + 2 - 1) by omega]
                · show (s.push 34).size ≤ k + 2
                  rw [size_push]; omega
              · by_cases hd110 : d.toNat = 110
                · have hdd := hd110
                  have hi3 := fun w' n (h : n = 2) => hi3 w' n (by simp [idx3, hdd, h])
                  have hix := fun w' => (hi3 w' 2 rfl : Calls Try.prog 85 #[.string ⟨#[92, 34, 110]⟩, .int .u8 (d.toNat : Int)] w' (Ret w' (.int .i64 ((2 : Nat) : Int))))
                  repeat (first|(apply sp_cond_t;(·exact eT rfl);(·(first|(simp [*];done)|(simp;omega))))|(apply sp_cond_f;(·exact eT rfl);(·(first|(simp;done)|(simp [*];done))))|(apply spl_callp rfl;(·(repeat (first|exact eN|(apply eS;(·(first|exact eT rfl|exact eC))))));(·exact fun w' hh => hix w'))|(apply spl_callR rfl;(·(repeat (first|exact eN|(apply eS;(·exact eT rfl)))));(·exact fun w' hh => writeByte_c0 hp hr (by omega) 10 hh);(intro r2 hr2))|apply then_n|apply block_n|apply sp_seq|apply sp_region|apply spl_nil|apply sp_skip|apply sp_block|((apply spl_pure rfl);(·(first|(apply ex_sindexE hlt hb';(·exact eT rfl);(·exact eT rfl))|(apply ex_sindexE hlt2 hb2;(·exact eT rfl);(·exact eT rfl))|(apply ex_sindexE (s:=⟨#[92, 34, 10]⟩) (i:=2) (b:=10) (by decide) rfl;(·exact eC);(·exact eT rfl))|((first|apply ex_move|apply ex_assign|apply ex_lss|apply ex_seql)<;>(first|exact eT rfl|exact eC))|((first|apply ex_eql|apply ex_slen)<;>(first|exact eT rfl|exact eC))|(apply ex_addn<;>(first|exact eT rfl|exact eC|(constructor<;>omega)))))))
                  refine ⟨(k + 2, some ⟨b, 0, none⟩, r2, s.push 10), ⟨by (show 1 ≤ k + 2; omega), by (show k + 2 ≤ t.size + 1; omega), .inr rfl, hr2, ?_, ?_⟩, by (show t.size + 1 - (k + 2) < t.size + 1 - k; omega), (by (repeat (first|exact ESub.nil|apply ESub.cons rfl))), rfl, (by (repeat (exact HKeep.refl)))⟩
                  · show unqL ((tx t).drop 1) = (unqL ((tx t).drop (k + 2))).map fun p => (tx (s.push 10) ++ p.1, p.2 + (k + 2 - 1))
                    rw [hi, hd, hd2]
                    rw [unqL_esc h92 (e := 10) (by simp [escOf, hdd]), Option.map_map]
                    congr 1
                    funext p
                    simp only [Function.comp, tx_push, List.append_assoc, List.singleton_append]
                    rw [show p.2 + 2 + (k - 1) = p.2 + (k + 2 - 1) by omega]
                  · show (s.push 10).size ≤ k + 2
                    rw [size_push]; omega
                · have hu : unqR t = (⟨#[]⟩, 0) := by
                    unfold unqR
                    rw [hi, hd, hd2, unqL, if_neg h34, if_neg h10, if_pos h92]
                    simp only [escOf, hd92, hd34, hd110, if_false, Option.map_none]
                  have hix : ∀ w', Calls Try.prog 85 #[.string ⟨#[92, 34, 110]⟩, .int .u8 (d.toNat : Int)] w' (Ret w' (.int .i64 (-1))) := fun w' => by
                    have := indexByte_c (w := w') ⟨#[92, 34, 110]⟩ d
                    rw [firstIdx3] at this
                    simpa [idx3, hd92, hd34, hd110] using this
                  repeat (first|(apply sp_cond_t;(·exact eT rfl);(·(first|(simp;done)|(simp [*];done)|(simp;omega))))|(apply sp_cond_f;(·exact eT rfl);(·(simp [*];done)))|(apply spl_callp rfl;(·(repeat (first|exact eN|(apply eS;(·(first|exact eT rfl|exact eC))))));(·exact fun w' hh => hix w'))|apply then_n|apply sp_seq|apply sp_region|apply spl_nil|apply then_r|apply block_r|apply sp_skip|apply sp_ret|apply sp_block|((apply spl_pure rfl);(·(first|(apply ex_sindexE hlt hb';(·exact eT rfl);(·exact eT rfl))|(apply ex_sindexE hlt2 hb2;(·exact eT rfl);(·exact eT rfl))|((first|apply ex_move|apply ex_assign|apply ex_lss|apply ex_seql)<;>(first|exact eT rfl|exact eC))|((first|apply ex_eql|apply ex_slen)<;>(first|exact eT rfl|exact eC))|(apply ex_addn<;>(first|exact eT rfl|exact eC|(constructor<;>omega)))))))
                  (apply ret_ok rfl;(·((apply Res.ofTwo<;>((apply Res1.tmp;(·rfl)))))))
                  rw [hu]
                  rfl
          · have hd2 : (tx t).drop (k + 1) = [] := drop_end (by omega)
            have hu : unqR t = (⟨#[]⟩, 0) := by
              unfold unqR
              rw [hi, hd, hd2, unqL, if_neg h34, if_neg h10, if_pos h92]
              rfl
            repeat (first|(apply sp_cond_t;(·exact eT rfl);(·(first|(simp;done)|(simp [*];done))))|(apply sp_cond_f;(·exact eT rfl);(·(first|(simp [*];done)|(simp;omega))))|apply then_n|apply sp_seq|apply sp_region|apply spl_nil|apply then_r|apply block_r|apply sp_skip|apply sp_ret|apply sp_block|((apply spl_pure rfl);(·(first|(apply ex_sindexE hlt hb';(·exact eT rfl);(·exact eT rfl))|((first|apply ex_move|apply ex_assign|apply ex_lss|apply ex_seql)<;>(first|exact eT rfl|exact eC))|((first|apply ex_eql|apply ex_slen)<;>(first|exact eT rfl|exact eC))|(apply ex_addn<;>(first|exact eT rfl|exact eC|(constructor<;>omega)))))))
            (apply ret_ok rfl;(·((apply Res.ofTwo<;>((apply Res1.tmp;(·rfl)))))))
            rw [hu]
            rfl
        · have hi92 : ¬ (c.toNat : Int) = 92 := by omega
          repeat (first|(apply sp_cond_t;(·exact eT rfl);(·(simp [*];done)))|(apply sp_cond_f;(·exact eT rfl);(·(simp [*];done)))|(apply spl_callR rfl;(·(repeat (first|exact eN|(apply eS;(·exact eT rfl)))));(·exact fun w' hh => writeByte_c0 hp hr (by omega) c hh);(intro r2 hr2))|apply then_n|apply block_n|apply sp_seq|apply sp_region|apply spl_nil|apply sp_skip|apply sp_block|((apply spl_pure rfl);(·(first|(apply ex_sindexE hlt hb';(·exact eT rfl);(·exact eT rfl))|((first|apply ex_move|apply ex_assign|apply ex_lss|apply ex_seql)<;>(exact eT rfl))|((first|apply ex_eql|apply ex_slen)<;>(first|exact eT rfl|exact eC))|(apply ex_addn<;>(first|exact eT rfl|exact eC|(constructor<;>omega)))))))
          refine ⟨(k + 1, some ⟨b, 0, none⟩, r2, s.push c), ⟨by (show 1 ≤ k + 1; omega), by (show k + 1 ≤ t.size + 1; omega), .inr rfl, hr2, ?_, ?_⟩, by (show t.size + 1 - (k + 1) < t.size + 1 - k; omega), (by (repeat (first|exact ESub.nil|apply ESub.cons rfl))), rfl, (by (repeat (exact HKeep.refl)))⟩
          · show unqL ((tx t).drop 1) = (unqL ((tx t).drop (k + 1))).map fun p => (tx (s.push c) ++ p.1, p.2 + (k + 1 - 1))
            rw [hi, hd, unqL_c h34 h10 h92, Option.map_map]
            congr 1
            funext p
            simp only [Function.comp, tx_push, List.append_assoc, List.singleton_append]
            rw [show p.2 + 1 + (k - 1) = p.2 + (k + 1 - 1) by omega]
          · show (s.push c).size ≤ k + 1
            rw [size_push]; omega
  · have hu : unqR t = (⟨#[]⟩, 0) := by
      unfold unqR
      rw [hi, drop_end (by omega)]
      rfl
    repeat (first|(apply sp_cond_f;(·exact eT rfl);(·(simp [*];done)))|apply then_n|apply sp_seq|apply sp_region|apply spl_nil|apply then_e|apply block_here|apply sp_ret|apply sp_exit|((apply spl_pure rfl);(·(first|((first|apply ex_move|apply ex_assign|apply ex_lss)<;>(first|exact eT rfl|exact eC))|((apply ex_slen)<;>(exact eT rfl))))))
    (apply ret_ok rfl;(·((apply Res.ofTwo<;>((apply Res1.tmp;(·rfl)))))))
    rw [hu]
    rfl
end Go.Proofs.Ytfdjlphfohnnnaa
