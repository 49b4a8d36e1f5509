/-
  Texts and tokens in plain terms.
-/
import Derived.Test.YtffbhbinnjpgnaaSm
namespace Go.Proofs.Ytffbhbinnjpgnaa
open Go.RowKit Go.Sy
set_option linter.unusedVariables false
set_option linter.unusedSimpArgs false

def isLetter (c : UInt8) : Bool := (decide ((97 : Int) ≤ c.toNat) && decide ((c.toNat : Int) ≤ 122)) || (decide ((65 : Int) ≤ c.toNat) && decide ((c.toNat : Int) ≤ 90))
def isDigit (c : UInt8) : Bool := decide ((48 : Int) ≤ c.toNat) && decide ((c.toNat : Int) ≤ 57)
def isWord (c : UInt8) : Bool := (isLetter c || isDigit c) || decide ((c.toNat : Int) = 95)
def blanks : ByteArray := ⟨#[32, 9, 10]⟩
def symbols : ByteArray := ⟨#[59, 44, 46, 58, 40, 41, 123, 125, 91, 93, 61, 60, 62, 47, 43, 45, 42]⟩
def hasB (s : ByteArray) (c : UInt8) : Bool := s.data.toList.any fun x => decide ((x.toNat : Int) = c.toNat)
def isBlank (c : UInt8) : Bool := hasB blanks c
def isSym (c : UInt8) : Bool := hasB symbols c
theorem isBlank_iff (c : UInt8) : isBlank c = true ↔ c.toNat = 32 ∨ c.toNat = 9 ∨ c.toNat = 10 := by
  simp [isBlank, hasB, blanks]; omega
/-- What is behind the gaps; within a comment or not. -/
def skipM : Bool → List UInt8 → List UInt8
  | _, [] => []
  | true, c :: r => if c.toNat = 10 then skipM false r else skipM true r
  | false, c :: r => if isBlank c then skipM false r else if c.toNat = 35 then skipM true r else c :: r
theorem skipM_le : ∀ (b : Bool) (l : List UInt8), (skipM b l).length ≤ l.length
  | _, [] => Nat.le_refl _
  | true, c :: r => by
    simp only [skipM]
    split
    · exact Nat.le_trans (skipM_le false r) (Nat.le_succ _)
    · exact Nat.le_trans (skipM_le true r) (Nat.le_succ _)
  | false, c :: r => by
    simp only [skipM]
    split
    · exact Nat.le_trans (skipM_le false r) (Nat.le_succ _)
    · split
      · exact Nat.le_trans (skipM_le true r) (Nat.le_succ _)
      · exact Nat.le_refl _
theorem skip_nl (l : List UInt8) (h : l = [] ∨ ∃ c r, l = c :: r ∧ c.toNat = 10) : skipM true l = skipM false l := by
  rcases h with rfl | ⟨c, r, rfl, hc⟩
  · rfl
  · have : isBlank c = true := (isBlank_iff c).2 (.inr (.inr hc))
    simp [skipM, hc, this]
def tx (t : ByteArray) : List UInt8 := t.data.toList
theorem tx_len (t : ByteArray) : (tx t).length = t.size := by simp [tx]
def gapEnd (t : ByteArray) (i : Nat) : Nat := t.size - (skipM false ((tx t).drop i)).length
theorem drop_at {t : ByteArray} {i : Nat} (h : i < t.size) : ∃ (c : UInt8) (hc : t[i] = c), (tx t).drop i = c :: (tx t).drop (i + 1) := by
  have hl : i < (tx t).length := by rw [tx_len]; exact h
  refine ⟨t[i], rfl, ?_⟩
  rw [← List.getElem_cons_drop hl]
  congr 1
theorem drop_end {t : ByteArray} {i : Nat} (h : t.size ≤ i) : (tx t).drop i = [] := List.drop_eq_nil_of_le (by rw [tx_len]; exact h)
/-- A name. -/
def nameL (l : List UInt8) : Bool := match l with | [] => false | c :: _ => isLetter c && l.all isWord && decide (l.length ≤ 24)
end Go.Proofs.Ytffbhbinnjpgnaa
