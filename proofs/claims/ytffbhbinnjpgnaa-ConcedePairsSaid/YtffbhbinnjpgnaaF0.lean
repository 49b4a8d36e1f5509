/-
  Valid states in plain terms: names in order, hosts, seats.
-/
import Derived.Test.YtffbhbinnjpgnaaC6
namespace Go.Proofs.Ytffbhbinnjpgnaa
open Go.RowKit Go.Sy
set_option linter.unusedVariables false
set_option linter.unusedSimpArgs false
theorem bless_irr : ∀ x : List UInt8, Op.bytesLess x x = false
  | [] => rfl
  | a :: x => by simp [Op.bytesLess, bless_irr x]
theorem bless_trans : ∀ x y z : List UInt8, Op.bytesLess x y = true → Op.bytesLess y z = true → Op.bytesLess x z = true
  | _, [], z, h, _ => by cases ‹List UInt8› <;> simp [Op.bytesLess] at h
  | _, _ :: _, [], _, h => by simp [Op.bytesLess] at h
  | [], _ :: _, _ :: _, _, _ => rfl
  | a :: x, b :: y, c :: z, h1, h2 => by
    simp only [Op.bytesLess, Bool.or_eq_true, Bool.and_eq_true, decide_eq_true_iff, beq_iff_eq] at h1 h2 ⊢
    rcases h1 with h1 | ⟨rfl, h1⟩
    · rcases h2 with h2 | ⟨rfl, h2⟩
      · exact .inl (UInt8.lt_trans h1 h2)
      · exact .inl h1
    · rcases h2 with h2 | ⟨rfl, h2⟩
      · exact .inl h2
      · exact .inr ⟨rfl, bless_trans x y z h1 h2⟩
def incr (l : List ByteArray) : Prop := ∀ i a b, l[i]? = some a → l[i + 1]? = some b → sless a b = true
theorem incr_lt {l : List ByteArray} (h : incr l) : ∀ (d i : Nat) (a b : ByteArray), l[i]? = some a → l[i + (d + 1)]? = some b → sless a b = true
  | 0, i, a, b, ha, hb => h i a b ha hb
  | d + 1, i, a, b, ha, hb => by
    have hlt : i + (d + 1) < l.length := by have := (List.getElem?_eq_some_iff.1 hb).1; omega
    have hm : l[i + (d + 1)]? = some l[i + (d + 1)] := List.getElem?_eq_getElem hlt
    exact bless_trans _ _ _ (incr_lt h d i a _ ha hm) (h (i + (d + 1)) _ b hm (by rw [← hb]; congr 1))
theorem incr_dist {l : List ByteArray} (h : incr l) {i j : Nat} {a : ByteArray} (hi : l[i]? = some a) (hj : l[j]? = some a) : i = j := by
  have key : ∀ i j : Nat, i < j → l[i]? = some a → l[j]? = some a → False := by
    intro i j hij hi hj
    obtain ⟨d, rfl⟩ : ∃ d, j = i + (d + 1) := ⟨j - i - 1, by omega⟩
    have := incr_lt h d i a a hi hj
    unfold sless at this
    rw [bless_irr] at this
    cases this
  rcases Nat.lt_trichotomy i j with h1 | h1 | h1
  · exact (key i j h1 hi hj).elim
  · exact h1
  · exact (key j i h1 hj hi).elim
/-- What a valid state has. -/
structure FleetOk (ps : List Part) : Prop where
  dist : ∀ (i j : Nat) (x y : Part), ps[i]? = some x → ps[j]? = some y → x.name = y.name → i = j
  name : ∀ x ∈ ps, x.name ≠ emp
  both : ∀ x ∈ ps, x.into = emp ↔ x.slot = emp
  host : ∀ x ∈ ps, x.into ≠ emp → (findP ps x.into).isSome = true
  seat : ∀ (i j : Nat) (x y : Part), ps[i]? = some x → ps[j]? = some y → x.into ≠ emp → x.into = y.into → x.slot = y.slot → i = j
theorem FleetOk.find {ps : List Part} (h : FleetOk ps) {x : Part} (hx : x ∈ ps) : findP ps x.name = some x := by
  obtain ⟨i, hi, he⟩ := List.mem_iff_getElem.1 hx
  have hix : ps[i]? = some x := by rw [← he]; exact List.getElem?_eq_getElem hi
  cases hf : findP ps x.name with
  | none =>
    have := List.find?_eq_none.1 hf x hx
    simp at this
  | some y =>
    have hy : y.name = x.name := by have := List.find?_some hf; simpa using this
    obtain ⟨j, hj, hej⟩ := List.mem_iff_getElem.1 (List.mem_of_find?_eq_some hf)
    have hjy : ps[j]? = some y := by rw [← hej]; exact List.getElem?_eq_getElem hj
    have := h.dist j i y x hjy hix hy
    subst this
    rw [hix] at hjy
    exact hjy.symm
theorem findP_name {ps : List Part} {s : ByteArray} {x : Part} (h : findP ps s = some x) : x.name = s ∧ x ∈ ps := by
  unfold findP at h
  exact ⟨by have h' := List.find?_some h; simpa using h', List.mem_of_find?_eq_some h⟩
/-- The state in which the part is permitted. -/
theorem perm_find {ks : List KindR} {subs : List SubR} {ps : List Part} {x : Part} {day : Int} (h : FleetOk ps) (hx : x ∈ ps) :
    permB ks subs ps x.name day = (if x.into = emp then true else match findP ps x.into with | none => false | some host => normalB ks host.kind x.slot x.kind || subs.any (subB ps host.kind x.into x.slot x.kind day)) := by
  unfold permB
  rw [h.find hx]
  rfl
end Go.Proofs.Ytffbhbinnjpgnaa
