/-
  The laws about the disk: what their walks share.
-/
import Derived.Test.YtmlodiiijicghaaDq
namespace Go.Proofs.Ytmlodiiijicghaa
open Go.RowKit Go.Sy
set_option linter.unusedVariables false
set_option linter.unusedSimpArgs false
attribute [local irreducible] Calls thenQ blockQ retQ Spc Spl Spq Ex Ev Evs Gd Upd ESub HKeep Res Res1 wlk effQ Rem SrcAt Split DH

theorem okP_len {l : List ActR} (h : okP l = true) : l.length ≤ 60 := by unfold okP at h; simp only [Bool.and_eq_true, decide_eq_true_eq] at h; exact h.2
theorem okP_text {l : List ActR} (h : okP l = true) : ∀ x ∈ l, x.text.size ≤ 100 := by
  unfold okP at h
  simp only [Bool.and_eq_true] at h
  intro x hx
  exact of_decide_eq_true (List.all_eq_true.1 h.1 x hx)
theorem ok_t {w : World} {A : Option Addr} {n c : Nat} {l : List ActR} {b : Bool} (h : RdS w w.heap.size 6 ActR.cells A n l) (ho : okP l = b) :
    Calls Try.prog 12 #[.slice A n c] w (Ret w (.bool b)) := by
  have := ok_c (c := c) h
  rw [ho] at this; exact this
/-- The numbers of an operation are small. -/
def Fits (l : List ActR) : Prop := ∀ x ∈ l, x.after < 9223372036854775808
/-- Which sectors were written. -/
def wl (N : Nat) (ps : List (Nat × ByteArray)) : List Value := (List.range N).map fun i => .bool (ps.any fun p => decide (p.1 = i))
theorem wl_len (N : Nat) (ps : List (Nat × ByteArray)) : (wl N ps).length = N := by simp [wl]
theorem wl_nil (N : Nat) : wl N [] = List.replicate N (.bool false) := by
  rw [List.eq_replicate_iff]
  exact ⟨wl_len _ _, fun b hb => by obtain ⟨i, _, rfl⟩ := List.mem_map.1 hb; rfl⟩
theorem wl_get {N : Nat} {ps : List (Nat × ByteArray)} {i : Nat} (h : i < N) : (wl N ps).toArray[0 + i * 1]? = some (.bool (ps.any fun p => decide (p.1 = i))) := by simp [wl, h]
theorem wl_push (N : Nat) (ps : List (Nat × ByteArray)) (p : Nat × ByteArray) : (wl N (ps ++ [p])).toArray = (wl N ps).toArray.setIfInBounds (0 + p.1 * 1) (.bool true) := by
  apply Array.ext'
  simp only [Array.toList_setIfInBounds]
  apply List.ext_getElem?
  intro i
  by_cases hi : i < N
  · rw [List.getElem?_set]
    by_cases hp : p.1 = i
    · subst hp; simp [wl, hi]
    · simp [wl, hi, hp]
  · rw [List.getElem?_eq_none (by rw [wl_len]; omega), List.getElem?_eq_none (by rw [List.length_set, wl_len]; omega)]
theorem row_get {xs : List ByteArray} {t : List Value} {i : Nat} {s : ByteArray} (h : xs[i]? = some s) : ((xs.flatMap fun s => (strC s).toList) ++ t).toArray[0 + i * 1]? = some (.string s) := by
  have := flatMap_get (f := fun s => (strC s).toList) (sz := 1) xs (fun _ _ => rfl) i s h 0 (.string s) rfl
  simp only [List.getElem?_toArray, Nat.zero_add]
  rw [Nat.add_zero] at this
  rw [List.getElem?_append_left (List.getElem?_eq_some_iff.1 this).1]
  exact this
theorem all_get (S : St) {n i : Nat} (h : i < n) : (S.all n)[i]? = some (S.cur i) := by simp [St.all, h]
theorem len_start (S : St) : S.start.st.length = S.st.length := rfl
theorem len_more (S : St) (ps : List (Nat × ByteArray)) : (S.more ps).st.length = S.st.length := rfl
end Go.Proofs.Ytmlodiiijicghaa
