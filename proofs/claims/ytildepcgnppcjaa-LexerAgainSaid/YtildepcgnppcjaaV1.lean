/-
  The laws on tokens, in plain terms: counts, places, shifts, beginnings.
-/
import Derived.Test.YtildepcgnppcjaaTq
namespace Go.Proofs.Ytildepcgnppcjaa
set_option linter.unusedVariables false
set_option linter.unusedSimpArgs false

/-- What stands behind the gaps is an end of the list. -/
theorem skipM_suffix : ∀ (b : Bool) (l : List UInt8), ∃ g, l = g ++ skipM b l
  | b, [] => ⟨[], by cases b <;> rfl⟩
  | true, c :: r => by
    simp only [skipM]
    split
    · obtain ⟨g, hg⟩ := skipM_suffix false r; exact ⟨c :: g, by rw [List.cons_append, ← hg]⟩
    · obtain ⟨g, hg⟩ := skipM_suffix true r; exact ⟨c :: g, by rw [List.cons_append, ← hg]⟩
  | false, c :: r => by
    simp only [skipM]
    split
    · obtain ⟨g, hg⟩ := skipM_suffix false r; exact ⟨c :: g, by rw [List.cons_append, ← hg]⟩
    · split
      · obtain ⟨g, hg⟩ := skipM_suffix true r; exact ⟨c :: g, by rw [List.cons_append, ← hg]⟩
      · exact ⟨[], rfl⟩
/-- It begins with no gap. -/
theorem skipM_head : ∀ (b : Bool) (l : List UInt8) (c : UInt8) (r : List UInt8), skipM b l = c :: r → isBlank c = false ∧ ¬ c.toNat = 35
  | b, [], c, r, h => by cases b <;> simp [skipM] at h
  | true, x :: s, c, r, h => by
    simp only [skipM] at h
    split at h
    · exact skipM_head false s c r h
    · exact skipM_head true s c r h
  | false, x :: s, c, r, h => by
    simp only [skipM] at h
    split at h
    · exact skipM_head false s c r h
    · rename_i hb
      split at h
      · exact skipM_head true s c r h
      · rename_i h35
        cases h
        exact ⟨by simpa using hb, h35⟩
theorem skipM_idem {l : List UInt8} {c : UInt8} {r : List UInt8} (h : skipM false l = c :: r) : skipM false (c :: r) = c :: r := by
  obtain ⟨h1, h2⟩ := skipM_head _ _ _ _ h
  exact skipM_cons h1 h2
/-- The ways in which a list has tokens. -/
theorem lexN_ind {P : List UInt8 → Nat → Prop} (h0 : ∀ l a, skipM false l = [] → P l a) (h1 : ∀ l a c r e, skipM false l = c :: r → tokC c r = .err e → P l a)
    (h2 : ∀ l a c r k s n, skipM false l = c :: r → tokC c r = .tok k s n → P ((c :: r).drop n) (a + (l.length - (c :: r).length) + n) → P l a) : ∀ (m : Nat) (l : List UInt8) (a : Nat), l.length ≤ m → P l a
  | 0, l, a, hm => h0 l a (by have := skipM_le false l; cases l with | nil => rfl | cons => simp at hm)
  | m + 1, l, a, hm => by
    cases hs : skipM false l with
    | nil => exact h0 l a hs
    | cons c r =>
      cases ht : tokC c r with
      | err e => exact h1 l a c r e hs ht
      | tok k s n =>
        obtain ⟨h3, h4⟩ := tokL_len c r k s n ht
        have hle := skipM_le false l
        rw [hs] at hle
        exact h2 l a c r k s n hs ht (lexN_ind h0 h1 h2 m _ _ (by rw [List.length_drop]; omega))
theorem lexN_count (l : List UInt8) (a : Nat) : (lexN l a).1.length ≤ l.length := by
  refine lexN_ind (P := fun l a => (lexN l a).1.length ≤ l.length) (fun l a h => ?_) (fun l a c r e hs ht => ?_) (fun l a c r k s n hs ht ih => ?_) l.length l a (Nat.le_refl _)
  · rw [lexN_nil h]; exact Nat.zero_le _
  · rw [lexN_err hs ht]; exact Nat.zero_le _
  · obtain ⟨h3, h4⟩ := tokL_len c r k s n ht
    have hle := skipM_le false l
    rw [hs] at hle
    rw [lexN_tok hs ht]
    rw [List.length_drop] at ih
    simp only [List.length_cons] at *
    omega
theorem tokC_err {c : UInt8} {r : List UInt8} {e : Nat} (h : tokC c r = .err e) : e ≠ 0 := by
  unfold tokC at h
  split at h
  · split at h <;> cases h; decide
  · split at h
    · split at h <;> cases h; decide
    · split at h
      · split at h <;> cases h; decide
      · split at h <;> cases h; decide
theorem lexN_errpos (l : List UInt8) (a e p : Nat) : (lexN l a).2 = some (e, p) → a ≤ p ∧ p < a + l.length ∧ e ≠ 0 := by
  refine lexN_ind (P := fun l a => (lexN l a).2 = some (e, p) → a ≤ p ∧ p < a + l.length ∧ e ≠ 0) (fun l a h => ?_) (fun l a c r e' hs ht => ?_) (fun l a c r k s n hs ht ih => ?_) l.length l a (Nat.le_refl _)
  · rw [lexN_nil h]; intro h; cases h
  · have hle := skipM_le false l
    rw [hs] at hle
    rw [lexN_err hs ht]
    intro h
    cases h
    simp only [List.length_cons] at *
    exact ⟨by omega, by omega, tokC_err ht⟩
  · obtain ⟨h3, h4⟩ := tokL_len c r k s n ht
    have hle := skipM_le false l
    rw [hs] at hle
    rw [lexN_tok hs ht]
    intro h
    obtain ⟨h5, h6, h7⟩ := ih h
    rw [List.length_drop] at h6
    exact ⟨by omega, by omega, h7⟩
/-- Tokens moved. -/
def shiftT (d : Nat) (x : Tk) : Tk := ⟨x.kind, x.text, x.pos + d⟩
theorem lexN_shift (d : Nat) (l : List UInt8) (a : Nat) : lexN l (a + d) = ((lexN l a).1.map (shiftT d), (lexN l a).2.map fun p => (p.1, p.2 + d)) := by
  refine lexN_ind (P := fun l a => lexN l (a + d) = ((lexN l a).1.map (shiftT d), (lexN l a).2.map fun p => (p.1, p.2 + d))) (fun l a h => ?_) (fun l a c r e hs ht => ?_) (fun l a c r k s n hs ht ih => ?_) l.length l a (Nat.le_refl _)
  · rw [lexN_nil h, lexN_nil h]; rfl
  · rw [lexN_err hs ht, lexN_err hs ht]
    simp only [List.map_nil, Option.map_some]
    rw [show a + d + (l.length - (c :: r).length) = a + (l.length - (c :: r).length) + d by omega]
  · rw [lexN_tok hs ht, lexN_tok hs ht]
    rw [show a + d + (l.length - (c :: r).length) + n = a + (l.length - (c :: r).length) + n + d by omega, ih]
    simp only [List.map_cons, shiftT]
    rw [show a + d + (l.length - (c :: r).length) = a + (l.length - (c :: r).length) + d by omega]
/-- A run of bytes, followed by one that ends it. -/
theorem takeWhile_app {p : UInt8 → Bool} {l : List UInt8} {x : UInt8} {m : List UInt8} (hx : p x = false) : (l ++ x :: m).takeWhile p = l.takeWhile p := by
  induction l with
  | nil => rw [List.nil_append, List.takeWhile_cons_of_neg (by rw [hx]; simp)]; rfl
  | cons c r ih =>
    rw [List.cons_append]
    cases hc : p c with
    | true => rw [List.takeWhile_cons_of_pos hc, List.takeWhile_cons_of_pos hc, ih]
    | false => rw [List.takeWhile_cons_of_neg (by rw [hc]; simp), List.takeWhile_cons_of_neg (by rw [hc]; simp)]
theorem dropWhile_app {p : UInt8 → Bool} {l : List UInt8} {x : UInt8} {m : List UInt8} (hx : p x = false) : (l ++ x :: m).dropWhile p = l.dropWhile p ++ x :: m := by
  induction l with
  | nil => rw [List.nil_append, List.dropWhile_cons_of_neg (by rw [hx]; simp)]; rfl
  | cons c r ih =>
    rw [List.cons_append]
    cases hc : p c with
    | true => rw [List.dropWhile_cons_of_pos hc, List.dropWhile_cons_of_pos hc, ih]
    | false => rw [List.dropWhile_cons_of_neg (by rw [hc]; simp), List.dropWhile_cons_of_neg (by rw [hc]; simp)]; rfl
theorem uq_q {c : UInt8} {r : List UInt8} (h : c.toNat = 34) : unqL (c :: r) = some ([], 1) := by
  cases r <;> (unfold unqL; rw [if_pos h])
theorem uq_nl {c : UInt8} {r : List UInt8} (h : ¬ c.toNat = 34) (h2 : c.toNat = 10) : unqL (c :: r) = none := by
  cases r <;> (unfold unqL; rw [if_neg h, if_pos h2])
theorem uq_c {c : UInt8} {r : List UInt8} (h : ¬ c.toNat = 34) (h2 : ¬ c.toNat = 10) (h3 : ¬ c.toNat = 92) : unqL (c :: r) = (unqL r).map fun p => (c :: p.1, p.2 + 1) := by
  cases r
  · simp [unqL, h, h2, h3]
  · rw [unqL, if_neg h, if_neg h2, if_neg h3]
theorem uq_b {c d : UInt8} {r : List UInt8} (h : c.toNat = 92) : unqL (c :: d :: r) = match escOf d with | none => none | some e => (unqL r).map fun p => (e :: p.1, p.2 + 2) := by
  rw [unqL, if_neg (by omega), if_neg (by omega), if_pos h]
  rfl
theorem uq_b0 {c : UInt8} (h : c.toNat = 92) : unqL [c] = none := by
  rw [unqL, if_neg (by omega), if_neg (by omega), if_pos h]
theorem unqL_some : ∀ (l : List UInt8) (s : List UInt8) (n : Nat) (m : List UInt8), unqL l = some (s, n) → unqL (l ++ m) = some (s, n)
  | [], s, n, m, h => by simp [unqL] at h
  | c :: r, s, n, m, h => by
    by_cases h1 : c.toNat = 34
    · rw [uq_q h1] at h; rw [List.cons_append, uq_q h1]; exact h
    · by_cases h2 : c.toNat = 10
      · rw [uq_nl h1 h2] at h; cases h
      · by_cases h3 : c.toNat = 92
        · cases r with
          | nil => rw [uq_b0 h3] at h; cases h
          | cons d r' =>
            rw [uq_b h3] at h
            rw [List.cons_append, List.cons_append, uq_b h3]
            cases he : escOf d with
            | none => rw [he] at h; cases h
            | some e =>
              rw [he] at h
              simp only at h ⊢
              obtain ⟨p, hp, hq⟩ := Option.map_eq_some_iff.1 h
              rw [unqL_some r' p.1 p.2 m hp]
              simpa using hq
        · rw [uq_c h1 h2 h3] at h
          obtain ⟨p, hp, hq⟩ := Option.map_eq_some_iff.1 h
          rw [List.cons_append, uq_c h1 h2 h3, unqL_some r p.1 p.2 m hp]
          simpa using hq
/-- A string that is not ended is not ended by a line feed. -/
theorem unqL_none : ∀ (l : List UInt8) (x : UInt8) (m : List UInt8), x.toNat = 10 → unqL l = none → unqL (l ++ x :: m) = none
  | [], x, m, hx, h => uq_nl (by omega) hx
  | c :: r, x, m, hx, h => by
    by_cases h1 : c.toNat = 34
    · rw [uq_q h1] at h; cases h
    · by_cases h2 : c.toNat = 10
      · rw [List.cons_append, uq_nl h1 h2]
      · by_cases h3 : c.toNat = 92
        · cases r with
          | nil =>
            rw [List.cons_append, List.nil_append, uq_b h3]
            have : escOf x = none := by unfold escOf; rw [if_neg (by omega), if_neg (by omega), if_neg (by omega)]
            rw [this]
          | cons d r' =>
            rw [uq_b h3] at h
            rw [List.cons_append, List.cons_append, uq_b h3]
            cases he : escOf d with
            | none => rfl
            | some e =>
              rw [he] at h
              simp only at h ⊢
              rw [unqL_none r' x m hx (by simpa using h)]
              rfl
        · rw [uq_c h1 h2 h3] at h
          rw [List.cons_append, uq_c h1 h2 h3, unqL_none r x m hx (by simpa using h)]
          rfl
theorem word_nl {x : UInt8} (h : x.toNat = 10) : isWord x = false ∧ isDigit x = false := by
  have : x = 10 := UInt8.toNat.inj (by rw [h]; rfl)
  subst this
  exact ⟨by decide, by decide⟩
/-- A token is the same with a line feed behind what there is. -/
theorem tokC_nl {c : UInt8} {r : List UInt8} {x : UInt8} {m : List UInt8} (hx : x.toNat = 10) : tokC c (r ++ x :: m) = tokC c r := by
  obtain ⟨h1, h2⟩ := word_nl hx
  have e1 : (c :: (r ++ x :: m)).takeWhile isWord = (c :: r).takeWhile isWord := by rw [← List.cons_append, takeWhile_app h1]
  have e2 : (c :: (r ++ x :: m)).takeWhile isDigit = (c :: r).takeWhile isDigit := by rw [← List.cons_append, takeWhile_app h2]
  have e3 : ((c :: (r ++ x :: m)).dropWhile isDigit).head?.any isWord = ((c :: r).dropWhile isDigit).head?.any isWord := by
    rw [← List.cons_append, dropWhile_app h2]
    cases (c :: r).dropWhile isDigit with
    | nil => simp [h1]
    | cons y s => rfl
  unfold tokC
  rw [e1, e2, e3]
  cases hu : unqL r with
  | none => rw [unqL_none r x m hx hu]
  | some p => rw [unqL_some r p.1 p.2 (x :: m) hu]
theorem skipM_nl : ∀ (b : Bool) (l : List UInt8) (x : UInt8) (m : List UInt8), x.toNat = 10 → skipM b (l ++ x :: m) = match skipM b l with | [] => skipM false m | c :: r => c :: r ++ x :: m
  | b, [], x, m, hx => by
    have hb : isBlank x = true := (isBlank_iff x).2 (.inr (.inr hx))
    cases b <;> simp [skipM, hx, hb]
  | true, c :: s, x, m, hx => by
    simp only [List.cons_append, skipM]
    split
    · exact skipM_nl false s x m hx
    · exact skipM_nl true s x m hx
  | false, c :: s, x, m, hx => by
    simp only [List.cons_append, skipM]
    split
    · exact skipM_nl false s x m hx
    · split
      · exact skipM_nl true s x m hx
      · rfl
/-- Two lists with a line feed between. -/
theorem lexN_nl (x : UInt8) (hx : x.toNat = 10) (m : List UInt8) (l : List UInt8) (a : Nat) : ((lexN l a).2 = none → lexN (l ++ x :: m) a = ((lexN l a).1 ++ (lexN m (a + l.length + 1)).1, (lexN m (a + l.length + 1)).2)) ∧ (∀ p, (lexN l a).2 = some p → lexN (l ++ x :: m) a = ((lexN l a).1, some p)) := by
  refine lexN_ind (P := fun l a => ((lexN l a).2 = none → lexN (l ++ x :: m) a = ((lexN l a).1 ++ (lexN m (a + l.length + 1)).1, (lexN m (a + l.length + 1)).2)) ∧ (∀ p, (lexN l a).2 = some p → lexN (l ++ x :: m) a = ((lexN l a).1, some p)))
    (fun l a h => ?_) (fun l a c r e hs ht => ?_) (fun l a c r k s n hs ht ih => ?_) l.length l a (Nat.le_refl _)
  · rw [lexN_nil h]
    refine ⟨fun _ => ?_, fun p h => (by cases h)⟩
    have hs := skipM_nl false l x m hx
    rw [h] at hs
    have := lexN_skip (a := a) (d := l.length + 1) hs (by simp; omega)
    rw [this, ← Nat.add_assoc]
    rfl
  · have h2 : skipM false (l ++ x :: m) = c :: (r ++ x :: m) := by
      have := skipM_nl false l x m hx
      rw [hs] at this
      exact this
    have hle := skipM_le false l
    rw [hs] at hle
    have h3 := lexN_err (a := a) h2 ((tokC_nl hx).trans ht)
    rw [lexN_err hs ht]
    refine ⟨fun h => (by cases h), fun p hp => ?_⟩
    rw [h3, ← hp]
    simp only [List.length_append, List.length_cons] at *
    congr 3
    omega
  · have h2 : skipM false (l ++ x :: m) = c :: (r ++ x :: m) := by
      have := skipM_nl false l x m hx
      rw [hs] at this
      exact this
    have hle := skipM_le false l
    rw [hs] at hle
    obtain ⟨h5, h6⟩ := tokL_len c r k s n ht
    have h3 := lexN_tok (a := a) h2 ((tokC_nl hx).trans ht)
    have hd : (c :: (r ++ x :: m)).drop n = (c :: r).drop n ++ x :: m := by rw [← List.cons_append, List.drop_append_of_le_length h6]
    have hp : (l ++ x :: m).length - (c :: (r ++ x :: m)).length = l.length - (c :: r).length := by
      simp only [List.length_append, List.length_cons] at *; omega
    rw [hd, hp] at h3
    have hq : a + (l.length - (c :: r).length) + n + ((c :: r).drop n).length + 1 = a + l.length + 1 := by
      rw [List.length_drop]; simp only [List.length_cons] at *; omega
    rw [hq] at ih
    rw [lexN_tok hs ht]
    refine ⟨fun h => ?_, fun p hp => ?_⟩
    · rw [h3, ih.1 h]; rfl
    · rw [h3, ih.2 p hp]
end Go.Proofs.Ytildepcgnppcjaa
