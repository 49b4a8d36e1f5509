/-
  The laws on tokens, in plain terms: counts, places, shifts, beginnings.
-/
import Derived.Test.YtfdjlphfohnnnaaQF2
import Derived.KernelRfl
import Derived.Test.YtfdjlphfohnnnaaQF1
import Derived.Carry
import Derived.MapKept
import Derived.Recover
namespace Go.Proofs.Ytfdjlphfohnnnaa
set_option linter.unusedVariables false
set_option linter.unusedSimpArgs false

/-- What stands behind the gaps is an end of the list. -/
theorem skipM_suffix : ∀ (b : Bool) (l : List UInt8), ∃ g, l = g ++ skipM b l
  | b, [] => ⟨[], by cases b <;> rfl⟩
  | true, c :: r => by
    simp only [skipM]
    split
    · obtain ⟨g, hg⟩ := skipM_suffix false r; exact ⟨c :: g, by rw [List.cons_append, ← hg]⟩
    · obtain ⟨g, hg⟩ := skipM_suffix true r; exact ⟨c :: g, by rw [List.cons_append, ← hg]⟩
  | false, c :: r => by
    simp only [skipM]
    split
    · obtain ⟨g, hg⟩ := skipM_suffix false r; exact ⟨c :: g, by rw [List.cons_append, ← hg]⟩
    · split
      · obtain ⟨g, hg⟩ := skipM_suffix true r; exact ⟨c :: g, by rw [List.cons_append, ← hg]⟩
      · exact ⟨[], rfl⟩
/-- It begins with no gap. -/
theorem skipM_head : ∀ (b : Bool) (l : List UInt8) (c : UInt8) (r : List UInt8), skipM b l = c :: r → isBlank c = false ∧ ¬ c.toNat = 35
  | b, [], c, r, h => by cases b <;> simp [skipM] at h
  | true, x :: s, c, r, h => by
    simp only [skipM] at h
    split at h
    · exact skipM_head false s c r h
    · exact skipM_head true s c r h
  | false, x :: s, c, r, h => by
    simp only [skipM] at h
    split at h
    · exact skipM_head false s c r h
    · rename_i hb
      split at h
      · exact skipM_head true s c r h
      · rename_i h35
        cases h
        exact ⟨by simpa using hb, h35⟩
theorem skipM_idem {l : List UInt8} {c : UInt8} {r : List UInt8} (h : skipM false l = c :: r) : skipM false (c :: r) = c :: r := by
  obtain ⟨h1, h2⟩ := skipM_head _ _ _ _ h
  exact skipM_cons h1 h2
/-- The ways in which a list has tokens. -/
theorem lexN_ind {P : List UInt8 → Nat → Prop} (h0 : ∀ l a, skipM false l = [] → P l a) (h1 : ∀ l a c r e, skipM false l = c :: r → tokC c r = .err e → P l a)
    (h2 : ∀ l a c r k s n, skipM false l = c :: r → tokC c r = .tok k s n → P ((c :: r).drop n) (a + (l.length - (c :: r).length) + n) → P l a) : ∀ (m : Nat) (l : List UInt8) (a : Nat), l.length ≤ m → P l a
  | 0, l, a, hm => h0 l a (by have := skipM_le false l; cases l with | nil => rfl | cons => simp at hm)
  | m + 1, l, a, hm => by
    cases hs : skipM false l with
    | nil => exact h0 l a hs
    | cons c r =>
      cases ht : tokC c r with
      | err e => exact h1 l a c r e hs ht
      | tok k s n =>
        obtain ⟨h3, h4⟩ := tokL_len c r k s n ht
        have hle := skipM_le false l
        rw [hs] at hle
        exact h2 l a c r k s n hs ht (lexN_ind h0 h1 h2 m _ _ (by rw [List.length_drop]; omega))
theorem lexN_count (l : List UInt8) (a : Nat) : (lexN l a).1.length ≤ l.length := by
  refine lexN_ind (P := fun l a => (lexN l a).1.length ≤ l.length) (fun l a h => ?_) (fun l a c r e hs ht => ?_) (fun l a c r k s n hs ht ih => ?_) l.length l a (Nat.le_refl _)
  · rw [lexN_nil h]; exact Nat.zero_le _
  · rw [lexN_err hs ht]; exact Nat.zero_le _
  · obtain ⟨h3, h4⟩ := tokL_len c r k s n ht
    have hle := skipM_le false l
    rw [hs] at hle
    rw [lexN_tok hs ht]
    rw [List.length_drop] at ih
    simp only [List.length_cons] at *
    omega
theorem tokC_err {c : UInt8} {r : List UInt8} {e : Nat} (h : tokC c r = .err e) : e ≠ 0 := by
  unfold tokC at h
  split at h
  · split at h <;> cases h; decide
  · split at h
    · split at h <;> cases h; decide
    · split at h
      · split at h <;> cases h; decide
      · split at h <;> cases h; decide
theorem lexN_errpos (l : List UInt8) (a e p : Nat) : (lexN l a).2 = some (e, p) → a ≤ p ∧ p < a + l.length ∧ e ≠ 0 := by
  refine lexN_ind (P := fun l a => (lexN l a).2 = some (e, p) → a ≤ p ∧ p < a + l.length ∧ e ≠ 0) (fun l a h => ?_) (fun l a c r e' hs ht => ?_) (fun l a c r k s n hs ht ih => ?_) l.length l a (Nat.le_refl _)
  · rw [lexN_nil h]; intro h; cases h
  · have hle := skipM_le false l
    rw [hs] at hle
    rw [lexN_err hs ht]
    intro h
    cases h
    simp only [List.length_cons] at *
    exact ⟨by omega, by omega, tokC_err ht⟩
  · obtain ⟨h3, h4⟩ := tokL_len c r k s n ht
    have hle := skipM_le false l
    rw [hs] at hle
    rw [lexN_tok hs ht]
    intro h
    obtain ⟨h5, h6, h7⟩ := ih h
    rw [List.length_drop] at h6
    exact ⟨by omega, by omega, h7⟩
/-- Tokens moved. -/
def shiftT (d : Nat) (x : Tk) : Tk := ⟨x.kind, x.text, x.pos + d⟩
theorem lexN_shift (d : Nat) (l : List UInt8) (a : Nat) : lexN l (a + d) = ((lexN l a).1.map (shiftT d), (lexN l a).2.map fun p => (p.1, p.2 + d)) := by
  refine lexN_ind (P := fun l a => lexN l (a + d) = ((lexN l a).1.map (shiftT d), (lexN l a).2.map fun p => (p.1, p.2 + d))) (fun l a h => ?_) (fun l a c r e hs ht => ?_) (fun l a c r k s n hs ht ih => ?_) l.length l a (Nat.le_refl _)
  · rw [lexN_nil h, lexN_nil h]; rfl
  · rw [lexN_err hs ht, lexN_err hs ht]
    simp only [List.map_nil, Option.map_some]
    rw [show a + d + (l.length - (c :: r).length) = a + (l.length - (c :: r).length) + d by omega]
  · rw [lexN_tok hs ht, lexN_tok hs ht]
    rw [show a + d + (l.length - (c :: r).length) + n = a + (l.length - (c :: r).length) + n + d by omega, ih]
    simp only [List.map_cons, shiftT]
    rw [show a + d + (l.length - (c :: r).length) = a + (l.length - (c :: r).length) + d by omega]
/-- A run of bytes, followed by one that ends it. -/
theorem takeWhile_app {p : UInt8 → Bool} {l : List UInt8} {x : UInt8} {m : List UInt8} (hx : p x = false) : (l ++ x :: m).takeWhile p = l.takeWhile p := by
  induction l with
  | nil => rw [List.nil_append, List.takeWhile_cons_of_neg (by rw [hx]; simp)]; rfl
  | cons c r ih =>
    rw [List.cons_append]
    cases hc : p c with
    | true => rw [List.takeWhile_cons_of_pos hc, List.takeWhile_cons_of_pos hc, ih]
    | false => rw [List.takeWhile_cons_of_neg (by rw [hc]; simp), List.takeWhile_cons_of_neg (by rw [hc]; simp)]
theorem dropWhile_app {p : UInt8 → Bool} {l : List UInt8} {x : UInt8} {m : List UInt8} (hx : p x = false) : (l ++ x :: m).dropWhile p = l.dropWhile p ++ x :: m := by
  induction l with
  | nil => rw [List.nil_append, List.dropWhile_cons_of_neg (by rw [hx]; simp)]; rfl
  | cons c r ih =>
    rw [List.cons_append]
    cases hc : p c with
    | true => rw [List.dropWhile_cons_of_pos hc, List.dropWhile_cons_of_pos hc, ih]
    | false => rw [List.dropWhile_cons_of_neg (by rw [hc]; simp), List.dropWhile_cons_of_neg (by rw [hc]; simp)]; rfl
theorem uq_q {c : UInt8} {r : List UInt8} (h : c.toNat = 34) : unqL (c :: r) = some ([], 1) := by
  cases r <;> (unfold unqL; rw [if_pos h])
theorem uq_nl {c : UInt8} {r : List UInt8} (h : ¬ c.toNat = 34) (h2 : c.toNat = 10) : unqL (c :: r) = none := by
  cases r <;> (unfold unqL; rw [if_neg h, if_pos h2])
theorem uq_c {c : UInt8} {r : List UInt8} (h : ¬ c.toNat = 34) (h2 : ¬ c.toNat = 10) (h3 : ¬ c.toNat = 92) : unqL (c :: r) = (unqL r).map fun p => (c :: p.1, p.2 + 1) := by
  cases r
  · simp [unqL, h, h2, h3]
  · rw [unqL, if_neg h, if_neg h2, if_neg h3]
theorem uq_b {c d : UInt8} {r : List UInt8} (h : c.toNat = 92) : unqL (c :: d :: r) = match escOf d with | none => none | some e => (unqL r).map fun p => (e :: p.1, p.2 + 2) := by
  rw [unqL, if_neg (by omega), if_neg (by omega), if_pos h]
  all_goals rfl
theorem uq_b0 {c : UInt8} (h : c.toNat = 92) : unqL [c] = none := by
  rw [unqL, if_neg (by omega), if_neg (by omega), if_pos h]
theorem unqL_some : ∀ (l : List UInt8) (s : List UInt8) (n : Nat) (m : List UInt8), unqL l = some (s, n) → unqL (l ++ m) = some (s, n)
  | [], s, n, m, h => by simp [unqL] at h
  | c :: r, s, n, m, h => by
    by_cases h1 : c.toNat = 34
    · rw [uq_q h1] at h; rw [List.cons_append, uq_q h1]; exact h
    · by_cases h2 : c.toNat = 10
      · rw [uq_nl h1 h2] at h; cases h
      · by_cases h3 : c.toNat = 92
        · cases r with
          | nil => rw [uq_b0 h3] at h; cases h
          | cons d r' =>
            rw [uq_b h3] at h
            rw [List.cons_append, List.cons_append, uq_b h3]
            cases he : escOf d with
            | none => rw [he] at h; cases h
            | some e =>
              rw [he] at h
              simp only at h ⊢
              obtain ⟨p, hp, hq⟩ := Option.map_eq_some_iff.1 h
              rw [unqL_some r' p.1 p.2 m hp]
              simpa using hq
        · rw [uq_c h1 h2 h3] at h
          obtain ⟨p, hp, hq⟩ := Option.map_eq_some_iff.1 h
          rw [List.cons_append, uq_c h1 h2 h3, unqL_some r p.1 p.2 m hp]
          simpa using hq
/-- A string that is not ended is not ended by a line feed. -/
theorem unqL_none : ∀ (l : List UInt8) (x : UInt8) (m : List UInt8), x.toNat = 10 → unqL l = none → unqL (l ++ x :: m) = none
  | [], x, m, hx, h => uq_nl (by omega) hx
  | c :: r, x, m, hx, h => by
    by_cases h1 : c.toNat = 34
    · rw [uq_q h1] at h; cases h
    · by_cases h2 : c.toNat = 10
      · rw [List.cons_append, uq_nl h1 h2]
      · by_cases h3 : c.toNat = 92
        · cases r with
          | nil =>
            rw [List.cons_append, List.nil_append, uq_b h3]
            have : escOf x = none := by unfold escOf; rw [if_neg (by omega), if_neg (by omega), if_neg (by omega)]
            rw [this]
          | cons d r' =>
            rw [uq_b h3] at h
            rw [List.cons_append, List.cons_append, uq_b h3]
            cases he : escOf d with
            | none => rfl
            | some e =>
              rw [he] at h
              simp only at h ⊢
              rw [unqL_none r' x m hx (by simpa using h)]
              all_goals rfl
        · rw [uq_c h1 h2 h3] at h
          rw [List.cons_append, uq_c h1 h2 h3, unqL_none r x m hx (by simpa using h)]
          all_goals rfl
theorem word_nl {x : UInt8} (h : x.toNat = 10) : isWord x = false ∧ isDigit x = false := by
  have : x = 10 := UInt8.toNat.inj (by rw [h]; rfl)
  subst this
  exact ⟨by decide, by decide⟩
/-- A token is the same with a line feed behind what there is. -/
theorem tokC_nl {c : UInt8} {r : List UInt8} {x : UInt8} {m : List UInt8} (hx : x.toNat = 10) : tokC c (r ++ x :: m) = tokC c r := by
  obtain ⟨h1, h2⟩ := word_nl hx
  have e1 : (c :: (r ++ x :: m)).takeWhile isWord = (c :: r).takeWhile isWord := by rw [← List.cons_append, takeWhile_app h1]
  have e2 : (c :: (r ++ x :: m)).takeWhile isDigit = (c :: r).takeWhile isDigit := by rw [← List.cons_append, takeWhile_app h2]
  have e3 : ((c :: (r ++ x :: m)).dropWhile isDigit).head?.any isWord = ((c :: r).dropWhile isDigit).head?.any isWord := by
    rw [← List.cons_append, dropWhile_app h2]
    cases (c :: r).dropWhile isDigit with
    | nil => simp [h1]
    | cons y s => rfl
  unfold tokC
  rw [e1, e2, e3]
  cases hu : unqL r with
  | none => rw [unqL_none r x m hx hu]
  | some p => rw [unqL_some r p.1 p.2 (x :: m) hu]
theorem skipM_nl : ∀ (b : Bool) (l : List UInt8) (x : UInt8) (m : List UInt8), x.toNat = 10 → skipM b (l ++ x :: m) = match skipM b l with | [] => skipM false m | c :: r => c :: r ++ x :: m
  | b, [], x, m, hx => by
    have hb : isBlank x = true := (isBlank_iff x).2 (.inr (.inr hx))
    cases b <;> simp [skipM, hx, hb]
  | true, c :: s, x, m, hx => by
    simp only [List.cons_append, skipM]
    split
    · exact skipM_nl false s x m hx
    · exact skipM_nl true s x m hx
  | false, c :: s, x, m, hx => by
    simp only [List.cons_append, skipM]
    split
    · exact skipM_nl false s x m hx
    · split
      · exact skipM_nl true s x m hx
      · rfl
/-- Two lists with a line feed between. -/
theorem lexN_nl (x : UInt8) (hx : x.toNat = 10) (m : List UInt8) (l : List UInt8) (a : Nat) : ((lexN l a).2 = none → lexN (l ++ x :: m) a = ((lexN l a).1 ++ (lexN m (a + l.length + 1)).1, (lexN m (a + l.length + 1)).2)) ∧ (∀ p, (lexN l a).2 = some p → lexN (l ++ x :: m) a = ((lexN l a).1, some p)) := by
  refine lexN_ind (P := fun l a => ((lexN l a).2 = none → lexN (l ++ x :: m) a = ((lexN l a).1 ++ (lexN m (a + l.length + 1)).1, (lexN m (a + l.length + 1)).2)) ∧ (∀ p, (lexN l a).2 = some p → lexN (l ++ x :: m) a = ((lexN l a).1, some p)))
    (fun l a h => ?_) (fun l a c r e hs ht => ?_) (fun l a c r k s n hs ht ih => ?_) l.length l a (Nat.le_refl _)
  · rw [lexN_nil h]
    refine ⟨fun _ => ?_, fun p h => (by cases h)⟩
    have hs := skipM_nl false l x m hx
    rw [h] at hs
    have := lexN_skip (a := a) (d := l.length + 1) hs (by simp; omega)
    rw [this, ← Nat.add_assoc]
    all_goals rfl
  · have h2 : skipM false (l ++ x :: m) = c :: (r ++ x :: m) := by
      have := skipM_nl false l x m hx
      rw [hs] at this
      exact this
    have hle := skipM_le false l
    rw [hs] at hle
    have h3 := lexN_err (a := a) h2 ((tokC_nl hx).trans ht)
    rw [lexN_err hs ht]
    refine ⟨fun h => (by cases h), fun p hp => ?_⟩
    rw [h3, ← hp]
    simp only [List.length_append, List.length_cons] at *
    congr 3
    omega
  · have h2 : skipM false (l ++ x :: m) = c :: (r ++ x :: m) := by
      have := skipM_nl false l x m hx
      rw [hs] at this
      exact this
    have hle := skipM_le false l
    rw [hs] at hle
    obtain ⟨h5, h6⟩ := tokL_len c r k s n ht
    have h3 := lexN_tok (a := a) h2 ((tokC_nl hx).trans ht)
    have hd : (c :: (r ++ x :: m)).drop n = (c :: r).drop n ++ x :: m := by rw [← List.cons_append, List.drop_append_of_le_length h6]
    have hp : (l ++ x :: m).length - (c :: (r ++ x :: m)).length = l.length - (c :: r).length := by
      simp only [List.length_append, List.length_cons] at *; omega
    rw [hd, hp] at h3
    have hq : a + (l.length - (c :: r).length) + n + ((c :: r).drop n).length + 1 = a + l.length + 1 := by
      rw [List.length_drop]; simp only [List.length_cons] at *; omega
    rw [hq] at ih
    rw [lexN_tok hs ht]
    refine ⟨fun h => ?_, fun p hp => ?_⟩
    · rw [h3, ih.1 h]; rfl
    · rw [h3, ih.2 p hp]
end Go.Proofs.Ytfdjlphfohnnnaa
/-
  The laws on tokens, in plain terms: a token alone, a token before something else; beginnings.
-/
namespace Go.Proofs.Ytfdjlphfohnnnaa
set_option linter.unusedVariables false
set_option linter.unusedSimpArgs false

theorem takeWhile_full {p : UInt8 → Bool} {l : List UInt8} (h : (l.takeWhile p).length = l.length) : l.takeWhile p = l := by
  have := List.takeWhile_append_dropWhile (p := p) (l := l)
  have h2 := congrArg List.length this
  rw [List.length_append, h] at h2
  have h3 : l.dropWhile p = [] := List.length_eq_zero_iff.1 (by omega)
  rw [h3, List.append_nil] at this
  exact this
theorem takeWhile_idem {p : UInt8 → Bool} (l : List UInt8) : (l.takeWhile p).takeWhile p = l.takeWhile p := by
  induction l with
  | nil => rfl
  | cons c r ih =>
    cases hc : p c with
    | true => rw [List.takeWhile_cons_of_pos hc, List.takeWhile_cons_of_pos hc, ih]
    | false => rw [List.takeWhile_cons_of_neg (by rw [hc]; simp)]; rfl
theorem takeWhile_more {p : UInt8 → Bool} {l y : List UInt8} (h : l.takeWhile p = l) : (l ++ y).takeWhile p = l ++ y.takeWhile p := by
  induction l with
  | nil => rfl
  | cons c r ih =>
    cases hc : p c with
    | true =>
      rw [List.takeWhile_cons_of_pos hc] at h
      rw [List.cons_append, List.takeWhile_cons_of_pos hc, ih (List.cons.inj h).2]
      all_goals rfl
    | false => rw [List.takeWhile_cons_of_neg (by rw [hc]; simp)] at h; cases h
theorem dropWhile_more {p : UInt8 → Bool} {l y : List UInt8} (h : l.takeWhile p = l) : (l ++ y).dropWhile p = y.dropWhile p := by
  induction l with
  | nil => rfl
  | cons c r ih =>
    cases hc : p c with
    | true =>
      rw [List.takeWhile_cons_of_pos hc] at h
      rw [List.cons_append, List.dropWhile_cons_of_pos hc, ih (List.cons.inj h).2]
    | false => rw [List.takeWhile_cons_of_neg (by rw [hc]; simp)] at h; cases h
theorem headIs_nil {p : UInt8 → Bool} : headIs p [] = false := rfl
theorem dropWhile_head {p : UInt8 → Bool} {l : List UInt8} (h : headIs p l = false) : l.dropWhile p = l := by
  cases l with
  | nil => rfl
  | cons c r =>
    have : p c = false := by simpa [headIs] using h
    rw [List.dropWhile_cons_of_neg (by rw [this]; simp)]
theorem headIs_digit {l : List UInt8} (h : headIs isWord l = false) : headIs isDigit l = false := by
  cases l with
  | nil => rfl
  | cons c r =>
    have h1 : isWord c = false := by simpa [headIs] using h
    have : isDigit c = false := by
      cases hd : isDigit c with
      | false => rfl
      | true => rw [isWord, hd] at h1; simp at h1
    simpa [headIs] using this
theorem headIs_take {p : UInt8 → Bool} {l : List UInt8} {j : Nat} (h : headIs p l = false) : headIs p (l.take j) = false := by
  cases l with
  | nil => rw [List.take_nil]; rfl
  | cons c r =>
    cases j with
    | zero => rfl
    | succ j => rw [List.take_succ_cons]; simpa [headIs] using h
theorem headIs_drop {p : UInt8 → Bool} (l : List UInt8) : headIs p (l.dropWhile p) = false := by
  induction l with
  | nil => rfl
  | cons c r ih =>
    cases hc : p c with
    | true => rw [List.dropWhile_cons_of_pos hc]; exact ih
    | false => rw [List.dropWhile_cons_of_neg (by rw [hc]; simp)]; simpa [headIs] using hc
theorem unqL_cut : ∀ (l : List UInt8) (s : List UInt8) (n : Nat), unqL l = some (s, n) → unqL (l.take n) = some (s, n)
  | [], s, n, h => by simp [unqL] at h
  | c :: r, s, n, h => by
    by_cases h1 : c.toNat = 34
    · rw [uq_q h1] at h
      cases h
      rw [List.take_succ_cons, uq_q h1]
    · by_cases h2 : c.toNat = 10
      · rw [uq_nl h1 h2] at h; cases h
      · by_cases h3 : c.toNat = 92
        · cases r with
          | nil => rw [uq_b0 h3] at h; cases h
          | cons d r' =>
            rw [uq_b h3] at h
            cases he : escOf d with
            | none => rw [he] at h; cases h
            | some e =>
              rw [he] at h
              simp only at h
              obtain ⟨p, hp, hq⟩ := Option.map_eq_some_iff.1 h
              cases hq
              rw [List.take_succ_cons, List.take_succ_cons, uq_b h3, he]
              simp only
              rw [unqL_cut r' p.1 p.2 hp]
              all_goals rfl
        · rw [uq_c h1 h2 h3] at h
          obtain ⟨p, hp, hq⟩ := Option.map_eq_some_iff.1 h
          cases hq
          rw [List.take_succ_cons, uq_c h1 h2 h3, unqL_cut r p.1 p.2 hp]
          all_goals rfl
/-- What may stand behind a token. -/
def Ends (k : Nat) (y : List UInt8) : Prop := (k = 1 ∨ k = 2) → headIs isWord y = false
theorem cons_take {c : UInt8} {r : List UInt8} {n : Nat} (h : 1 ≤ n) : c :: r.take (n - 1) = (c :: r).take n := by
  obtain ⟨m, rfl⟩ : ∃ m, n = m + 1 := ⟨n - 1, by omega⟩
  rw [List.take_succ_cons]; rfl
theorem cons_drop {c : UInt8} {r : List UInt8} {n : Nat} (h : 1 ≤ n) : r.drop (n - 1) = (c :: r).drop n := by
  obtain ⟨m, rfl⟩ : ∃ m, n = m + 1 := ⟨n - 1, by omega⟩
  rw [List.drop_succ_cons]; rfl
theorem tokC_word {c : UInt8} {r : List UInt8} (h : isLetter c = true) : tokC c r = if 24 < ((c :: r).takeWhile isWord).length then .err 7 else .tok 1 ((c :: r).takeWhile isWord) ((c :: r).takeWhile isWord).length := by
  unfold tokC; rw [if_pos h]
theorem tokC_digit {c : UInt8} {r : List UInt8} (h : isLetter c = false) (h2 : isDigit c = true) : tokC c r = if 7 < ((c :: r).takeWhile isDigit).length ∨ headIs isWord ((c :: r).dropWhile isDigit) = true then .err 11 else .tok 2 ((c :: r).takeWhile isDigit) ((c :: r).takeWhile isDigit).length := by
  unfold tokC; rw [if_neg (by rw [h]; simp), if_pos h2]; all_goals rfl
theorem tokC_quote {c : UInt8} {r : List UInt8} (h : isLetter c = false) (h2 : isDigit c = false) (h3 : c.toNat = 34) : tokC c r = match unqL r with | some p => .tok 3 p.1 (p.2 + 1) | none => .err 10 := by
  unfold tokC; rw [if_neg (by rw [h]; simp), if_neg (by rw [h2]; simp), if_pos h3]; all_goals rfl
theorem tokC_sym {c : UInt8} {r : List UInt8} (h : isLetter c = false) (h2 : isDigit c = false) (h3 : ¬ c.toNat = 34) : tokC c r = if isSym c then .tok 4 [c] 1 else .err 10 := by
  unfold tokC; rw [if_neg (by rw [h]; simp), if_neg (by rw [h2]; simp), if_neg h3]
/-- The token alone; what stands behind it. -/
theorem tokC_cut {c : UInt8} {r : List UInt8} {k n : Nat} {s : List UInt8} (h : tokC c r = .tok k s n) : tokC c (r.take (n - 1)) = .tok k s n ∧ Ends k (r.drop (n - 1)) := by
  have hn := tokL_len c r k s n h
  have e1 := cons_take (c := c) (r := r) hn.1
  have e2 := cons_drop (c := c) (r := r) hn.1
  cases h1 : isLetter c with
  | true =>
    rw [tokC_word h1] at h ⊢
    rw [e1]
    split at h
    · cases h
    · rename_i h24
      cases h
      rw [takeWhile_take, takeWhile_idem, if_neg h24]
      refine ⟨rfl, fun _ => ?_⟩
      rw [e2, ← dropWhile_drop]
      exact headIs_drop _
  | false =>
    cases h2 : isDigit c with
    | true =>
      rw [tokC_digit h1 h2] at h ⊢
      rw [e1]
      split at h
      · cases h
      · rename_i hE
        cases h
        have h7 : ¬ 7 < ((c :: r).takeWhile isDigit).length := fun h => hE (.inl h)
        have hd : headIs isWord (((c :: r).takeWhile isDigit).dropWhile isDigit) = false := by
          rw [dropWhile_drop, takeWhile_idem, List.drop_length]; rfl
        rw [takeWhile_take, takeWhile_idem, if_neg (by rw [hd]; simp; omega)]
        refine ⟨rfl, fun _ => ?_⟩
        rw [e2, ← dropWhile_drop]
        cases hh : headIs isWord ((c :: r).dropWhile isDigit) with
        | false => rfl
        | true => exact (hE (.inr hh)).elim
    | false =>
      by_cases h3 : c.toNat = 34
      · rw [tokC_quote h1 h2 h3] at h ⊢
        cases hu : unqL r with
        | none => rw [hu] at h; cases h
        | some p =>
          rw [hu] at h
          cases h
          rw [Nat.add_sub_cancel, unqL_cut r p.1 p.2 hu]
          exact ⟨rfl, fun h => by rcases h with h | h <;> cases h⟩
      · rw [tokC_sym h1 h2 h3] at h ⊢
        split at h
        · rename_i hs
          cases h
          rw [if_pos hs]
          exact ⟨rfl, fun h => by rcases h with h | h <;> cases h⟩
        · cases h
/-- A token before something that may stand there. -/
theorem tokC_ext {c : UInt8} {u y : List UInt8} {k n : Nat} {s : List UInt8} (h : tokC c u = .tok k s n) (hn : n = u.length + 1) (hE : Ends k y) : tokC c (u ++ y) = .tok k s n := by
  cases h1 : isLetter c with
  | true =>
    rw [tokC_word h1] at h ⊢
    split at h
    · cases h
    · rename_i h24
      cases h
      have hf := takeWhile_full (p := isWord) (l := c :: u) hn
      rw [← List.cons_append, takeWhile_more hf, takeWhile_head (hE (.inl rfl)), List.append_nil]
      rw [hf] at h24 ⊢
      rw [if_neg h24]
  | false =>
    cases h2 : isDigit c with
    | true =>
      rw [tokC_digit h1 h2] at h ⊢
      split at h
      · cases h
      · rename_i hE'
        cases h
        have hw := hE (.inr rfl)
        have hdg := headIs_digit hw
        have hf := takeWhile_full (p := isDigit) (l := c :: u) hn
        have h7 : ¬ 7 < (c :: u).length := fun h => hE' (.inl (by rw [hf]; exact h))
        rw [← List.cons_append, takeWhile_more hf, takeWhile_head hdg, List.append_nil, dropWhile_more hf, dropWhile_head hdg, if_neg (by rw [hw]; simp only [Bool.false_eq_true, or_false]; exact h7), hf]
    | false =>
      by_cases h3 : c.toNat = 34
      · rw [tokC_quote h1 h2 h3] at h ⊢
        cases hu : unqL u with
        | none => rw [hu] at h; cases h
        | some p => rw [hu] at h; rw [unqL_some u p.1 p.2 y hu]; exact h
      · rw [tokC_sym h1 h2 h3] at h ⊢
        exact h
/-- A token in a part of the text that has it. -/
theorem tokC_take {c : UInt8} {r : List UInt8} {k n j : Nat} {s : List UInt8} (h : tokC c r = .tok k s n) (hj : n ≤ j) : tokC c (r.take (j - 1)) = .tok k s n := by
  obtain ⟨h1, h2⟩ := tokC_cut h
  have hn := tokL_len c r k s n h
  have hs : r.take (j - 1) = r.take (n - 1) ++ (r.drop (n - 1)).take (j - n) := by
    rw [← List.take_append_drop (n - 1) (r.take (j - 1)), List.take_take, List.drop_take]
    congr 2
    · omega
    · omega
  rw [hs]
  refine tokC_ext h1 ?_ fun hk => headIs_take (h2 hk)
  rw [List.length_take]
  simp only [List.length_cons] at hn
  omega
/-- What is skipped before a token. -/
theorem skipM_g : ∀ (b : Bool) (g : List UInt8) (c : UInt8) (r : List UInt8), skipM b (g ++ c :: r) = c :: r → (∀ r', skipM b (g ++ c :: r') = c :: r') ∧ skipM b g = []
  | true, [], c, r, h => by
    have h1 := skipM_le true r
    have h2 := skipM_le false r
    have h3 := congrArg List.length h
    simp only [List.nil_append, skipM, List.length_cons] at h3
    split at h3 <;> omega
  | false, [], c, r, h => by
    obtain ⟨h1, h2⟩ := skipM_head _ _ _ _ h
    exact ⟨fun r' => skipM_cons h1 h2, rfl⟩
  | true, x :: g, c, r, h => by
    simp only [List.cons_append, skipM] at h ⊢
    split at h
    · rename_i hx
      simp only [if_pos hx]
      exact skipM_g false g c r h
    · rename_i hx
      simp only [if_neg hx]
      exact skipM_g true g c r h
  | false, x :: g, c, r, h => by
    simp only [List.cons_append, skipM] at h ⊢
    split at h
    · rename_i hx
      simp only [if_pos hx]
      exact skipM_g false g c r h
    · rename_i hx
      simp only [if_neg hx]
      split at h
      · rename_i h35
        simp only [if_pos h35]
        exact skipM_g true g c r h
      · have := congrArg List.length h
        simp at this
        omega
theorem lexN_begin (e p : Nat) (l : List UInt8) (a : Nat) : (lexN l a).2 = some (e, p) → (lexN (l.take (p - a)) a).2 = none ∧ lexN (l.drop (p - a)) 0 = ([], some (e, 0)) := by
  refine lexN_ind (P := fun l a => (lexN l a).2 = some (e, p) → (lexN (l.take (p - a)) a).2 = none ∧ lexN (l.drop (p - a)) 0 = ([], some (e, 0))) (fun l a h => ?_) (fun l a c r e' hs ht => ?_) (fun l a c r k s n hs ht ih => ?_) l.length l a (Nat.le_refl _)
  · rw [lexN_nil h]; intro h; cases h
  · obtain ⟨g, hg⟩ := skipM_suffix false l
    rw [hs] at hg
    rw [lexN_err hs ht]
    intro h
    cases h
    have hl : a + (l.length - (c :: r).length) - a = g.length := by rw [hg]; simp only [List.length_append, List.length_cons]; omega
    rw [hl]
    have hsg := skipM_g false g c r (by rw [← hg]; exact hs)
    rw [hg, List.take_left, List.drop_left]
    refine ⟨by rw [lexN_nil hsg.2], ?_⟩
    rw [lexN_err (skipM_idem hs) ht, Nat.sub_self]
  · obtain ⟨g, hg⟩ := skipM_suffix false l
    rw [hs] at hg
    have hsg := skipM_g false g c r (by rw [← hg]; exact hs)
    have hn := tokL_len c r k s n ht
    have hgl : l.length - (c :: r).length = g.length := by rw [hg]; simp
    rw [lexN_tok hs ht]
    intro h
    have hp := lexN_errpos _ _ _ _ h
    obtain ⟨ih1, ih2⟩ := ih h
    rw [hgl] at hp ih1 ih2
    obtain ⟨j, hj⟩ : ∃ j, p = a + g.length + j := ⟨p - a - g.length, by omega⟩
    subst hj
    have hjn : n ≤ j := by omega
    have h1j : 1 ≤ j := by omega
    have e0 : a + g.length + j - a = g.length + j := by omega
    have e1 : a + g.length + j - (a + g.length + n) = j - n := by omega
    rw [e1] at ih1 ih2
    rw [e0]
    have ht1 : l.take (g.length + j) = g ++ c :: r.take (j - 1) := by rw [hg, List.take_append, List.take_of_length_le (by omega), Nat.add_sub_cancel_left, cons_take h1j]
    have hd1 : l.drop (g.length + j) = ((c :: r).drop n).drop (j - n) := by rw [hg, List.drop_append, List.drop_eq_nil_of_le (by omega), Nat.add_sub_cancel_left, List.nil_append, List.drop_drop]; congr 1; omega
    refine ⟨?_, by rw [hd1]; exact ih2⟩
    rw [ht1, lexN_tok (hsg.1 _) (tokC_take ht hjn)]
    have e2 : (g ++ c :: r.take (j - 1)).length - (c :: r.take (j - 1)).length = g.length := by simp
    rw [e2]
    have e3 : (c :: r.take (j - 1)).drop n = ((c :: r).drop n).take (j - n) := by rw [cons_take h1j, List.drop_take]
    rw [e3]
    exact ih1
/-! ### What Lex hands back for a short text -/
theorem lexR_none {t : ByteArray} (ht : t.size ≤ 5000) (h : (lexN (tx t) 0).2 = none) : lexR t = ((lexN (tx t) 0).1, 0, 0) := by
  have hc := lexN_count (tx t) 0
  rw [tx_len] at hc
  unfold lexR
  rw [if_neg (by omega), lexA_N, List.getElem?_eq_none (by omega), h]
theorem lexR_some {t : ByteArray} (ht : t.size ≤ 5000) {e p : Nat} (h : (lexN (tx t) 0).2 = some (e, p)) : lexR t = ([], (e : Int), (p : Int)) := by
  have hc := lexN_count (tx t) 0
  rw [tx_len] at hc
  unfold lexR
  rw [if_neg (by omega), lexA_N, List.getElem?_eq_none (by omega), h]
theorem begin_law {t : ByteArray} (ht : t.size ≤ 5000) {e p : Nat} (h : (lexN (tx t) 0).2 = some (e, p)) : p < t.size ∧ e ≠ 0 ∧ (∃ l, lexR (t.extract 0 p) = (l, 0, 0)) ∧ lexR (t.extract p t.size) = ([], (e : Int), 0) := by
  have hp := lexN_errpos _ _ _ _ h
  rw [tx_len, Nat.zero_add] at hp
  obtain ⟨h1, h2⟩ := lexN_begin _ _ _ _ h
  rw [Nat.sub_zero] at h1 h2
  have e1 : tx (t.extract 0 p) = (tx t).take p := by rw [tx_extract]; rfl
  have e2 : tx (t.extract p t.size) = (tx t).drop p := by rw [tx_extract, List.take_of_length_le (by rw [tx_len]; exact Nat.le_refl _)]
  refine ⟨hp.2.1, hp.2.2, ⟨_, lexR_none (by rw [ByteArray.size_extract]; omega) (by rw [e1]; exact h1)⟩, ?_⟩
  exact lexR_some (by rw [ByteArray.size_extract]; omega) (by rw [e2, h2])
end Go.Proofs.Ytfdjlphfohnnnaa
/-
  The laws on tokens, in plain terms: strings in quotes, names, a name with a symbol and a number.
-/
namespace Go.Proofs.Ytfdjlphfohnnnaa
set_option linter.unusedVariables false
set_option linter.unusedSimpArgs false

/-- What is written in quotes is read back. -/
theorem unqL_quote : ∀ (l m : List UInt8), unqL (l.flatMap escB ++ 34 :: m) = some (l, (l.flatMap escB).length + 1)
  | [], m => by rw [List.flatMap_nil, List.nil_append, uq_q rfl]; rfl
  | c :: r, m => by
    have ih := unqL_quote r m
    rw [List.flatMap_cons, List.append_assoc]
    by_cases h10 : c.toNat = 10
    · have hc : c = 10 := UInt8.toNat.inj (by rw [h10]; rfl)
      subst hc
      show unqL (92 :: 110 :: (r.flatMap escB ++ 34 :: m)) = _
      rw [uq_b rfl, ih]
      all_goals rfl
    · by_cases h2 : c.toNat = 34 ∨ c.toNat = 92
      · have he : escB c = [92, c] := by unfold escB; rw [if_neg h10, if_pos h2]
        rw [he]
        show unqL (92 :: c :: (r.flatMap escB ++ 34 :: m)) = _
        rw [uq_b rfl]
        have hd : escOf c = some c := by
          rcases h2 with h | h
          · have : c = 34 := UInt8.toNat.inj (by rw [h]; rfl)
            subst this; rfl
          · have : c = 92 := UInt8.toNat.inj (by rw [h]; rfl)
            subst this; rfl
        rw [hd]
        simp only
        rw [ih]
        all_goals rfl
      · have he : escB c = [c] := by unfold escB; rw [if_neg h10, if_neg h2]
        rw [he]
        show unqL (c :: (r.flatMap escB ++ 34 :: m)) = _
        rw [uq_c (fun h => h2 (.inl h)) h10 (fun h => h2 (.inr h)), ih]
        simp [Nat.add_comm]
theorem quoteL_inj {l m : List UInt8} (h : quoteL l = quoteL m) : l = m := by
  have h1 := unqL_quote l []
  have h2 := unqL_quote m []
  unfold quoteL at h
  rw [(List.cons.inj h).2, h2] at h1
  exact ((Prod.mk.inj (Option.some.inj h1)).1).symm
theorem escB_len (c : UInt8) : (escB c).length ≤ 2 := by
  unfold escB
  split
  · exact Nat.le_refl _
  · split <;> simp
theorem quoteL_len (l : List UInt8) : (quoteL l).length ≤ 2 * l.length + 2 ∧ 2 ≤ (quoteL l).length := by
  have : ∀ l : List UInt8, (l.flatMap escB).length ≤ 2 * l.length := by
    intro l
    induction l with
    | nil => exact Nat.le_refl _
    | cons c r ih => have := escB_len c; rw [List.flatMap_cons, List.length_append, List.length_cons]; omega
  have := this l
  simp only [quoteL, List.length_cons, List.length_append, List.length_nil]
  omega
theorem tokC_q34 (r : List UInt8) : tokC 34 r = match unqL r with | some p => .tok 3 p.1 (p.2 + 1) | none => .err 10 := tokC_quote (by decide) (by decide) rfl
theorem tokC_quoted (l m : List UInt8) : tokC 34 (l.flatMap escB ++ 34 :: m) = .tok 3 l (quoteL l).length := by
  rw [tokC_q34, unqL_quote]
  simp [quoteL]
/-- A token alone. -/
theorem lexN_one {c : UInt8} {r : List UInt8} {k : Nat} {s : List UInt8} {a : Nat} (h1 : isBlank c = false) (h2 : ¬ c.toNat = 35) (h : tokC c r = .tok k s (r.length + 1)) : lexN (c :: r) a = ([⟨k, ofL s, a⟩], none) := by
  rw [lexN_tok (skipM_cons h1 h2) h]
  have : (c :: r).drop (r.length + 1) = [] := List.drop_eq_nil_of_le (by simp)
  rw [this, lexN_nil rfl, Nat.sub_self, Nat.add_zero]
theorem lexN_quote (l : List UInt8) (a : Nat) : lexN (quoteL l) a = ([⟨3, ofL l, a⟩], none) := by
  refine lexN_one (by decide) (by decide) ?_
  rw [tokC_quoted]
  simp [quoteL]
theorem letter_gap {c : UInt8} (h : isLetter c = true) : isBlank c = false ∧ ¬ c.toNat = 35 := by
  have hw : isLetter c = true → isBlank c = false ∧ ¬ c.toNat = 35 := by
    intro h
    constructor
    · cases hb : isBlank c with
      | false => rfl
      | true =>
        have := (isBlank_iff c).1 hb
        simp [isLetter] at h
        omega
    · intro h35
      simp [isLetter, h35] at h
  exact hw h
theorem digit_gap {c : UInt8} (h : isDigit c = true) : isBlank c = false ∧ ¬ c.toNat = 35 ∧ isLetter c = false := by
  refine ⟨?_, ?_, ?_⟩
  · cases hb : isBlank c with
    | false => rfl
    | true =>
      have := (isBlank_iff c).1 hb
      simp [isDigit] at h
      omega
  · intro h35
    simp [isDigit, h35] at h
  · cases hb : isLetter c with
    | false => rfl
    | true => simp [isDigit] at h; simp [isLetter] at hb; omega
theorem all_takeWhile {p : UInt8 → Bool} {l : List UInt8} (h : l.all p = true) : l.takeWhile p = l := by
  induction l with
  | nil => rfl
  | cons c r ih =>
    rw [List.all_cons, Bool.and_eq_true] at h
    rw [List.takeWhile_cons_of_pos h.1, ih h.2]
theorem takeWhile_all {p : UInt8 → Bool} (l : List UInt8) : (l.takeWhile p).all p = true := by
  induction l with
  | nil => rfl
  | cons c r ih =>
    cases hc : p c with
    | true => rw [List.takeWhile_cons_of_pos hc, List.all_cons, hc, ih]; rfl
    | false => rw [List.takeWhile_cons_of_neg (by rw [hc]; simp)]; rfl
/-- A name before something that is no part of it. -/
theorem tokC_name {c : UInt8} {r y : List UInt8} (h : nameL (c :: r) = true) (hy : headIs isWord y = false) : tokC c (r ++ y) = .tok 1 (c :: r) (r.length + 1) := by
  simp only [nameL, Bool.and_eq_true, decide_eq_true_iff] at h
  obtain ⟨⟨h1, h2⟩, h3⟩ := h
  rw [tokC_word h1, ← List.cons_append, takeWhile_more (all_takeWhile h2), takeWhile_head hy, List.append_nil, if_neg (by omega)]
  all_goals rfl
theorem lexN_name {l : List UInt8} (h : nameL l = true) (a : Nat) : lexN l a = ([⟨1, ofL l, a⟩], none) := by
  cases l with
  | nil => cases h
  | cons c r =>
    have hl : isLetter c = true := by simp only [nameL, Bool.and_eq_true] at h; exact h.1.1
    have ht := tokC_name (y := []) h rfl
    rw [List.append_nil] at ht
    exact lexN_one (letter_gap hl).1 (letter_gap hl).2 ht
theorem tokC_kind1 {c : UInt8} {r : List UInt8} {s : List UInt8} {n : Nat} (h : tokC c r = .tok 1 s n) : nameL s = true := by
  cases h1 : isLetter c with
  | true =>
    rw [tokC_word h1] at h
    split at h
    · cases h
    · rename_i h24
      cases h
      have hw : isWord c = true := by simp [isWord, h1]
      rw [List.takeWhile_cons_of_pos hw] at h24 ⊢
      simp only [nameL, h1, List.all_cons, hw, takeWhile_all, Bool.true_and, Bool.and_self, decide_eq_true_iff]
      omega
  | false =>
    cases h2 : isDigit c with
    | true => rw [tokC_digit h1 h2] at h; split at h <;> cases h
    | false =>
      by_cases h3 : c.toNat = 34
      · rw [tokC_quote h1 h2 h3] at h; split at h <;> cases h
      · rw [tokC_sym h1 h2 h3] at h; split at h <;> cases h
theorem lexN_kind1 {l : List UInt8} {a p : Nat} {t : ByteArray} {q : List Tk} {o : Option (Nat × Nat)} (h : lexN l a = (⟨1, t, p⟩ :: q, o)) : nameL (tx t) = true := by
  cases hs : skipM false l with
  | nil => rw [lexN_nil hs] at h; cases h
  | cons c r =>
    cases ht : tokC c r with
    | err e => rw [lexN_err hs ht] at h; cases h
    | tok k s n =>
      rw [lexN_tok hs ht] at h
      have h1 := (List.cons.inj (Prod.mk.inj h).1).1
      have hk : k = 1 := congrArg Tk.kind h1
      have hx : ofL s = t := congrArg Tk.text h1
      subst hk; subst hx
      rw [tx_ofL]
      exact tokC_kind1 ht
def name1 (t : ByteArray) : List Tk := [⟨1, t, 0⟩]
/-- A text is a name exactly if it is one token with this text. -/
theorem names_law {t : ByteArray} (ht : t.size ≤ 5000) : (nameL (tx t) = true → lexR t = (name1 t, 0, 0)) ∧ (nameL (tx t) = false → ∀ l, lexR t = (l, 0, 0) → l ≠ name1 t) := by
  constructor
  · intro h
    have := lexN_name h 0
    rw [lexR_none ht (by rw [this]), this, ofL_tx]
    all_goals rfl
  · intro h l hR hl
    subst hl
    cases hn : (lexN (tx t) 0).2 with
    | some p =>
      rw [lexR_some ht (e := p.1) (p := p.2) hn] at hR
      cases (Prod.mk.inj hR).1
    | none =>
      rw [lexR_none ht hn] at hR
      have h1 := (Prod.mk.inj hR).1
      have : lexN (tx t) 0 = (⟨1, t, 0⟩ :: [], none) := by rw [← hn, ← show (lexN (tx t) 0).1 = ⟨1, t, 0⟩ :: [] from h1]
      have := lexN_kind1 this
      rw [h] at this
      cases this
/-! ### Digits -/
def digB (n : Nat) : UInt8 := (48 + n % 10).toUInt8
def decL : Nat → Nat → List UInt8
  | 0, n => [digB n]
  | f + 1, n => if n < 10 then [digB n] else decL f (n / 10) ++ [digB n]
theorem digB_digit (n : Nat) : isDigit (digB n) = true := by
  have : (digB n).toNat = 48 + n % 10 := by simp [digB]; omega
  simp [isDigit, this]; omega
theorem decL_digit : ∀ (f n : Nat), (decL f n).all isDigit = true
  | 0, n => by simp [decL, digB_digit]
  | f + 1, n => by
    unfold decL
    split
    · simp [digB_digit]
    · rw [List.all_append, decL_digit f]; simp [digB_digit]
theorem decL_len : ∀ (f n : Nat), (decL f n).length ≤ f + 1 ∧ 1 ≤ (decL f n).length
  | 0, n => by simp [decL]
  | f + 1, n => by
    unfold decL
    have := decL_len f (n / 10)
    split
    · simp
    · rw [List.length_append]; simp; omega
theorem sym_all (x : UInt8) (h : isSym x = true) : (!isWord x && !isLetter x && !isDigit x && !isBlank x && !decide (x.toNat = 35) && !decide (x.toNat = 34)) = true := by
  have key : ((List.range 256).all fun n => (!isSym n.toUInt8) || (!isWord n.toUInt8 && !isLetter n.toUInt8 && !isDigit n.toUInt8 && !isBlank n.toUInt8 && !decide (n.toUInt8.toNat = 35) && !decide (n.toUInt8.toNat = 34))) = true := by kernel_rfl
  have := List.all_eq_true.1 key x.toNat (by simpa using x.toNat_lt)
  rw [show (x.toNat).toUInt8 = x from UInt8.toNat.inj (by simp)] at this
  rw [h] at this
  simpa using this
/-- A name, a symbol, a number. -/
theorem lexN_three {l d : List UInt8} {x : UInt8} (hl : nameL l = true) (hx : isSym x = true) (hd : d.all isDigit = true) (hd1 : 1 ≤ d.length) (hd7 : d.length ≤ 7) (a : Nat) :
    lexN (l ++ x :: d) a = ([⟨1, ofL l, a⟩, ⟨4, ofL [x], a + l.length⟩, ⟨2, ofL d, a + l.length + 1⟩], none) := by
  have hxs := sym_all x hx
  simp only [Bool.and_eq_true, Bool.not_eq_true', decide_eq_false_iff_not] at hxs
  obtain ⟨⟨⟨⟨⟨x1, x2⟩, x3⟩, x4⟩, x5⟩, x6⟩ := hxs
  cases l with
  | nil => cases hl
  | cons c r =>
    have hlet : isLetter c = true := by simp only [nameL, Bool.and_eq_true] at hl; exact hl.1.1
    have ht := tokC_name (y := x :: d) hl (by simpa [headIs] using x1)
    rw [List.cons_append, lexN_tok (skipM_cons (letter_gap hlet).1 (letter_gap hlet).2) ht]
    have e1 : (c :: (r ++ x :: d)).drop (r.length + 1) = x :: d := by rw [List.drop_succ_cons, List.drop_left]
    rw [e1]
    have hts : tokC x d = .tok 4 [x] 1 := by rw [tokC_sym x2 x3 x6, if_pos hx]
    rw [lexN_tok (skipM_cons x4 x5) hts]
    simp only [List.drop_succ_cons, List.drop_zero, Nat.sub_self, Nat.add_zero, List.length_cons]
    cases d with
    | nil => cases hd1
    | cons y z =>
      have hy : isDigit y = true := by rw [List.all_cons, Bool.and_eq_true] at hd; exact hd.1
      obtain ⟨y1, y2, y3⟩ := digit_gap hy
      have htd : tokC y z = .tok 2 (y :: z) (z.length + 1) := by
        rw [tokC_digit y3 hy, all_takeWhile hd]
        have : (y :: z).dropWhile isDigit = [] := by rw [dropWhile_drop, all_takeWhile hd, List.drop_length]
        rw [this, if_neg (by simp only [List.length_cons] at hd7; simp [headIs]; omega)]
        all_goals rfl
      rw [lexN_one y1 y2 htd]
end Go.Proofs.Ytfdjlphfohnnnaa
/-
  The laws on tokens, in plain terms: tokens written and read again; places; gaps.
-/
namespace Go.Proofs.Ytfdjlphfohnnnaa
set_option linter.unusedVariables false
set_option linter.unusedSimpArgs false

/-- How a token is written. -/
def writ (k : Nat) (s : List UInt8) : List UInt8 := if k = 3 then quoteL s else s
def writT (x : Tk) : List UInt8 := writ x.kind (tx x.text)
def wrL (l : List Tk) : List UInt8 := l.flatMap fun x => writT x ++ [32]
/-- What a string in quotes took. -/
theorem unqL_inv : ∀ (l : List UInt8) (s : List UInt8) (n : Nat), unqL l = some (s, n) → l.take n = s.flatMap escB ++ [34]
  | [], s, n, h => by simp [unqL] at h
  | c :: r, s, n, h => by
    by_cases h1 : c.toNat = 34
    · rw [uq_q h1] at h
      cases h
      have : c = 34 := UInt8.toNat.inj (by rw [h1]; rfl)
      subst this; rfl
    · by_cases h2 : c.toNat = 10
      · rw [uq_nl h1 h2] at h; cases h
      · by_cases h3 : c.toNat = 92
        · have hc : c = 92 := UInt8.toNat.inj (by rw [h3]; rfl)
          subst hc
          cases r with
          | nil => rw [uq_b0 h3] at h; cases h
          | cons d r' =>
            rw [uq_b h3] at h
            cases he : escOf d with
            | none => rw [he] at h; cases h
            | some e =>
              rw [he] at h
              simp only at h
              obtain ⟨p, hp, hq⟩ := Option.map_eq_some_iff.1 h
              cases hq
              rw [List.take_succ_cons, List.take_succ_cons, unqL_inv r' p.1 p.2 hp, List.flatMap_cons]
              have : escB e = [92, d] := by
                unfold escOf at he
                split at he
                · rename_i hd
                  cases he
                  have : d = 92 := UInt8.toNat.inj (by rw [hd]; rfl)
                  subst this; rfl
                · split at he
                  · rename_i hd
                    cases he
                    have : d = 34 := UInt8.toNat.inj (by rw [hd]; rfl)
                    subst this; rfl
                  · split at he
                    · rename_i hd
                      cases he
                      have : d = 110 := UInt8.toNat.inj (by rw [hd]; rfl)
                      subst this; rfl
                    · cases he
              rw [this]; rfl
        · rw [uq_c h1 h2 h3] at h
          obtain ⟨p, hp, hq⟩ := Option.map_eq_some_iff.1 h
          cases hq
          rw [List.take_succ_cons, unqL_inv r p.1 p.2 hp, List.flatMap_cons]
          have : escB c = [c] := by unfold escB; rw [if_neg h2, if_neg (by omega)]
          rw [this]; rfl
/-- A token stands as it is written. -/
theorem tokC_writ {c : UInt8} {r : List UInt8} {k n : Nat} {s : List UInt8} (h : tokC c r = .tok k s n) : (c :: r).take n = writ k s ∧ (writ k s).length = n := by
  have hn := tokL_len c r k s n h
  have key : (c :: r).take n = writ k s := by
    cases h1 : isLetter c with
    | true =>
      rw [tokC_word h1] at h
      split at h
      · cases h
      · cases h; exact takeWhile_take _
    | false =>
      cases h2 : isDigit c with
      | true =>
        rw [tokC_digit h1 h2] at h
        split at h
        · cases h
        · cases h; exact takeWhile_take _
      | false =>
        by_cases h3 : c.toNat = 34
        · rw [tokC_quote h1 h2 h3] at h
          cases hu : unqL r with
          | none => rw [hu] at h; cases h
          | some p =>
            rw [hu] at h
            cases h
            have hc : c = 34 := UInt8.toNat.inj (by rw [h3]; rfl)
            subst hc
            rw [List.take_succ_cons, unqL_inv r p.1 p.2 hu]; rfl
        · rw [tokC_sym h1 h2 h3] at h
          split at h
          · cases h; rfl
          · cases h
  refine ⟨key, ?_⟩
  rw [← key, List.length_take]; omega
/-- A token, written, before something that may stand there. -/
theorem tokC_again {c : UInt8} {r y : List UInt8} {k n : Nat} {s : List UInt8} (h : tokC c r = .tok k s n) (hy : Ends k y) : ∃ u, writ k s = c :: u ∧ u.length + 1 = n ∧ tokC c (u ++ y) = .tok k s n := by
  obtain ⟨h1, h2⟩ := tokC_writ h
  have hn := tokL_len c r k s n h
  refine ⟨r.take (n - 1), ?_, ?_, ?_⟩
  · rw [← h1, cons_take hn.1]
  · rw [List.length_take]; simp only [List.length_cons] at hn; omega
  · refine tokC_ext (tokC_cut h).1 ?_ hy
    rw [List.length_take]; simp only [List.length_cons] at hn; omega
theorem lexN_writ {c : UInt8} {r y : List UInt8} {k n a : Nat} {s : List UInt8} (h1 : isBlank c = false) (h2 : ¬ c.toNat = 35) (h : tokC c r = .tok k s n) (hy : Ends k y) :
    lexN (writ k s ++ y) a = (⟨k, ofL s, a⟩ :: (lexN y (a + n)).1, (lexN y (a + n)).2) := by
  obtain ⟨u, e1, e2, e3⟩ := tokC_again h hy
  rw [e1, List.cons_append, lexN_tok (skipM_cons h1 h2) e3, ← List.cons_append]
  have : (c :: u ++ y).drop n = y := by rw [← e2, List.cons_append, List.drop_succ_cons, List.drop_left]
  rw [this, Nat.sub_self, Nat.add_zero]
theorem ends_blank {k : Nat} {x : UInt8} {m : List UInt8} (hx : isWord x = false) : Ends k (x :: m) := fun _ => by simpa [headIs] using hx
theorem lexN_blank (m : List UInt8) (a : Nat) : lexN (32 :: m) a = lexN m (a + 1) := lexN_skip (d := 1) (by simp [skipM, show isBlank 32 = true from by decide]) rfl
theorem lexN_again (l : List UInt8) (a : Nat) : (lexN l a).2 = none → ∀ b, (lexN (wrL (lexN l a).1) b).2 = none ∧ (lexN l a).1.map (fun x => (x.kind, x.text)) = (lexN (wrL (lexN l a).1) b).1.map (fun x => (x.kind, x.text)) := by
  refine lexN_ind (P := fun l a => (lexN l a).2 = none → ∀ b, (lexN (wrL (lexN l a).1) b).2 = none ∧ (lexN l a).1.map (fun x => (x.kind, x.text)) = (lexN (wrL (lexN l a).1) b).1.map (fun x => (x.kind, x.text)))
    (fun l a h => ?_) (fun l a c r e hs ht => ?_) (fun l a c r k s n hs ht ih => ?_) l.length l a (Nat.le_refl _)
  · rw [lexN_nil h]
    intro _ b
    rw [show wrL ([] : List Tk) = [] from rfl, lexN_nil rfl]
    exact ⟨rfl, rfl⟩
  · rw [lexN_err hs ht]; intro h; cases h
  · obtain ⟨h1, h2⟩ := skipM_head _ _ _ _ hs
    rw [lexN_tok hs ht]
    intro h b
    have e : wrL (⟨k, ofL s, a + (l.length - (c :: r).length)⟩ :: (lexN ((c :: r).drop n) (a + (l.length - (c :: r).length) + n)).1) = writ k s ++ (32 :: wrL (lexN ((c :: r).drop n) (a + (l.length - (c :: r).length) + n)).1) := by
      simp only [wrL, List.flatMap_cons, writT, tx_ofL, List.append_assoc]; rfl
    rw [e, lexN_writ h1 h2 ht (ends_blank (by decide)), lexN_blank]
    obtain ⟨i1, i2⟩ := ih h (b + n + 1)
    exact ⟨i1, by simp only [List.map_cons, i2]⟩
/-- Where tokens stand. -/
theorem lexN_pos (l : List UInt8) (a : Nat) : ∀ x ∈ (lexN l a).1, x.pos < a + l.length ∧ (writT x).length ≤ l.length := by
  refine lexN_ind (P := fun l a => ∀ x ∈ (lexN l a).1, x.pos < a + l.length ∧ (writT x).length ≤ l.length) (fun l a h => ?_) (fun l a c r e hs ht => ?_) (fun l a c r k s n hs ht ih => ?_) l.length l a (Nat.le_refl _)
  · rw [lexN_nil h]; intro x h; cases h
  · rw [lexN_err hs ht]; intro x h; cases h
  · obtain ⟨h3, h4⟩ := tokL_len c r k s n ht
    have hle := skipM_le false l
    rw [hs] at hle
    rw [lexN_tok hs ht]
    intro x hx
    cases hx with
    | head =>
      have := (tokC_writ ht).2
      simp only [writT, tx_ofL, this]
      simp only [List.length_cons] at *
      omega
    | tail _ hx =>
      have := ih x hx
      rw [List.length_drop] at this
      simp only [List.length_cons] at *
      omega
/-- The tokens, written with a blank after each, have no more than twice the bytes. -/
theorem wrL_len (l : List UInt8) (a : Nat) : (wrL (lexN l a).1).length ≤ 2 * l.length := by
  refine lexN_ind (P := fun l a => (wrL (lexN l a).1).length ≤ 2 * l.length) (fun l a h => ?_) (fun l a c r e hs ht => ?_) (fun l a c r k s n hs ht ih => ?_) l.length l a (Nat.le_refl _)
  · rw [lexN_nil h]; exact Nat.zero_le _
  · rw [lexN_err hs ht]; exact Nat.zero_le _
  · obtain ⟨h3, h4⟩ := tokL_len c r k s n ht
    have hle := skipM_le false l
    rw [hs] at hle
    rw [lexN_tok hs ht]
    have e : wrL (⟨k, ofL s, a + (l.length - (c :: r).length)⟩ :: (lexN ((c :: r).drop n) (a + (l.length - (c :: r).length) + n)).1) = writ k s ++ (32 :: wrL (lexN ((c :: r).drop n) (a + (l.length - (c :: r).length) + n)).1) := by
      simp only [wrL, List.flatMap_cons, writT, tx_ofL, List.append_assoc]; rfl
    have := (tokC_writ ht).2
    rw [e, List.length_append, List.length_cons, this]
    rw [List.length_drop] at ih
    simp only [List.length_cons] at *
    omega
/-- Places: each token stands behind the one before, as it is written, and only gaps are between. -/
def PlaceL (t : List UInt8) : List Tk → Nat → Prop
  | [], e => e ≤ t.length ∧ skipM false (t.drop e) = []
  | x :: r, e => e ≤ x.pos ∧ 1 ≤ (writT x).length ∧ x.pos + (writT x).length ≤ t.length ∧ (t.take (x.pos + (writT x).length)).drop x.pos = writT x ∧ skipM false ((t.take x.pos).drop e) = [] ∧ PlaceL t r (x.pos + (writT x).length)
theorem lexN_place (t : List UInt8) (l : List UInt8) (a : Nat) : t.drop a = l → a ≤ t.length → (lexN l a).2 = none → PlaceL t (lexN l a).1 a := by
  refine lexN_ind (P := fun l a => t.drop a = l → a ≤ t.length → (lexN l a).2 = none → PlaceL t (lexN l a).1 a) (fun l a h => ?_) (fun l a c r e hs ht => ?_) (fun l a c r k s n hs ht ih => ?_) l.length l a (Nat.le_refl _)
  · intro hd ha _
    rw [lexN_nil h]
    exact ⟨ha, by rw [hd]; exact h⟩
  · intro _ _
    rw [lexN_err hs ht]; intro h; cases h
  · intro hd ha
    obtain ⟨h3, h4⟩ := tokL_len c r k s n ht
    obtain ⟨g, hg⟩ := skipM_suffix false l
    rw [hs] at hg
    have hgl : l.length - (c :: r).length = g.length := by rw [hg]; simp
    have hsg := skipM_g false g c r (by rw [← hg]; exact hs)
    obtain ⟨w1, w2⟩ := tokC_writ ht
    have hlen : t.length = a + g.length + (c :: r).length := by
      have := congrArg List.length hd
      rw [List.length_drop, hg, List.length_append] at this
      omega
    rw [lexN_tok hs ht, hgl]
    intro h
    have hd2 : t.drop (a + g.length) = c :: r := by rw [← List.drop_drop, hd, hg, List.drop_left]
    rw [hgl] at ih
    have hW : writT ⟨k, ofL s, a + g.length⟩ = writ k s := by simp only [writT, tx_ofL]
    refine ⟨Nat.le_add_right _ _, by rw [hW, w2]; exact h3, by rw [hW, w2]; show a + g.length + n ≤ _; omega, ?_, ?_, ?_⟩
    · rw [hW, w2]
      show (t.take (a + g.length + n)).drop (a + g.length) = _
      rw [List.drop_take, hd2, Nat.add_sub_cancel_left, w1]
    · show skipM false ((t.take (a + g.length)).drop a) = []
      rw [List.drop_take, hd, Nat.add_sub_cancel_left, hg, List.take_left]
      exact hsg.2
    · rw [hW, w2]
      exact ih (by rw [← List.drop_drop, hd2]) (by omega) h
/-! ### Gaps put in -/
theorem gap_head {g y : List UInt8} {x : UInt8} (hx : x.toNat = 10) (h : skipM false g = []) : headIs isWord (g ++ x :: y) = false := by
  cases g with
  | nil => simpa [headIs] using (word_nl hx).1
  | cons c r =>
    rw [List.cons_append]
    have hc : isBlank c = true ∨ c.toNat = 35 := by
      simp only [skipM] at h
      split at h
      · rename_i hb; exact .inl hb
      · split at h
        · rename_i h35; exact .inr h35
        · cases h
    have : isWord c = false := by
      cases hw : isWord c with
      | false => rfl
      | true =>
        exfalso
        simp only [isWord, Bool.or_eq_true, decide_eq_true_iff] at hw
        rcases hw with (hw | hw) | hw
        · obtain ⟨q1, q2⟩ := letter_gap hw
          rcases hc with hc | hc
          · rw [q1] at hc; cases hc
          · exact q2 hc
        · obtain ⟨q1, q2, -⟩ := digit_gap hw
          rcases hc with hc | hc
          · rw [q1] at hc; cases hc
          · exact q2 hc
        · rcases hc with hc | hc
          · rw [isBlank_iff] at hc; omega
          · omega
    simpa [headIs] using this
theorem skipM_gap {g y : List UInt8} {x : UInt8} (hx : x.toNat = 10) (h : skipM false g = []) : skipM false (g ++ x :: y) = skipM false y := by
  have := skipM_nl false g x y hx
  rw [h] at this
  exact this
/-- Gaps with a line feed before a text. -/
theorem lexN_gap {g y : List UInt8} {x : UInt8} (hx : x.toNat = 10) (h : skipM false g = []) (a : Nat) : lexN (g ++ x :: y) a = lexN y (a + (g.length + 1)) :=
  lexN_skip (skipM_gap hx h) (by simp; omega)
def kt (x : Tk) : Nat × ByteArray := (x.kind, x.text)
theorem lexN_kt (l : List UInt8) (a b : Nat) : (lexN l a).1.map kt = (lexN l b).1.map kt ∧ ((lexN l a).2 = none ↔ (lexN l b).2 = none) := by
  have key : ∀ d, (lexN l d).1.map kt = (lexN l 0).1.map kt ∧ ((lexN l d).2 = none ↔ (lexN l 0).2 = none) := by
    intro d
    have := lexN_shift d l 0
    rw [Nat.zero_add] at this
    rw [this]
    simp [kt, shiftT, Function.comp_def]
  exact ⟨(key a).1.trans (key b).1.symm, (key a).2.trans (key b).2.symm⟩
/-- .. behind one of its tokens. -/
theorem lexN_mid {g : List UInt8} {x : UInt8} (hx : x.toNat = 10) (hg0 : skipM false g = []) (l : List UInt8) (a : Nat) : (lexN l a).2 = none → ∀ (i : Nat) (tk : Tk), (lexN l a).1[i]? = some tk →
    ∃ j, tk.pos + (writT tk).length = a + j ∧ j ≤ l.length ∧ ∀ b, (lexN (l.take j ++ (g ++ x :: l.drop j)) b).2 = none ∧ (lexN (l.take j ++ (g ++ x :: l.drop j)) b).1.map kt = (lexN l a).1.map kt := by
  refine lexN_ind (P := fun l a => (lexN l a).2 = none → ∀ (i : Nat) (tk : Tk), (lexN l a).1[i]? = some tk →
    ∃ j, tk.pos + (writT tk).length = a + j ∧ j ≤ l.length ∧ ∀ b, (lexN (l.take j ++ (g ++ x :: l.drop j)) b).2 = none ∧ (lexN (l.take j ++ (g ++ x :: l.drop j)) b).1.map kt = (lexN l a).1.map kt) (fun l a h => ?_) (fun l a c r e hs ht => ?_) (fun l a c r k s n hs ht ih => ?_) l.length l a (Nat.le_refl _)
  · rw [lexN_nil h]; intro _ i tk h; simp at h
  · rw [lexN_err hs ht]; intro h; cases h
  · obtain ⟨h3, h4⟩ := tokL_len c r k s n ht
    obtain ⟨g0, hg⟩ := skipM_suffix false l
    rw [hs] at hg
    have hgl : l.length - (c :: r).length = g0.length := by rw [hg]; simp
    have hsg := skipM_g false g0 c r (by rw [← hg]; exact hs)
    obtain ⟨w1, w2⟩ := tokC_writ ht
    rw [lexN_tok hs ht, hgl]
    rw [hgl] at ih
    intro h i tk hi
    have hlen : l.length = g0.length + (c :: r).length := by rw [hg, List.length_append]
    -- the text up to a place behind this token
    have hpre : ∀ j, n ≤ j → l.take (g0.length + j) = g0 ++ (c :: r).take j ∧ l.drop (g0.length + j) = (c :: r).drop j := by
      intro j hj
      rw [hg]
      constructor
      · rw [List.take_append, List.take_of_length_le (by omega), Nat.add_sub_cancel_left]
      · rw [List.drop_append, List.drop_eq_nil_of_le (by omega), Nat.add_sub_cancel_left, List.nil_append]
    cases i with
    | zero =>
      simp only [List.getElem?_cons_zero, Option.some.injEq] at hi
      subst hi
      refine ⟨g0.length + n, by simp only [writT, tx_ofL, w2]; omega, by omega, fun b => ?_⟩
      obtain ⟨p1, p2⟩ := hpre n (Nat.le_refl _)
      have hE : Ends k (g ++ x :: (c :: r).drop n) := fun _ => gap_head hx hg0
      obtain ⟨u, e1, e2, e3⟩ := tokC_again ht hE
      rw [p1, p2, w1, e1, List.append_assoc, List.cons_append, lexN_tok (hsg.1 _) e3]
      have hd : (c :: (u ++ (g ++ x :: (c :: r).drop n))).drop n = g ++ x :: (c :: r).drop n := by rw [← e2, List.drop_succ_cons, List.drop_left]
      rw [hd, lexN_gap hx hg0]
      have hk := lexN_kt ((c :: r).drop n) (b + ((g0 ++ c :: (u ++ (g ++ x :: (c :: r).drop n))).length - (c :: (u ++ (g ++ x :: (c :: r).drop n))).length) + n + (g.length + 1)) (a + g0.length + n)
      exact ⟨hk.2.2 h, by simp only [List.map_cons, hk.1]; rfl⟩
    | succ i =>
      simp only [List.getElem?_cons_succ] at hi
      obtain ⟨j, q1, q2, q3⟩ := ih h i tk hi
      rw [List.length_drop] at q2
      refine ⟨g0.length + (n + j), by rw [q1]; omega, by omega, fun b => ?_⟩
      obtain ⟨p1, p2⟩ := hpre (n + j) (Nat.le_add_right _ _)
      have e4 : (c :: r).take (n + j) = (c :: r).take n ++ ((c :: r).drop n).take j := by rw [List.take_add]
      have e5 : (c :: r).drop (n + j) = ((c :: r).drop n).drop j := by rw [List.drop_drop]
      have hE : Ends k (((c :: r).drop n).take j ++ (g ++ x :: ((c :: r).drop n).drop j)) := by
        intro hk
        have h0 := (tokC_cut ht).2 hk
        rw [cons_drop h3] at h0
        cases hh : ((c :: r).drop n).take j with
        | nil => exact gap_head hx hg0
        | cons y z =>
          have := headIs_take (j := j) h0
          rw [hh] at this
          exact this
      obtain ⟨u, e1, e2, e3⟩ := tokC_again ht hE
      rw [p1, p2, e4, e5, w1, e1, List.append_assoc, List.append_assoc, List.cons_append, lexN_tok (hsg.1 _) e3]
      have hd : (c :: (u ++ (((c :: r).drop n).take j ++ (g ++ x :: ((c :: r).drop n).drop j)))).drop n = ((c :: r).drop n).take j ++ (g ++ x :: ((c :: r).drop n).drop j) := by rw [← e2, List.drop_succ_cons, List.drop_left]
      rw [hd]
      obtain ⟨s1, s2⟩ := q3 (b + ((g0 ++ c :: (u ++ (((c :: r).drop n).take j ++ (g ++ x :: ((c :: r).drop n).drop j)))).length - (c :: (u ++ (((c :: r).drop n).take j ++ (g ++ x :: ((c :: r).drop n).drop j)))).length) + n)
      exact ⟨s1, by simp only [List.map_cons, s2]; rfl⟩
/-- .. and behind it all. -/
theorem lexN_behind {g y : List UInt8} {x : UInt8} (hx : x.toNat = 10) (h : skipM false g = []) (a : Nat) (hy : (lexN y a).2 = none) : lexN (y ++ x :: g) a = lexN y a := by
  rw [(lexN_nl x hx g y a).1 hy, lexN_nil h, List.append_nil, ← hy]
end Go.Proofs.Ytfdjlphfohnnnaa
/-
  The text of a catalog in plain terms: its bytes, its tokens.
-/
namespace Go.Proofs.Ytfdjlphfohnnnaa
open Go.RowKit Go.Sy
set_option linter.unusedVariables false
set_option linter.unusedSimpArgs false
abbrev KT := Nat × ByteArray
def namesT (l : List ByteArray) : List KT := l.map fun x => (1, x)
def slotT (s : PSlot) : List KT := (1, s.name) :: (4, colon) :: (namesT (s.kinds.take s.normal) ++ (if s.normal < s.kinds.length then (4, plus) :: namesT (s.kinds.drop s.normal) else []))
def slotsT : List PSlot → List KT
  | [] => []
  | s :: r => slotT s ++ (match r with | [] => [] | _ :: _ => (4, semi) :: slotsT r)
def kindT (k : PKind) : List KT := (1, if k.vehicle then wVehicle else wKind) :: (1, k.name) :: ((match k.slots with | [] => [] | _ :: _ => (4, lpar) :: (slotsT k.slots ++ [(4, rpar)])) ++ [(4, semi)])
def catT (ks : List PKind) : List KT := ks.flatMap kindT
/-! The bytes. -/
def joinX (sep : List UInt8) : List (List UInt8) → List UInt8
  | [] => []
  | x :: r => x ++ (match r with | [] => [] | _ :: _ => sep ++ joinX sep r)
def slotX (s : PSlot) : List UInt8 := tx s.name ++ ([58, 32] ++ (joinX [32] ((s.kinds.take s.normal).map tx) ++ (if s.normal < s.kinds.length then [32, 43, 32] ++ joinX [32] ((s.kinds.drop s.normal).map tx) else [])))
def bodyX (ss : List PSlot) : List UInt8 := [40] ++ (joinX [59, 32] (ss.map slotX) ++ [41])
def lineX (k : PKind) : List UInt8 := (if k.vehicle then tx wVehicle else tx wKind) ++ ([32] ++ (tx k.name ++ ((match k.slots with | [] => [] | _ :: _ => [32] ++ bodyX k.slots) ++ [59, 10])))
def textX (ks : List PKind) : List UInt8 := ks.flatMap lineX
/-! Lexing, piece by piece: with anything behind it, or with something that begins with no byte of a word. -/
def PF (l : List UInt8) (ts : List KT) : Prop := ∀ y a, ∃ q : List Tk, q.map kt = ts ∧ lexN (l ++ y) a = (q ++ (lexN y (a + l.length)).1, (lexN y (a + l.length)).2)
def PW (l : List UInt8) (ts : List KT) : Prop := ∀ y a, headIs isWord y = false → ∃ q : List Tk, q.map kt = ts ∧ lexN (l ++ y) a = (q ++ (lexN y (a + l.length)).1, (lexN y (a + l.length)).2)
def Nw (l : List UInt8) : Prop := ∀ y, headIs isWord (l ++ y) = false
theorem Nw.cons {c : UInt8} {r : List UInt8} (h : isWord c = false) : Nw (c :: r) := fun y => by simpa [headIs] using h
theorem Nw.app {l m : List UInt8} (h : Nw l) : Nw (l ++ m) := fun y => by rw [List.append_assoc]; exact h (m ++ y)
theorem PF.nil : PF [] [] := fun y a => ⟨[], rfl, by simp⟩
theorem PW.nil : PW [] [] := fun y a _ => ⟨[], rfl, by simp⟩
theorem PF.w {l : List UInt8} {ts : List KT} (h : PF l ts) : PW l ts := fun y a _ => h y a
theorem PF.app {l m : List UInt8} {ts us : List KT} (h1 : PF l ts) (h2 : PF m us) : PF (l ++ m) (ts ++ us) := by
  intro y a
  obtain ⟨q1, e1, h1⟩ := h1 (m ++ y) a
  obtain ⟨q2, e2, h2⟩ := h2 y (a + l.length)
  refine ⟨q1 ++ q2, by rw [List.map_append, e1, e2], ?_⟩
  rw [List.append_assoc, h1, h2, List.length_append, Nat.add_assoc, List.append_assoc]
theorem PF.appW {l m : List UInt8} {ts us : List KT} (h1 : PF l ts) (h2 : PW m us) : PW (l ++ m) (ts ++ us) := by
  intro y a hy
  obtain ⟨q1, e1, h1⟩ := h1 (m ++ y) a
  obtain ⟨q2, e2, h2⟩ := h2 y (a + l.length) hy
  refine ⟨q1 ++ q2, by rw [List.map_append, e1, e2], ?_⟩
  rw [List.append_assoc, h1, h2, List.length_append, Nat.add_assoc, List.append_assoc]
theorem PW.app {l m : List UInt8} {ts us : List KT} (h1 : PW l ts) (h2 : PF m us) (hm : Nw m) : PF (l ++ m) (ts ++ us) := by
  intro y a
  obtain ⟨q1, e1, h1⟩ := h1 (m ++ y) a (hm y)
  obtain ⟨q2, e2, h2⟩ := h2 y (a + l.length)
  refine ⟨q1 ++ q2, by rw [List.map_append, e1, e2], ?_⟩
  rw [List.append_assoc, h1, h2, List.length_append, Nat.add_assoc, List.append_assoc]
theorem PW.appW {l m : List UInt8} {ts us : List KT} (h1 : PW l ts) (h2 : PW m us) (hm : m = [] ∨ Nw m) : PW (l ++ m) (ts ++ us) := by
  intro y a hy
  obtain ⟨q1, e1, h1⟩ := h1 (m ++ y) a (by rcases hm with rfl | hm; exact hy; exact hm y)
  obtain ⟨q2, e2, h2⟩ := h2 y (a + l.length) hy
  refine ⟨q1 ++ q2, by rw [List.map_append, e1, e2], ?_⟩
  rw [List.append_assoc, h1, h2, List.length_append, Nat.add_assoc, List.append_assoc]
theorem PF.blank {c : UInt8} (h : isBlank c = true) : PF [c] [] := by
  intro y a
  refine ⟨[], rfl, ?_⟩
  rw [List.nil_append, List.singleton_append, lexN_skip (l := c :: y) (l' := y) (d := 1) (by simp [skipM, h]) rfl]
  all_goals rfl
theorem PF.sym {c : UInt8} (h : isSym c = true) : PF [c] [(4, ofL [c])] := by
  intro y a
  have hs := sym_all c h
  simp only [Bool.and_eq_true, Bool.not_eq_true', decide_eq_false_iff_not] at hs
  obtain ⟨⟨⟨⟨⟨h1, h2⟩, h3⟩, h4⟩, h5⟩, h6⟩ := hs
  refine ⟨[⟨4, ofL [c], a⟩], rfl, ?_⟩
  have ht : tokC c y = .tok 4 [c] 1 := by rw [tokC_sym h2 h3 h6, if_pos h]
  rw [List.singleton_append, lexN_tok (skipM_cons h4 h5) ht]
  simp
theorem PW.name {l : List UInt8} (h : nameL l = true) : PW l [(1, ofL l)] := by
  intro y a hy
  cases l with
  | nil => cases h
  | cons c r =>
    have hl : isLetter c = true := by
      have h' := h
      simp only [nameL, Bool.and_eq_true] at h'
      exact h'.1.1
    obtain ⟨g1, g2⟩ := letter_gap hl
    refine ⟨[⟨1, ofL (c :: r), a⟩], rfl, ?_⟩
    have ht := tokC_name h hy
    rw [List.cons_append, lexN_tok (skipM_cons g1 g2) ht]
    have hd : (c :: (r ++ y)).drop (r.length + 1) = y := by simp
    rw [hd]
    simp
theorem PW.nm {x : ByteArray} (h : nameL (tx x) = true) : PW (tx x) [(1, x)] := by
  have := PW.name h
  rwa [ofL_tx] at this
theorem PF.blank32 : PF [32] [] := PF.blank (by decide)
theorem PF.blank10 : PF [10] [] := PF.blank (by decide)
theorem nw32 {r : List UInt8} : Nw (32 :: r) := Nw.cons (by decide)
theorem nw58 {r : List UInt8} : Nw (58 :: r) := Nw.cons (by decide)
theorem nw59 {r : List UInt8} : Nw (59 :: r) := Nw.cons (by decide)
theorem nw41 {r : List UInt8} : Nw (41 :: r) := Nw.cons (by decide)
theorem PW.join {l : List ByteArray} (h : ∀ x ∈ l, nameL (tx x) = true) : PW (joinX [32] (l.map tx)) (namesT l) := by
  induction l with
  | nil => exact PW.nil
  | cons x r ih =>
    have hx := PW.nm (h x (.head _))
    have hr := ih fun y hy => h y (.tail _ hy)
    cases r with
    | nil => simpa [joinX, namesT] using hx
    | cons z r => exact hx.appW (PF.blank32.appW hr) (.inr nw32)
theorem PW.slot {s : PSlot} (hn : nameL (tx s.name) = true) (hk : ∀ x ∈ s.kinds, nameL (tx x) = true) : PW (slotX s) (slotT s) := by
  unfold slotX slotT
  have h1 := PW.join (l := s.kinds.take s.normal) fun x hx => hk x (List.mem_of_mem_take hx)
  have h2 := PW.join (l := s.kinds.drop s.normal) fun x hx => hk x (List.mem_of_mem_drop hx)
  refine (PW.nm hn).appW (us := (4, colon) :: _) ?_ (.inr (nw58 (r := 32 :: _)))
  refine PF.appW (ts := [(4, colon)]) (PF.app (l := [58]) (m := [32]) (ts := [(4, colon)]) (us := []) (PF.sym (by decide)) PF.blank32) ?_
  split
  · refine h1.appW (us := (4, plus) :: _) ?_ (.inr (nw32 (r := 43 :: 32 :: _)))
    exact PF.appW (ts := [(4, plus)]) (PF.app (l := [32]) (m := [43, 32]) (ts := []) PF.blank32 (PF.app (l := [43]) (m := [32]) (ts := [(4, plus)]) (us := []) (PF.sym (by decide)) PF.blank32)) h2
  · exact h1.appW PW.nil (.inl rfl)
theorem PW.slots {ss : List PSlot} (h : ∀ s ∈ ss, nameL (tx s.name) = true ∧ ∀ x ∈ s.kinds, nameL (tx x) = true) : PW (joinX [59, 32] (ss.map slotX)) (slotsT ss) := by
  induction ss with
  | nil => exact PW.nil
  | cons s r ih =>
    have hx := PW.slot (h s (.head _)).1 (h s (.head _)).2
    have hr := ih fun y hy => h y (.tail _ hy)
    cases r with
    | nil => simpa [joinX, slotsT] using hx
    | cons z r => exact hx.appW (us := (4, semi) :: _) (PF.appW (ts := [(4, semi)]) (PF.app (l := [59]) (m := [32]) (ts := [(4, semi)]) (us := []) (PF.sym (by decide)) PF.blank32) hr) (.inr (nw59 (r := 32 :: _)))
theorem PF.end_ : PF [59, 10] [(4, semi)] := PF.app (l := [59]) (m := [10]) (ts := [(4, semi)]) (us := []) (PF.sym (by decide)) PF.blank10
theorem PF.line {k : PKind} (hn : nameL (tx k.name) = true) (h : ∀ s ∈ k.slots, nameL (tx s.name) = true ∧ ∀ x ∈ s.kinds, nameL (tx x) = true) : PF (lineX k) (kindT k) := by
  unfold lineX kindT
  have h0 : PW (if k.vehicle then tx wVehicle else tx wKind) [(1, if k.vehicle then wVehicle else wKind)] := by
    cases k.vehicle
    · exact PW.nm (by decide)
    · exact PW.nm (by decide)
  refine h0.app (us := (1, k.name) :: _) ?_ (nw32)
  refine PF.app (ts := []) PF.blank32 ?_
  refine (PW.nm hn).app (us := _ ++ _) ?_ ?_
  · have hs := PW.slots h
    cases hk : k.slots with
    | nil => exact PF.end_
    | cons s r =>
      rw [hk] at hs
      refine PF.app (ts := (4, lpar) :: (slotsT (s :: r) ++ [(4, rpar)])) ?_ PF.end_
      refine PF.app (ts := []) (us := (4, lpar) :: (slotsT (s :: r) ++ [(4, rpar)])) PF.blank32 ?_
      exact PF.app (ts := [(4, lpar)]) (PF.sym (by decide)) (hs.app (PF.sym (by decide)) nw41)
  · cases k.slots with
    | nil => exact nw59
    | cons s r => exact nw32
def Named (ks : List PKind) : Prop := ∀ k ∈ ks, nameL (tx k.name) = true ∧ ∀ s ∈ k.slots, nameL (tx s.name) = true ∧ ∀ x ∈ s.kinds, nameL (tx x) = true
theorem PF.text {ks : List PKind} (h : Named ks) : PF (textX ks) (catT ks) := by
  induction ks with
  | nil => exact PF.nil
  | cons k r ih => exact PF.app (PF.line (h k (.head _)).1 (h k (.head _)).2) (ih fun y hy => h y (.tail _ hy))
theorem lex_text {ks : List PKind} (h : Named ks) (a : Nat) : (lexN (textX ks) a).2 = none ∧ (lexN (textX ks) a).1.map kt = catT ks := by
  obtain ⟨q, e, hq⟩ := PF.text h [] a
  rw [List.append_nil] at hq
  rw [hq, lexN_nil rfl]
  exact ⟨rfl, by rw [List.append_nil]; exact e⟩
end Go.Proofs.Ytfdjlphfohnnnaa
/-
  Valid catalogs in plain terms; what is parsed is valid; a valid catalog's tokens are parsed to it.
-/
namespace Go.Proofs.Ytfdjlphfohnnnaa
open Go.RowKit Go.Sy
set_option linter.unusedVariables false
set_option linter.unusedSimpArgs false
def kindsV (read : List PKind) : List ByteArray → List ByteArray → Prop
  | _, [] => True
  | l, x :: r => kindC read l x = 0 ∧ kindsV read (l ++ [x]) r
structure slotV (read : List PKind) (names : List ByteArray) (s : PSlot) : Prop where
  nm : nameL (tx s.name) = true
  new : inL names s.name = false
  room : names.length < 12
  one : 1 ≤ s.normal
  le : s.normal ≤ s.kinds.length
  kinds : kindsV read [] s.kinds
def slotsV (read : List PKind) : List PSlot → List PSlot → Prop
  | _, [] => True
  | d, s :: r => slotV read (d.map (·.name)) s ∧ slotsV read (d ++ [s]) r
structure kindV (read : List PKind) (k : PKind) : Prop where
  nm : nameL (tx k.name) = true
  new : inL (read.map (·.name)) k.name = false
  room : read.length < 60
  slots : slotsV read [] k.slots
def catV : List PKind → List PKind → Prop
  | _, [] => True
  | read, k :: r => kindV read k ∧ catV (read ++ [k]) r
theorem catV_app {read a b : List PKind} : catV read (a ++ b) ↔ catV read a ∧ catV (read ++ a) b := by
  induction a generalizing read with
  | nil => simp [catV]
  | cons k r ih => simp only [List.cons_append, catV, ih, List.append_assoc, List.singleton_append, List.nil_append, List.cons_append, and_assoc]
theorem slotsV_app {read : List PKind} {d a b : List PSlot} : slotsV read d (a ++ b) ↔ slotsV read d a ∧ slotsV read (d ++ a) b := by
  induction a generalizing d with
  | nil => simp [slotsV]
  | cons k r ih => simp only [List.cons_append, slotsV, ih, List.append_assoc, List.singleton_append, List.nil_append, List.cons_append, and_assoc]
theorem kindsV_app {read : List PKind} {d a b : List ByteArray} : kindsV read d (a ++ b) ↔ kindsV read d a ∧ kindsV read (d ++ a) b := by
  induction a generalizing d with
  | nil => simp [kindsV]
  | cons k r ih => simp only [List.cons_append, kindsV, ih, List.append_assoc, List.singleton_append, List.nil_append, List.cons_append, and_assoc]
theorem inL_mem {l : List ByteArray} {s : ByteArray} : inL l s = true ↔ s ∈ l := by
  unfold inL
  rw [List.any_eq_true]
  constructor
  · rintro ⟨x, hx, h⟩
    rw [decide_eq_true_eq] at h
    rwa [← h]
  · intro h
    exact ⟨s, h, by simp⟩
theorem inL_not {l : List ByteArray} {s : ByteArray} : inL l s = false ↔ s ∉ l := by
  rw [← inL_mem]; simp
theorem kindC_zero {read : List PKind} {l : List ByteArray} {s : ByteArray} : kindC read l s = 0 ↔ s ∉ l ∧ ∃ k, read.find? (fun k => decide (k.name = s)) = some k ∧ k.vehicle = false := by
  unfold kindC
  cases hi : inL l s with
  | true =>
    have := inL_mem.1 hi
    simp [this]
  | false =>
    have := inL_not.1 hi
    cases hf : read.find? fun k => decide (k.name = s) with
    | none => simp
    | some k => cases hv : k.vehicle <;> simp [this, hv]
theorem find_name {read : List PKind} {s : ByteArray} {k : PKind} (h : read.find? (fun k => decide (k.name = s)) = some k) : k ∈ read ∧ k.name = s := ⟨List.mem_of_find?_eq_some h, by simpa using List.find?_some h⟩
theorem freshC_zero {names : List ByteArray} {m : Nat} {s : ByteArray} (h : names.length < m) (h2 : inL names s = false) : freshC names m s = 0 := by
  unfold freshC; rw [if_neg (by omega), if_neg (by rw [h2]; simp)]
theorem freshC_ok {names : List ByteArray} {m : Nat} {s : ByteArray} (h : freshC names m s = 0) : names.length ≠ m ∧ inL names s = false := by
  unfold freshC at h
  split at h
  · cases h
  · split at h
    · cases h
    · rename_i h1 h2; exact ⟨h1, by simpa using h2⟩
theorem nodup_len {α : Type} [DecidableEq α] : ∀ (l m : List α), l.Nodup → (∀ x ∈ l, x ∈ m) → l.length ≤ m.length
  | [], _, _, _ => Nat.zero_le _
  | x :: l, m, hn, h => by
    have hx := h x (.head _)
    rw [List.nodup_cons] at hn
    have := nodup_len l (m.erase x) hn.2 fun y hy => (List.mem_erase_of_ne (fun (e : y = x) => hn.1 (by rw [← e]; exact hy))).2 (h y (.tail _ hy))
    rw [List.length_erase_of_mem hx] at this
    have h0 : 0 < m.length := List.length_pos_of_mem hx
    simp only [List.length_cons]; omega
theorem kindsV_spec {read : List PKind} : ∀ (xs l : List ByteArray), kindsV read l xs → l.Nodup → (∀ x ∈ l, x ∈ read.map (·.name)) → (l ++ xs).Nodup ∧ ∀ x ∈ l ++ xs, x ∈ read.map (·.name)
  | [], l, _, hn, h => by rw [List.append_nil]; exact ⟨hn, h⟩
  | x :: r, l, hk, hn, h => by
    obtain ⟨h1, h2⟩ := hk
    obtain ⟨hx, k, hf, -⟩ := kindC_zero.1 h1
    obtain ⟨hm, hnm⟩ := find_name hf
    have := kindsV_spec r (l ++ [x]) h2 (by
      rw [List.nodup_append]
      exact ⟨hn, by simp, fun a ha b hb => by simp at hb; subst hb; exact fun e => hx (e ▸ ha)⟩) (fun y hy => by
      rcases List.mem_append.1 hy with hy | hy
      · exact h y hy
      · rw [List.mem_singleton] at hy; subst hy; exact List.mem_map.2 ⟨k, hm, hnm⟩)
    rwa [List.append_assoc, List.singleton_append] at this
structure SlotP (s : PSlot) : Prop where
  nm : nameL (tx s.name) = true
  one : 1 ≤ s.normal
  le : s.normal ≤ s.kinds.length
  few : s.kinds.length ≤ 60
  nms : ∀ x ∈ s.kinds, nameL (tx x) = true
structure KindP (k : PKind) : Prop where
  nm : nameL (tx k.name) = true
  few : k.slots.length ≤ 12
  slots : ∀ s ∈ k.slots, SlotP s
theorem slotV_P {read : List PKind} {names : List ByteArray} {s : PSlot} (hr : ∀ k ∈ read, nameL (tx k.name) = true) (hl : read.length < 60) (h : slotV read names s) : SlotP s := by
  obtain ⟨h1, h2⟩ := kindsV_spec s.kinds [] h.kinds List.nodup_nil (fun x hx => by cases hx)
  rw [List.nil_append] at h1 h2
  have := nodup_len _ _ h1 h2
  rw [List.length_map] at this
  refine ⟨h.nm, h.one, h.le, by omega, fun x hx => ?_⟩
  obtain ⟨k, hk, rfl⟩ := List.mem_map.1 (h2 x hx)
  exact hr k hk
theorem slotsV_P {read : List PKind} (hr : ∀ k ∈ read, nameL (tx k.name) = true) (hl : read.length < 60) : ∀ (ss d : List PSlot), slotsV read d ss → d.length ≤ 12 → d.length + ss.length ≤ 12 ∧ ∀ s ∈ ss, SlotP s
  | [], d, _, h => ⟨by simpa using h, fun s hs => by cases hs⟩
  | s :: r, d, hv, h => by
    obtain ⟨h1, h2⟩ := hv
    have hroom := h1.room
    rw [List.length_map] at hroom
    obtain ⟨h3, h4⟩ := slotsV_P hr hl r (d ++ [s]) h2 (by simp; omega)
    refine ⟨by simp only [List.length_append, List.length_cons, List.length_nil] at h3 ⊢; omega, fun x hx => ?_⟩
    rcases List.mem_cons.1 hx with rfl | hx
    · exact slotV_P hr hl h1
    · exact h4 x hx
theorem kindV_P {read : List PKind} {k : PKind} (hr : ∀ k ∈ read, nameL (tx k.name) = true) (h : kindV read k) : KindP k := by
  obtain ⟨h1, h2⟩ := slotsV_P hr h.room k.slots [] h.slots (Nat.zero_le _)
  exact ⟨h.nm, by simpa using h1, h2⟩
theorem catV_P : ∀ (ks read : List PKind), catV read ks → (∀ k ∈ read, nameL (tx k.name) = true) → read.length ≤ 60 → read.length + ks.length ≤ 60 ∧ ∀ k ∈ ks, KindP k
  | [], read, _, _, h => ⟨by simpa using h, fun s hs => by cases hs⟩
  | k :: r, read, hv, hr, h => by
    obtain ⟨h1, h2⟩ := hv
    have hP := kindV_P hr h1
    have hroom := h1.room
    obtain ⟨h3, h4⟩ := catV_P r (read ++ [k]) h2 (fun x hx => by
      rcases List.mem_append.1 hx with hx | hx
      · exact hr x hx
      · rw [List.mem_singleton] at hx; subst hx; exact h1.nm) (by simp; omega)
    refine ⟨by simp only [List.length_append, List.length_cons, List.length_nil] at h3 ⊢; omega, fun x hx => ?_⟩
    rcases List.mem_cons.1 hx with rfl | hx
    · exact hP
    · exact h4 x hx
theorem catV_all {ks : List PKind} (h : catV [] ks) : ks.length ≤ 60 ∧ ∀ k ∈ ks, KindP k := by
  have := catV_P ks [] h (fun k hk => by cases hk) (Nat.zero_le _)
  simpa using this
theorem catV_named {ks : List PKind} (h : catV [] ks) : Named ks := fun k hk => by
  have hP := (catV_all h).2 k hk
  exact ⟨hP.nm, fun s hs => ⟨(hP.slots s hs).nm, (hP.slots s hs).nms⟩⟩
/-! What is parsed is valid. -/
def GoodT (en : Int) (ts : List Tk) : Prop := ∀ t ∈ ts, (t.kind = 1 → nameL (tx t.text) = true) ∧ (t.pos : Int) ≤ en
theorem lexN_good {en : Int} (l : List UInt8) (a : Nat) (he : ((a + l.length : Nat) : Int) ≤ en) : GoodT en (lexN l a).1 := by
  have h1 : ∀ t ∈ (lexN l a).1, t.kind = 1 → nameL (tx t.text) = true := by
    clear he
    refine lexN_ind (P := fun l a => ∀ t ∈ (lexN l a).1, t.kind = 1 → nameL (tx t.text) = true) (fun l a h => ?_) (fun l a c r e h h2 => ?_) (fun l a c r k s n h h2 ih => ?_) l.length l a (Nat.le_refl _)
    · rw [lexN_nil h]; intro t ht; cases ht
    · rw [lexN_err h h2]; intro t ht; cases ht
    · rw [lexN_tok h h2]
      intro t ht hk
      rcases List.mem_cons.1 ht with rfl | ht
      · dsimp only at hk ⊢
        subst hk
        rw [tx_ofL]
        exact tokC_kind1 h2
      · exact ih t ht hk
  intro t ht
  refine ⟨h1 t ht, ?_⟩
  have := (lexN_pos l a t ht).1
  omega
theorem GoodT.tail {en : Int} {t : Tk} {ts : List Tk} (h : GoodT en (t :: ts)) : GoodT en ts := fun x hx => h x (.tail _ hx)
theorem GoodT.sub {en : Int} {ts us : List Tk} (h : GoodT en ts) (hs : ∀ x ∈ us, x ∈ ts) : GoodT en us := fun x hx => h x (hs x hx)
theorem GoodT.tl {en : Int} {ts : List Tk} (h : GoodT en ts) : GoodT en ts.tail := h.sub fun x hx => List.mem_of_mem_tail hx
theorem nameP_v {chk : ByteArray → Int} {en : Int} {ts r : List Tk} {x : ByteArray} (hg : GoodT en ts) (h : nameP chk en ts = .ok (x, r)) : nameL (tx x) = true ∧ chk x = 0 ∧ GoodT en r := by
  cases ts with
  | nil => cases h
  | cons t q =>
    simp only [nameP] at h
    split at h
    · rename_i hk
      split at h
      · rename_i hc
        cases h
        exact ⟨(hg t (.head _)).1 (by omega), hc, hg.tail⟩
      · cases h
    · cases h
theorem moreP_v {read : List PKind} {en : Int} : ∀ (ts : List Tk) (l : List ByteArray) {l' : List ByteArray} {r : List Tk}, moreP read en l ts = .ok (l', r) → GoodT en ts → ∃ xs, l' = l ++ xs ∧ kindsV read l xs ∧ GoodT en r
  | [], l, l', r, h, hg => by simp only [moreP] at h; cases h; exact ⟨[], by simp, trivial, hg⟩
  | t :: q, l, l', r, h, hg => by
    simp only [moreP] at h
    split at h
    · split at h
      · rename_i hc
        obtain ⟨xs, h1, h2, h3⟩ := moreP_v q _ h hg.tail
        exact ⟨t.text :: xs, by rw [h1]; simp, ⟨hc, h2⟩, h3⟩
      · cases h
    · cases h; exact ⟨[], by simp, trivial, hg⟩
theorem kindsP_v {read : List PKind} {en : Int} {l l' : List ByteArray} {ts r : List Tk} (hg : GoodT en ts) (h : kindsP read en l ts = .ok (l', r)) : ∃ xs, l' = l ++ xs ∧ 1 ≤ xs.length ∧ kindsV read l xs ∧ GoodT en r := by
  unfold kindsP at h
  split at h
  · cases h
  · rename_i x q hn
    obtain ⟨-, h2, h3⟩ := nameP_v hg hn
    obtain ⟨xs, e, hv, hr⟩ := moreP_v _ _ h h3
    exact ⟨x :: xs, by rw [e]; simp, by simp, ⟨h2, hv⟩, hr⟩
theorem wantP_v {s : ByteArray} {en : Int} {ts r : List Tk} (hg : GoodT en ts) (h : wantP s en ts = .ok r) : GoodT en r := by
  unfold wantP at h
  split at h
  · cases h; exact hg.tl
  · cases h
theorem slotP_v {read : List PKind} {en : Int} {names : List ByteArray} {ts r : List Tk} {s : PSlot} (hn : names.length ≤ 12) (hg : GoodT en ts) (h : slotP read en names ts = .ok (s, r)) : slotV read names s ∧ GoodT en r := by
  unfold slotP at h
  split at h
  · cases h
  · rename_i h1
    obtain ⟨a1, a2, a3⟩ := nameP_v hg h1
    obtain ⟨b1, b2⟩ := freshC_ok a2
    split at h
    · cases h
    · rename_i h2
      have c1 := wantP_v a3 h2
      split at h
      · cases h
      · rename_i h3
        obtain ⟨xs, e, hx, hv, hr⟩ := kindsP_v c1 h3
        rw [List.nil_append] at e
        subst e
        split at h
        · split at h
          · cases h
          · rename_i h5
            obtain ⟨ys, e, hy, hv2, hr2⟩ := kindsP_v hr.tl h5
            cases h
            subst e
            exact ⟨⟨a1, b2, by omega, hx, by simp, kindsV_app.2 ⟨hv, by simpa using hv2⟩⟩, hr2⟩
        · cases h
          exact ⟨⟨a1, b2, by omega, hx, Nat.le_refl _, hv⟩, hr⟩
theorem slotsP_v {read : List PKind} {en : Int} : ∀ (f : Nat) (ss : List PSlot) (ts : List Tk) {ss' : List PSlot} {r : List Tk}, slotsP read en f ss ts = .ok (ss', r) → ss.length ≤ 12 → slotsV read [] ss → GoodT en ts → slotsV read [] ss' ∧ GoodT en r
  | 0, ss, ts, ss', r, h, _, hv, hg => by simp only [slotsP] at h; cases h; exact ⟨hv, hg⟩
  | f + 1, ss, ts, ss', r, h, hl, hv, hg => by
    simp only [slotsP] at h
    split at h
    · cases h
    · rename_i h1
      obtain ⟨q1, q2⟩ := slotP_v (by rw [List.length_map]; exact hl) hg h1
      have hroom := q1.room
      rw [List.length_map] at hroom
      have q3 : slotsV read [] (ss ++ [_]) := slotsV_app.2 ⟨hv, by rw [List.nil_append]; exact ⟨q1, trivial⟩⟩
      split at h
      · exact slotsP_v f _ _ h (by simp; omega) q3 q2.tl
      · cases h; exact ⟨q3, q2⟩
theorem bodyP_v {read : List PKind} {en : Int} {ts r : List Tk} {ss : List PSlot} (hg : GoodT en ts) (h : bodyP read en ts = .ok (ss, r)) : slotsV read [] ss ∧ GoodT en r := by
  unfold bodyP at h
  split at h
  · split at h
    · cases h
    · rename_i h2
      obtain ⟨q1, q2⟩ := slotsP_v _ _ _ h2 (Nat.zero_le _) trivial hg.tl
      split at h
      · cases h
      · rename_i h3
        cases h
        exact ⟨q1, wantP_v q2 h3⟩
  · cases h; exact ⟨trivial, hg⟩
theorem headP_v {en : Int} {ts r : List Tk} {v : Bool} (hg : GoodT en ts) (h : headP en ts = .ok (v, r)) : GoodT en r := by
  unfold headP at h
  split at h
  · cases h; exact hg.tl
  · split at h
    · cases h; exact hg.tl
    · cases h
theorem kindP_v {read : List PKind} {en : Int} {ts r : List Tk} {k : PKind} (hl : read.length ≤ 60) (hg : GoodT en ts) (h : kindP read en ts = .ok (k, r)) : kindV read k ∧ GoodT en r := by
  unfold kindP at h
  split at h
  · cases h
  · rename_i h1
    have a1 := headP_v hg h1
    split at h
    · cases h
    · rename_i h2
      obtain ⟨b1, b2, b3⟩ := nameP_v a1 h2
      obtain ⟨c1, c2⟩ := freshC_ok b2
      rw [List.length_map] at c1
      split at h
      · cases h
      · rename_i h3
        obtain ⟨d1, d2⟩ := bodyP_v b3 h3
        split at h
        · cases h
        · rename_i h4
          cases h
          exact ⟨⟨b1, c2, by omega, d1⟩, wantP_v d2 h4⟩
theorem parseP_v {en : Int} : ∀ (f : Nat) (read : List PKind) (ts : List Tk) {ks : List PKind}, parseP en f read ts = .ok ks → read.length ≤ 60 → catV [] read → GoodT en ts → catV [] ks
  | 0, read, ts, ks, h, _, hv, hg => by simp only [parseP] at h; cases h; exact hv
  | f + 1, read, [], ks, h, _, hv, hg => by simp only [parseP] at h; cases h; exact hv
  | f + 1, read, t :: ts, ks, h, hl, hv, hg => by
    simp only [parseP] at h
    split at h
    · cases h
    · rename_i h1
      obtain ⟨q1, q2⟩ := kindP_v hl hg h1
      have hroom := q1.room
      exact parseP_v f _ _ h (by simp; omega) (catV_app.2 ⟨hv, by rw [List.nil_append]; exact ⟨q1, trivial⟩⟩) q2
theorem lexR_good (t : ByteArray) : GoodT (t.size : Int) (lexR t).1 := by
  unfold lexR
  split
  · intro x hx; cases hx
  · split
    · intro x hx; cases hx
    · split
      · rw [lexA_N]; exact lexN_good _ _ (by rw [tx_len]; omega)
      · intro x hx; cases hx
/-! Errors. -/
def ErrOk (en : Int) (e : PE) : Prop := e.1 ≠ 0 ∧ 0 ≤ e.2 ∧ e.2 ≤ en
theorem failP_e {ts : List Tk} {en c : Int} (hc : c ≠ 0) (h0 : 0 ≤ en) (hg : GoodT en ts) : ErrOk en (failP ts en c) := by
  cases ts with
  | nil => exact ⟨by show (9 : Int) ≠ 0; decide, h0, Int.le_refl _⟩
  | cons t q => exact ⟨hc, Int.natCast_nonneg _, (hg t (.head _)).2⟩
theorem nameP_e {chk : ByteArray → Int} {en : Int} {ts : List Tk} {e : PE} (h0 : 0 ≤ en) (hg : GoodT en ts) (h : nameP chk en ts = .error e) : ErrOk en e := by
  cases ts with
  | nil => simp only [nameP] at h; cases h; exact ⟨by show (9 : Int) ≠ 0; decide, h0, Int.le_refl _⟩
  | cons t q =>
    have hp := (hg t (.head _)).2
    simp only [nameP] at h
    split at h
    · split at h
      · cases h
      · rename_i hc; cases h; exact ⟨hc, Int.natCast_nonneg _, hp⟩
    · cases h; exact ⟨by show (8 : Int) ≠ 0; decide, Int.natCast_nonneg _, hp⟩
theorem moreP_e {read : List PKind} {en : Int} (h0 : 0 ≤ en) : ∀ (ts : List Tk) (l : List ByteArray) {e : PE}, moreP read en l ts = .error e → GoodT en ts → ErrOk en e
  | [], l, e, h, hg => by simp only [moreP] at h; cases h
  | t :: q, l, e, h, hg => by
    simp only [moreP] at h
    split at h
    · split at h
      · exact moreP_e h0 q _ h hg.tail
      · rename_i hc; cases h; exact ⟨hc, Int.natCast_nonneg _, (hg t (.head _)).2⟩
    · cases h
theorem kindsP_e {read : List PKind} {en : Int} {l : List ByteArray} {ts : List Tk} {e : PE} (h0 : 0 ≤ en) (hg : GoodT en ts) (h : kindsP read en l ts = .error e) : ErrOk en e := by
  unfold kindsP at h
  split at h
  · rename_i h1; cases h; exact nameP_e h0 hg h1
  · rename_i x q hn
    exact moreP_e h0 _ _ h (nameP_v hg hn).2.2
theorem wantP_e {s : ByteArray} {en : Int} {ts : List Tk} {e : PE} (h0 : 0 ≤ en) (hg : GoodT en ts) (h : wantP s en ts = .error e) : ErrOk en e := by
  unfold wantP at h
  split at h
  · cases h
  · cases h; exact failP_e (by decide) h0 hg
theorem slotP_e {read : List PKind} {en : Int} {names : List ByteArray} {ts : List Tk} {e : PE} (h0 : 0 ≤ en) (hg : GoodT en ts) (h : slotP read en names ts = .error e) : ErrOk en e := by
  unfold slotP at h
  split at h
  · rename_i h1; cases h; exact nameP_e h0 hg h1
  · rename_i h1
    obtain ⟨a1, a2, a3⟩ := nameP_v hg h1
    split at h
    · rename_i h2; cases h; exact wantP_e h0 a3 h2
    · rename_i h2
      have c1 := wantP_v a3 h2
      split at h
      · rename_i h3; cases h; exact kindsP_e h0 c1 h3
      · rename_i h3
        obtain ⟨xs, e', hx, hv, hr⟩ := kindsP_v c1 h3
        split at h
        · split at h
          · rename_i h5; cases h; exact kindsP_e h0 hr.tl h5
          · cases h
        · cases h
theorem slotP_g {read : List PKind} {en : Int} {names : List ByteArray} {ts r : List Tk} {s : PSlot} (hg : GoodT en ts) (h : slotP read en names ts = .ok (s, r)) : GoodT en r := by
  unfold slotP at h
  split at h
  · cases h
  · rename_i h1
    obtain ⟨a1, a2, a3⟩ := nameP_v hg h1
    split at h
    · cases h
    · rename_i h2
      have c1 := wantP_v a3 h2
      split at h
      · cases h
      · rename_i h3
        obtain ⟨xs, e, hx, hv, hr⟩ := kindsP_v c1 h3
        split at h
        · split at h
          · cases h
          · rename_i h5
            obtain ⟨ys, e, hy, hv2, hr2⟩ := kindsP_v hr.tl h5
            cases h
            exact hr2
        · cases h
          exact hr
theorem slotsP_e {read : List PKind} {en : Int} (h0 : 0 ≤ en) : ∀ (f : Nat) (ss : List PSlot) (ts : List Tk) {e : PE}, slotsP read en f ss ts = .error e → GoodT en ts → ErrOk en e
  | 0, ss, ts, e, h, hg => by simp only [slotsP] at h; cases h
  | f + 1, ss, ts, e, h, hg => by
    simp only [slotsP] at h
    split at h
    · rename_i h1; cases h; exact slotP_e h0 hg h1
    · rename_i h1
      have q2 := slotP_g hg h1
      split at h
      · exact slotsP_e h0 f _ _ h q2.tl
      · cases h
theorem slotsP_g {read : List PKind} {en : Int} : ∀ (f : Nat) (ss : List PSlot) (ts : List Tk) {ss' : List PSlot} {r : List Tk}, slotsP read en f ss ts = .ok (ss', r) → GoodT en ts → GoodT en r
  | 0, ss, ts, ss', r, h, hg => by simp only [slotsP] at h; cases h; exact hg
  | f + 1, ss, ts, ss', r, h, hg => by
    simp only [slotsP] at h
    split at h
    · cases h
    · rename_i h1
      have q2 := slotP_g hg h1
      split at h
      · exact slotsP_g f _ _ h q2.tl
      · cases h; exact q2
theorem bodyP_e {read : List PKind} {en : Int} {ts : List Tk} {e : PE} (h0 : 0 ≤ en) (hg : GoodT en ts) (h : bodyP read en ts = .error e) : ErrOk en e := by
  unfold bodyP at h
  split at h
  · split at h
    · rename_i h2; cases h; exact slotsP_e h0 _ _ _ h2 hg.tl
    · rename_i h2
      have q2 := slotsP_g _ _ _ h2 hg.tl
      split at h
      · rename_i h3; cases h; exact wantP_e h0 q2 h3
      · cases h
  · cases h
theorem headP_e {en : Int} {ts : List Tk} {e : PE} (h0 : 0 ≤ en) (hg : GoodT en ts) (h : headP en ts = .error e) : ErrOk en e := by
  unfold headP at h
  split at h
  · cases h
  · split at h
    · cases h
    · cases h; exact failP_e (by decide) h0 hg
theorem kindP_e {read : List PKind} {en : Int} {ts : List Tk} {e : PE} (h0 : 0 ≤ en) (hg : GoodT en ts) (h : kindP read en ts = .error e) : ErrOk en e := by
  unfold kindP at h
  split at h
  · rename_i h1; cases h; exact headP_e h0 hg h1
  · rename_i h1
    have a1 := headP_v hg h1
    split at h
    · rename_i h2; cases h; exact nameP_e h0 a1 h2
    · rename_i h2
      obtain ⟨b1, b2, b3⟩ := nameP_v a1 h2
      split at h
      · rename_i h3; cases h; exact bodyP_e h0 b3 h3
      · rename_i h3
        obtain ⟨d1, d2⟩ := bodyP_v b3 h3
        split at h
        · rename_i h4; cases h; exact wantP_e h0 d2 h4
        · cases h
theorem parseP_e {en : Int} (h0 : 0 ≤ en) : ∀ (f : Nat) (read : List PKind) (ts : List Tk) {e : PE}, parseP en f read ts = .error e → read.length ≤ 60 → GoodT en ts → ErrOk en e
  | 0, read, ts, e, h, _, hg => by simp only [parseP] at h; cases h
  | f + 1, read, [], e, h, _, hg => by simp only [parseP] at h; cases h
  | f + 1, read, t :: ts, e, h, hl, hg => by
    simp only [parseP] at h
    split at h
    · rename_i h1; cases h; exact kindP_e h0 hg h1
    · rename_i h1
      obtain ⟨q1, q2⟩ := kindP_v hl hg h1
      have hroom := q1.room
      exact parseP_e h0 f _ _ h (by simp; omega) q2
theorem lexR_pos {t : ByteArray} (h : (lexR t).2.1 ≠ 0) : -1 ≤ (lexR t).2.2 ∧ (lexR t).2.2 ≤ (t.size : Int) := by
  unfold lexR at *
  split
  · constructor <;> dsimp only <;> omega
  · rename_i h1
    rw [if_neg h1] at h
    split
    · rename_i x hx
      have hm := List.mem_of_getElem? hx
      rw [lexA_N] at hm
      have := (lexN_pos _ _ _ hm).1
      rw [tx_len] at this
      constructor <;> dsimp only <;> omega
    · rename_i h2
      rw [h2] at h
      simp only at h
      split
      · rename_i h3
        rw [h3] at h
        exact absurd rfl h
      · rename_i p h3
        rw [lexA_N] at h3
        have := lexN_errpos _ _ _ _ h3
        rw [tx_len] at this
        constructor <;> dsimp only <;> omega
theorem parseR_v {t : ByteArray} {ks : List PKind} {a : Int} (h : parseR t = (ks, 0, a)) : catV [] ks ∧ a = 0 := by
  unfold parseR at h
  split at h
  · split at h
    · rename_i e he
      have := (parseP_e (by omega) _ _ _ he (Nat.zero_le _) (lexR_good t)).1
      rw [Prod.mk.injEq, Prod.mk.injEq] at h
      exact absurd h.2.1 this
    · rename_i ks' he
      cases h
      exact ⟨parseP_v _ _ _ he (Nat.zero_le _) trivial (lexR_good t), rfl⟩
  · rename_i hne
    rw [Prod.mk.injEq, Prod.mk.injEq] at h
    exact absurd h.2.1 hne
theorem parseR_e {t : ByteArray} {ks : List PKind} {e a : Int} (h : parseR t = (ks, e, a)) (he : e ≠ 0) : ks = [] ∧ -1 ≤ a ∧ a ≤ (t.size : Int) := by
  unfold parseR at h
  split at h
  · split at h
    · rename_i e' he'
      have := (parseP_e (by omega) _ _ _ he' (Nat.zero_le _) (lexR_good t)).2
      cases h
      exact ⟨rfl, by omega, this.2⟩
    · cases h
      exact absurd rfl he
  · rename_i hne
    have := lexR_pos hne
    cases h
    exact ⟨rfl, this⟩
end Go.Proofs.Ytfdjlphfohnnnaa
/-
  A valid catalog is parsed from its tokens; parsing asks for kinds and texts of tokens alone.
-/
namespace Go.Proofs.Ytfdjlphfohnnnaa
open Go.RowKit Go.Sy
set_option linter.unusedVariables false
set_option linter.unusedSimpArgs false
def isK (s : ByteArray) (k : Nat) : List KT → Bool
  | [] => false
  | t :: _ => decide (t.1 = k) && decide (t.2 = s)
theorem isTk_K (s : ByteArray) (k : Nat) (ts : List Tk) : isTk s k ts = isK s k (ts.map kt) := by
  cases ts with
  | nil => rfl
  | cons t r =>
    simp only [isTk, List.map_cons, isK, kt, decide_true, Bool.and_true]
    rw [decide_eq_decide.2 (show ((t.kind : Int) = (k : Int)) ↔ t.kind = k by omega)]
theorem tok_cons {ts : List Tk} {k : Nat} {x : ByteArray} {rest : List KT} (h : ts.map kt = (k, x) :: rest) : ∃ t r, ts = t :: r ∧ t.kind = k ∧ t.text = x ∧ r.map kt = rest := by
  cases ts with
  | nil => cases h
  | cons t r =>
    rw [List.map_cons, List.cons.injEq] at h
    exact ⟨t, r, rfl, congrArg Prod.fst h.1, congrArg Prod.snd h.1, h.2⟩
theorem nameP_rt {chk : ByteArray → Int} {en : Int} {ts : List Tk} {x : ByteArray} {rest : List KT} (h : ts.map kt = (1, x) :: rest) (hc : chk x = 0) : ∃ r, nameP chk en ts = .ok (x, r) ∧ r.map kt = rest := by
  obtain ⟨t, r, rfl, hk, rfl, hr⟩ := tok_cons h
  refine ⟨r, ?_, hr⟩
  simp only [nameP]
  rw [if_pos (by omega), if_pos hc]
/-- No name stands first. -/
def NoName : List KT → Prop
  | [] => True
  | t :: _ => t.1 ≠ 1
theorem moreP_rt {read : List PKind} {en : Int} : ∀ (xs l : List ByteArray) {ts : List Tk} {rest : List KT}, ts.map kt = namesT xs ++ rest → NoName rest → kindsV read l xs → ∃ r, moreP read en l ts = .ok (l ++ xs, r) ∧ r.map kt = rest
  | [], l, ts, rest, h, hn, _ => by
    refine ⟨ts, ?_, h⟩
    rw [List.append_nil]
    cases ts with
    | nil => rfl
    | cons t q =>
      have : rest = kt t :: q.map kt := h.symm
      rw [this] at hn
      simp only [moreP]
      have hn' : t.kind ≠ 1 := hn
      rw [if_neg (by omega)]
  | x :: xs, l, ts, rest, h, hn, hv => by
    obtain ⟨t, r, rfl, hk, rfl, hr⟩ := tok_cons (rest := namesT xs ++ rest) h
    obtain ⟨q, h1, h2⟩ := moreP_rt xs (l ++ [t.text]) hr hn hv.2
    refine ⟨q, ?_, h2⟩
    simp only [moreP]
    rw [if_pos (by omega), if_pos hv.1, h1, List.append_assoc, List.singleton_append]
theorem kindsP_rt {read : List PKind} {en : Int} {xs l : List ByteArray} {ts : List Tk} {rest : List KT} (hx : 1 ≤ xs.length) (h : ts.map kt = namesT xs ++ rest) (hn : NoName rest) (hv : kindsV read l xs) : ∃ r, kindsP read en l ts = .ok (l ++ xs, r) ∧ r.map kt = rest := by
  cases xs with
  | nil => simp at hx
  | cons x xs =>
    obtain ⟨r, h1, h2⟩ := nameP_rt (chk := kindC read l) (en := en) (rest := namesT xs ++ rest) h hv.1
    obtain ⟨q, h3, h4⟩ := moreP_rt (en := en) xs (l ++ [x]) h2 hn hv.2
    refine ⟨q, ?_, h4⟩
    unfold kindsP
    rw [h1]
    simp only
    rw [h3, List.append_assoc, List.singleton_append]
theorem isK_here {s : ByteArray} {k : Nat} {rest : List KT} : isK s k ((k, s) :: rest) = true := by simp [isK]
theorem tail_kt {ts : List Tk} {k : Nat} {x : ByteArray} {rest : List KT} (h : ts.map kt = (k, x) :: rest) : ts.tail.map kt = rest := by
  obtain ⟨t, r, rfl, -, -, hr⟩ := tok_cons h
  exact hr
theorem wantP_rt {s : ByteArray} {en : Int} {ts : List Tk} {rest : List KT} (h : ts.map kt = (4, s) :: rest) : ∃ r, wantP s en ts = .ok r ∧ r.map kt = rest := by
  refine ⟨ts.tail, ?_, tail_kt h⟩
  unfold wantP
  rw [isTk_K, h, isK_here]
  all_goals rfl
theorem slotP_rt {read : List PKind} {en : Int} {names : List ByteArray} {s : PSlot} {ts : List Tk} {rest : List KT} (h : ts.map kt = slotT s ++ rest) (hn : NoName rest) (hp : isK plus 4 rest = false) (hv : slotV read names s) : ∃ r, slotP read en names ts = .ok (s, r) ∧ r.map kt = rest := by
  obtain ⟨nm, ks, n⟩ := s
  obtain ⟨h1, h2, h3, h4, h5, h6⟩ := hv
  dsimp only at h1 h2 h3 h4 h5 h6
  have ht : ts.map kt = (1, nm) :: (4, colon) :: ((namesT (ks.take n) ++ if n < ks.length then (4, plus) :: namesT (ks.drop n) else []) ++ rest) := h
  obtain ⟨r1, a1, a2⟩ := nameP_rt (chk := freshC names 12) (en := en) ht (freshC_zero h3 h2)
  obtain ⟨r2, b1, b2⟩ := wantP_rt (en := en) a2
  have hsp : kindsV read [] (ks.take n) ∧ kindsV read (ks.take n) (ks.drop n) := by
    have := (kindsV_app (read := read) (d := []) (a := ks.take n) (b := ks.drop n)).1 (by rw [List.take_append_drop]; exact h6)
    simpa using this
  have htl : 1 ≤ (ks.take n).length := by rw [List.length_take]; omega
  unfold slotP
  rw [a1]
  simp only
  rw [b1]
  simp only
  by_cases hlt : n < ks.length
  · rw [if_pos hlt, List.append_assoc] at b2
    obtain ⟨r3, c1, c2⟩ := kindsP_rt (en := en) htl b2 (show (4 : Nat) ≠ 1 by decide) hsp.1
    rw [c1]
    simp only [List.nil_append]
    rw [isTk_K, c2, List.cons_append, isK_here, if_pos rfl]
    obtain ⟨r4, d1, d2⟩ := kindsP_rt (read := read) (en := en) (l := ks.take n) (xs := ks.drop n) (rest := rest) (by rw [List.length_drop]; omega) (tail_kt c2) hn hsp.2
    rw [d1]
    refine ⟨r4, ?_, d2⟩
    simp only [List.take_append_drop, List.length_take]
    rw [Nat.min_eq_left h5]
  · rw [if_neg hlt, List.append_nil] at b2
    have hall : ks.take n = ks := List.take_of_length_le (by omega)
    rw [hall] at b2 htl hsp
    obtain ⟨r3, c1, c2⟩ := kindsP_rt (en := en) htl b2 hn hsp.1
    rw [c1]
    simp only [List.nil_append]
    rw [isTk_K, c2, hp]
    refine ⟨r3, ?_, c2⟩
    rw [if_neg (by simp), show ks.length = n by omega]
theorem noName4 {s : ByteArray} {r : List KT} : NoName ((4, s) :: r) := by show (4 : Nat) ≠ 1; decide
theorem slotsP_rt {read : List PKind} {en : Int} : ∀ (ss d : List PSlot) (f : Nat) {ts : List Tk} {rest : List KT}, ss ≠ [] → ss.length ≤ f → ts.map kt = slotsT ss ++ (4, rpar) :: rest → slotsV read d ss → ∃ r, slotsP read en f d ts = .ok (d ++ ss, r) ∧ r.map kt = (4, rpar) :: rest
  | [], d, f, ts, rest, h0, _, _, _ => absurd rfl h0
  | [s], d, f, ts, rest, _, hf, h, hv => by
    obtain ⟨f', rfl⟩ : ∃ f', f = f' + 1 := ⟨f - 1, by simp at hf; omega⟩
    have h' : ts.map kt = slotT s ++ (4, rpar) :: rest := by rw [h]; simp [slotsT]
    obtain ⟨r, a1, a2⟩ := slotP_rt (en := en) h' noName4 (by simp [isK, rpar, plus]) hv.1
    refine ⟨r, ?_, a2⟩
    simp only [slotsP]
    rw [a1]
    simp only
    rw [isTk_K, a2, if_neg (by simp [isK, rpar, semi])]
  | s :: s2 :: ss, d, f, ts, rest, _, hf, h, hv => by
    obtain ⟨f', rfl⟩ : ∃ f', f = f' + 1 := ⟨f - 1, by simp at hf; omega⟩
    have h' : ts.map kt = slotT s ++ ((4, semi) :: (slotsT (s2 :: ss) ++ (4, rpar) :: rest)) := by rw [h]; simp [slotsT]
    obtain ⟨r, a1, a2⟩ := slotP_rt (en := en) h' noName4 (by simp [isK, semi, plus]) hv.1
    obtain ⟨q, b1, b2⟩ := slotsP_rt (s2 :: ss) (d ++ [s]) f' (by simp) (by simp only [List.length_cons] at hf ⊢; omega) (tail_kt a2) hv.2
    refine ⟨q, ?_, b2⟩
    simp only [slotsP]
    rw [a1]
    simp only
    rw [isTk_K, a2, isK_here, if_pos rfl, b1, List.append_assoc, List.singleton_append]
theorem slotsT_len : ∀ ss : List PSlot, ss.length ≤ (slotsT ss).length
  | [] => Nat.le_refl _
  | s :: r => by
    have := slotsT_len r
    cases r with
    | nil => simp [slotsT, slotT]
    | cons s2 r => simp only [slotsT, List.length_append, List.length_cons] at *; omega
def bodyT (ss : List PSlot) : List KT := match ss with | [] => [] | _ :: _ => (4, lpar) :: (slotsT ss ++ [(4, rpar)])
theorem bodyP_rt {read : List PKind} {en : Int} {ss : List PSlot} {ts : List Tk} {rest : List KT} (h : ts.map kt = bodyT ss ++ (4, semi) :: rest) (hv : slotsV read [] ss) : ∃ r, bodyP read en ts = .ok (ss, r) ∧ r.map kt = (4, semi) :: rest := by
  cases hs : ss with
  | nil =>
    rw [hs] at h
    refine ⟨ts, ?_, h⟩
    unfold bodyP
    rw [isTk_K, h, if_neg (by simp [bodyT, isK, semi, lpar])]
  | cons s r0 =>
    have h' : ts.map kt = (4, lpar) :: (slotsT ss ++ (4, rpar) :: ((4, semi) :: rest)) := by rw [h, hs]; simp [bodyT]
    have hlen := congrArg List.length h'
    simp only [List.length_map, List.length_cons, List.length_append] at hlen
    have hl := slotsT_len ss
    obtain ⟨q, b1, b2⟩ := slotsP_rt (read := read) (en := en) ss [] ts.length (by rw [hs]; simp) (by omega) (tail_kt h') hv
    obtain ⟨r, c1, c2⟩ := wantP_rt (en := en) b2
    refine ⟨r, ?_, c2⟩
    unfold bodyP
    rw [isTk_K, h', isK_here, if_pos rfl, b1]
    simp only [List.nil_append]
    rw [c1, hs]
theorem kindP_rt {read : List PKind} {en : Int} {k : PKind} {ts : List Tk} {rest : List KT} (h : ts.map kt = kindT k ++ rest) (hv : kindV read k) : ∃ r, kindP read en ts = .ok (k, r) ∧ r.map kt = rest := by
  obtain ⟨nm, v, ss⟩ := k
  obtain ⟨h1, h2, h3, h4⟩ := hv
  dsimp only at h1 h2 h3 h4
  have ht : ts.map kt = (1, if v then wVehicle else wKind) :: (1, nm) :: (bodyT ss ++ (4, semi) :: rest) := by rw [h]; cases ss <;> simp [kindT, bodyT]
  have hh : headP en ts = .ok (v, ts.tail) := by
    unfold headP
    rw [isTk_K, isTk_K, ht]
    cases v with
    | true => simp [isK]
    | false => simp [isK, wVehicle, wKind]
  obtain ⟨r1, a1, a2⟩ := nameP_rt (chk := freshC (read.map (·.name)) 60) (en := en) (tail_kt ht) (freshC_zero (by rw [List.length_map]; exact h3) h2)
  obtain ⟨r2, b1, b2⟩ := bodyP_rt (en := en) a2 h4
  obtain ⟨r3, c1, c2⟩ := wantP_rt (en := en) b2
  refine ⟨r3, ?_, c2⟩
  unfold kindP
  rw [hh]
  simp only
  rw [a1]
  simp only
  rw [b1]
  simp only
  rw [c1]
theorem kindT_len (k : PKind) : 1 ≤ (kindT k).length := by simp [kindT]
theorem parseP_rt {en : Int} : ∀ (ks read : List PKind) (f : Nat) {ts : List Tk}, ks.length ≤ f → ts.map kt = catT ks → catV read ks → parseP en f read ts = .ok (read ++ ks)
  | [], read, f, ts, _, h, _ => by
    have : ts = [] := by simpa [catT] using h
    subst this
    rw [List.append_nil]
    cases f <;> rfl
  | k :: ks, read, f, ts, hf, h, hv => by
    obtain ⟨f', rfl⟩ : ∃ f', f = f' + 1 := ⟨f - 1, by simp at hf; omega⟩
    obtain ⟨r, a1, a2⟩ := kindP_rt (en := en) (rest := catT ks) h hv.1
    cases ts with
    | nil => simp [catT, kindT] at h
    | cons t q =>
      simp only [parseP]
      rw [a1]
      simp only
      rw [parseP_rt ks (read ++ [k]) f' (by simp at hf; omega) a2 hv.2, List.append_assoc, List.singleton_append]
theorem catT_len : ∀ ks : List PKind, ks.length ≤ (catT ks).length
  | [] => Nat.le_refl _
  | k :: r => by
    have := catT_len r
    have h2 := kindT_len k
    have h3 : catT (k :: r) = kindT k ++ catT r := rfl
    rw [h3, List.length_append, List.length_cons]; omega
theorem parseR_rt {t : ByteArray} {ks : List PKind} {l : List Tk} {a : Int} (h : lexR t = (l, 0, a)) (hl : l.map kt = catT ks) (hv : catV [] ks) : parseR t = (ks, 0, 0) := by
  unfold parseR
  rw [h]
  simp only [if_true]
  have hlen := congrArg List.length hl
  rw [List.length_map] at hlen
  have := catT_len ks
  rw [parseP_rt ks [] l.length (by omega) hl hv]
  all_goals rfl
/-! Parsing asks for kinds and texts alone. -/
def Sim {α : Type} : Except PE (α × List Tk) → Except PE (α × List Tk) → Prop
  | .ok (x, r), .ok (y, q) => x = y ∧ r.map kt = q.map kt
  | .error e, .error f => e.1 = f.1
  | _, _ => False
theorem failP_s {ts us : List Tk} {en en' c : Int} (h : ts.map kt = us.map kt) : (failP ts en c).1 = (failP us en' c).1 := by
  cases ts with
  | nil =>
    cases us with
    | nil => rfl
    | cons u q => cases h
  | cons t r =>
    cases us with
    | nil => cases h
    | cons u q => rfl
theorem nameP_s {chk : ByteArray → Int} {en en' : Int} {ts us : List Tk} (h : ts.map kt = us.map kt) : Sim (nameP chk en ts) (nameP chk en' us) := by
  cases ts with
  | nil =>
    cases us with
    | nil => rfl
    | cons u q => cases h
  | cons t r =>
    cases us with
    | nil => cases h
    | cons u q =>
      rw [List.map_cons, List.map_cons, List.cons.injEq] at h
      have hk : t.kind = u.kind := congrArg Prod.fst h.1
      have hx : t.text = u.text := congrArg Prod.snd h.1
      simp only [nameP, hk, hx]
      split
      · split
        · exact ⟨rfl, h.2⟩
        · rfl
      · rfl
theorem moreP_s {read : List PKind} {en en' : Int} : ∀ (ts us : List Tk) (l : List ByteArray), ts.map kt = us.map kt → Sim (moreP read en l ts) (moreP read en' l us)
  | [], [], l, _ => ⟨rfl, rfl⟩
  | [], _ :: _, l, h => by cases h
  | _ :: _, [], l, h => by cases h
  | t :: r, u :: q, l, h => by
    rw [List.map_cons, List.map_cons, List.cons.injEq] at h
    have hk : t.kind = u.kind := congrArg Prod.fst h.1
    have hx : t.text = u.text := congrArg Prod.snd h.1
    simp only [moreP, hk, hx]
    split
    · split
      · exact moreP_s r q _ h.2
      · rfl
    · exact ⟨rfl, by simp only [List.map_cons]; rw [h.1, h.2]⟩
theorem Sim.cs {α : Type} {a b : Except PE (α × List Tk)} (h : Sim a b) : (∃ e f, a = .error e ∧ b = .error f ∧ e.1 = f.1) ∨ ∃ x r q, a = .ok (x, r) ∧ b = .ok (x, q) ∧ r.map kt = q.map kt := by
  cases a with
  | error e =>
    cases b with
    | error e' => exact .inl ⟨_, _, rfl, rfl, h⟩
    | ok b => exact h.elim
  | ok a =>
    cases b with
    | error e' => exact h.elim
    | ok b =>
      obtain ⟨x, r⟩ := a
      obtain ⟨y, q⟩ := b
      obtain ⟨rfl, h2⟩ := h
      exact .inr ⟨x, r, q, rfl, rfl, h2⟩
theorem kindsP_s {read : List PKind} {en en' : Int} {l : List ByteArray} {ts us : List Tk} (h : ts.map kt = us.map kt) : Sim (kindsP read en l ts) (kindsP read en' l us) := by
  unfold kindsP
  obtain ⟨e_, f_, h1_, h2_, h3_⟩ | ⟨x_, r_, q_, h1_, h2_, h3_⟩ := Sim.cs (nameP_s h)
  · rw [h1_, h2_]; exact h3_
  rw [h1_, h2_]
  simp only
  clear h1_ h2_
  exact moreP_s _ _ _ h3_
def SimW : Except PE (List Tk) → Except PE (List Tk) → Prop
  | .ok r, .ok q => r.map kt = q.map kt
  | .error e, .error f => e.1 = f.1
  | _, _ => False
theorem wantP_s {s : ByteArray} {en en' : Int} {ts us : List Tk} (h : ts.map kt = us.map kt) : SimW (wantP s en ts) (wantP s en' us) := by
  unfold wantP
  rw [isTk_K, isTk_K, h]
  split
  · show ts.tail.map kt = us.tail.map kt
    rw [List.map_tail, List.map_tail, h]
  · exact failP_s h
theorem SimW.cs {a b : Except PE (List Tk)} (h : SimW a b) : (∃ e f, a = .error e ∧ b = .error f ∧ e.1 = f.1) ∨ ∃ r q, a = .ok r ∧ b = .ok q ∧ r.map kt = q.map kt := by
  cases a with
  | error e =>
    cases b with
    | error e' => exact .inl ⟨_, _, rfl, rfl, h⟩
    | ok b => exact h.elim
  | ok a =>
    cases b with
    | error e' => exact h.elim
    | ok b => exact .inr ⟨_, _, rfl, rfl, h⟩
theorem tail_s {ts us : List Tk} (h : ts.map kt = us.map kt) : ts.tail.map kt = us.tail.map kt := by rw [List.map_tail, List.map_tail, h]
theorem slotP_s {read : List PKind} {en en' : Int} {names : List ByteArray} {ts us : List Tk} (h : ts.map kt = us.map kt) : Sim (slotP read en names ts) (slotP read en' names us) := by
  unfold slotP
  obtain ⟨e_, f_, h1_, h2_, h3_⟩ | ⟨x_, r_, q_, h1_, h2_, h3_⟩ := Sim.cs (nameP_s h)
  · rw [h1_, h2_]; exact h3_
  rw [h1_, h2_]
  simp only
  clear h1_ h2_
  have h := h3_
  clear h3_
  obtain ⟨e_, f_, h1_, h2_, h3_⟩ | ⟨r_, q_, h1_, h2_, h3_⟩ := SimW.cs (wantP_s (en := en) (en' := en') (s := colon) h)
  · rw [h1_, h2_]; exact h3_
  rw [h1_, h2_]
  simp only
  clear h1_ h2_
  have h := h3_
  clear h3_
  obtain ⟨e_, f_, h1_, h2_, h3_⟩ | ⟨x_, r_, q_, h1_, h2_, h3_⟩ := Sim.cs (kindsP_s (read := read) (en := en) (en' := en') (l := []) h)
  · rw [h1_, h2_]; exact h3_
  rw [h1_, h2_]
  simp only
  clear h1_ h2_
  rw [isTk_K, isTk_K, h3_]
  split
  · have h := tail_s h3_
    clear h3_
    obtain ⟨e_, f_, h1_, h2_, h3_⟩ | ⟨x_, r_, q_, h1_, h2_, h3_⟩ := Sim.cs (kindsP_s (read := read) (en := en) (en' := en') h)
    · rw [h1_, h2_]; exact h3_
    rw [h1_, h2_]
    simp only
    clear h1_ h2_
    exact ⟨rfl, h3_⟩
  · exact ⟨rfl, h3_⟩
theorem slotsP_s {read : List PKind} {en en' : Int} : ∀ (f : Nat) (ss : List PSlot) (ts us : List Tk), ts.map kt = us.map kt → Sim (slotsP read en f ss ts) (slotsP read en' f ss us)
  | 0, ss, ts, us, h => ⟨rfl, h⟩
  | f + 1, ss, ts, us, h => by
    simp only [slotsP]
    obtain ⟨e_, f_, h1_, h2_, h3_⟩ | ⟨x_, r_, q_, h1_, h2_, h3_⟩ := Sim.cs (slotP_s (read := read) (en := en) (en' := en') (names := ss.map (·.name)) h)
    · rw [h1_, h2_]; exact h3_
    rw [h1_, h2_]
    simp only
    clear h1_ h2_
    rw [isTk_K, isTk_K, h3_]
    split
    · exact slotsP_s f _ _ _ (tail_s h3_)
    · exact ⟨rfl, h3_⟩
theorem bodyP_s {read : List PKind} {en en' : Int} {ts us : List Tk} (h : ts.map kt = us.map kt) : Sim (bodyP read en ts) (bodyP read en' us) := by
  have hl : ts.length = us.length := by have := congrArg List.length h; simpa using this
  unfold bodyP
  rw [isTk_K, isTk_K, h, hl]
  split
  ·
    obtain ⟨e_, f_, h1_, h2_, h3_⟩ | ⟨x_, r_, q_, h1_, h2_, h3_⟩ := Sim.cs (slotsP_s (read := read) (en := en) (en' := en') us.length [] _ _ (tail_s h))
    · rw [h1_, h2_]; exact h3_
    rw [h1_, h2_]
    simp only
    clear h1_ h2_
    have h := h3_
    clear h3_
    obtain ⟨e_, f_, h1_, h2_, h3_⟩ | ⟨r_, q_, h1_, h2_, h3_⟩ := SimW.cs (wantP_s (en := en) (en' := en') (s := rpar) h)
    · rw [h1_, h2_]; exact h3_
    rw [h1_, h2_]
    simp only
    clear h1_ h2_
    exact ⟨rfl, h3_⟩
  · exact ⟨rfl, h⟩
theorem headP_s {en en' : Int} {ts us : List Tk} (h : ts.map kt = us.map kt) : Sim (headP en ts) (headP en' us) := by
  unfold headP
  rw [isTk_K, isTk_K, isTk_K, isTk_K, h]
  split
  · exact ⟨rfl, tail_s h⟩
  · split
    · exact ⟨rfl, tail_s h⟩
    · exact failP_s h
theorem kindP_s {read : List PKind} {en en' : Int} {ts us : List Tk} (h : ts.map kt = us.map kt) : Sim (kindP read en ts) (kindP read en' us) := by
  unfold kindP
  obtain ⟨e_, f_, h1_, h2_, h3_⟩ | ⟨x_, r_, q_, h1_, h2_, h3_⟩ := Sim.cs (headP_s (en := en) (en' := en') h)
  · rw [h1_, h2_]; exact h3_
  rw [h1_, h2_]
  simp only
  clear h1_ h2_
  have h := h3_
  clear h3_
  obtain ⟨e_, f_, h1_, h2_, h3_⟩ | ⟨x_, r_, q_, h1_, h2_, h3_⟩ := Sim.cs (nameP_s (chk := freshC (read.map (·.name)) 60) (en := en) (en' := en') h)
  · rw [h1_, h2_]; exact h3_
  rw [h1_, h2_]
  simp only
  clear h1_ h2_
  have h := h3_
  clear h3_
  obtain ⟨e_, f_, h1_, h2_, h3_⟩ | ⟨x_, r_, q_, h1_, h2_, h3_⟩ := Sim.cs (bodyP_s (read := read) (en := en) (en' := en') h)
  · rw [h1_, h2_]; exact h3_
  rw [h1_, h2_]
  simp only
  clear h1_ h2_
  have h := h3_
  clear h3_
  obtain ⟨e_, f_, h1_, h2_, h3_⟩ | ⟨r_, q_, h1_, h2_, h3_⟩ := SimW.cs (wantP_s (en := en) (en' := en') (s := semi) h)
  · rw [h1_, h2_]; exact h3_
  rw [h1_, h2_]
  simp only
  clear h1_ h2_
  exact ⟨rfl, h3_⟩
def SimE : Except PE (List PKind) → Except PE (List PKind) → Prop
  | .ok r, .ok q => r = q
  | .error e, .error f => e.1 = f.1
  | _, _ => False
theorem parseP_s {en en' : Int} : ∀ (f : Nat) (read : List PKind) (ts us : List Tk), ts.map kt = us.map kt → SimE (parseP en f read ts) (parseP en' f read us)
  | 0, read, ts, us, h => rfl
  | f + 1, read, [], [], _ => rfl
  | f + 1, read, [], _ :: _, h => by cases h
  | f + 1, read, _ :: _, [], h => by cases h
  | f + 1, read, t :: ts, u :: us, h => by
    have hs := kindP_s (read := read) (en := en) (en' := en') h
    simp only [parseP]
    cases h1 : kindP read en (t :: ts) with
    | error e =>
      cases h2 : kindP read en' (u :: us) with
      | error e' => rw [h1, h2] at hs; exact hs
      | ok b => rw [h1, h2] at hs; exact hs.elim
    | ok a =>
      cases h2 : kindP read en' (u :: us) with
      | error e' => rw [h1, h2] at hs; exact hs.elim
      | ok b =>
        rw [h1, h2] at hs
        obtain ⟨x, r⟩ := a
        obtain ⟨y, q⟩ := b
        obtain ⟨rfl, h4⟩ := hs
        exact parseP_s f _ _ _ h4
theorem parseR_s {t u : ByteArray} {l m : List Tk} {a b : Int} (h1 : lexR t = (l, 0, a)) (h2 : lexR u = (m, 0, b)) (h : l.map kt = m.map kt) : (parseR t).1 = (parseR u).1 ∧ (parseR t).2.1 = (parseR u).2.1 := by
  have hl : l.length = m.length := by have := congrArg List.length h; simpa using this
  have hs := parseP_s (en := (t.size : Int)) (en' := (u.size : Int)) l.length [] l m h
  unfold parseR
  rw [h1, h2]
  simp only [if_true]
  rw [← hl]
  revert hs
  cases parseP (t.size : Int) l.length [] l <;> cases parseP (u.size : Int) l.length [] m <;> intro hs
  · exact ⟨rfl, hs⟩
  · exact hs.elim
  · exact hs.elim
  · exact ⟨hs, rfl⟩
end Go.Proofs.Ytfdjlphfohnnnaa
/-
  The layer 'Sy', maps: own maps that are made, read, written; keys that are strings, numbers.
-/
namespace Go.Sy
open Go.RowKit
set_option linter.unusedVariables false
set_option linter.unusedSimpArgs false

section
variable {K : Type} [DecidableEq K]
def ent (kv : K → Value) (e : K × Value × Nat) : MapEntry := { key := kv e.1, val := e.2.1, born := e.2.2 }
/-- A map's block. -/
def mobj (kv : K → Value) (es : List (K × Value × Nat)) (c : Nat) : Obj := .map (es.map (ent kv)).toArray c
def findL (k : K) : List (K × Value × Nat) → Nat → Option (Nat × Value)
  | [], _ => none
  | e :: es, i => if k = e.1 then some (i, e.2.1) else findL k es (i + 1)
def getL (k : K) : List (K × Value × Nat) → Option Value
  | [] => none
  | e :: es => if k = e.1 then some e.2.1 else getL k es
def putL (k : K) (v : Value) (c : Nat) : List (K × Value × Nat) → List (K × Value × Nat)
  | [] => [(k, v, c)]
  | e :: es => if k = e.1 then (k, v, e.2.2) :: es else e :: putL k v c es
def delL (k : K) : List (K × Value × Nat) → List (K × Value × Nat)
  | [] => []
  | e :: es => if k = e.1 then es else e :: delL k es
def tick (k : K) (c : Nat) (es : List (K × Value × Nat)) : Nat := if (getL k es).isSome then c else c + 1
theorem findL_spec (k : K) (v : Value) (c : Nat) : ∀ (es : List (K × Value × Nat)) (i : Nat),
    (findL k es i = none ∧ getL k es = none ∧ putL k v c es = es ++ [(k, v, c)] ∧ delL k es = es) ∨
    ∃ j e, findL k es i = some (i + j, e.2.1) ∧ es[j]? = some e ∧ e.1 = k ∧ getL k es = some e.2.1 ∧ putL k v c es = es.set j (k, v, e.2.2) ∧ delL k es = es.eraseIdx j
  | [], i => .inl ⟨rfl, rfl, rfl, rfl⟩
  | e :: es, i => by
    by_cases h : k = e.1
    · exact .inr ⟨0, e, by simp [findL, h], rfl, h.symm, by simp [getL, h], by simp [putL, h], by simp [delL, h]⟩
    · rcases findL_spec k v c es (i + 1) with ⟨h1, h2, h3, h4⟩ | ⟨j, e', h1, h2, h3, h4, h5, h6⟩
      · exact .inl ⟨by simp [findL, h, h1], by simp [getL, h, h2], by simp [putL, h, h3], by simp [delL, h, h4]⟩
      · exact .inr ⟨j + 1, e', by simp [findL, h, h1]; omega, by simpa using h2, h3, by simp [getL, h, h4], by simp [putL, h, h5], by simp [delL, h, h6]⟩
theorem getL_put (k k' : K) (v : Value) (c : Nat) : ∀ es : List (K × Value × Nat), getL k' (putL k v c es) = if k' = k then some v else getL k' es
  | [] => by simp [putL, getL]
  | e :: es => by
    by_cases h : k = e.1
    · by_cases h2 : k' = k
      · simp [putL, getL, h, h2]
      · have h3 : ¬ k' = e.1 := fun q => h2 (q.trans h.symm)
        simp [putL, getL, h, h2, h3]
        try (intro q; exact absurd q h3)
    · by_cases h2 : k' = e.1
      · have h3 : ¬ k' = k := fun q => h (q.symm.trans h2)
        simp [putL, getL, h, h2]
        try (intro q; exact absurd q.symm h)
      · simp [putL, getL, h, h2, getL_put k k' v c es]
/-- A type whose values are keys of maps, by what they stand for. -/
class TKey (P : Program) (t : TypeId) (kv : outParam (K → Value)) : Prop where
  check : ∀ (b : Bool) (k : K) (w : World), (Instr.checkKey b 10000 t (kv k)).run P w = .ok () w
  find : ∀ (k : K) (es : List (K × Value × Nat)) (w : World), (Instr.findKey t (kv k) (es.map (ent kv))).run P w = .ok (findL k es 0) w
  same : ∀ k, Instr.sameBits 10000 (kv k) (kv k) = true
end
instance TKey.str {P : Program} {t : TypeId} [ht : TStr P t] : TKey P t (K := ByteArray) .string where
  check b k w := MapKept.run_checkKey ht.str (k := .string k) (by simp [MapKept.IsKey]) b 9999
  find k es w := by
    refine MapKept.run_findKey ht.str ?_
    generalize 0 = i
    induction es generalizing i with
    | nil => rfl
    | cons e es ih =>
      simp only [List.map_cons, Instr.findNow, ent, Instr.sameNow, findL]
      have hbq : (k == e.1) = decide (k = e.1) := by rw [Bool.eq_iff_iff, MapKept.bytes_beq, decide_eq_true_iff]
      rw [hbq]
      by_cases h : k = e.1
      · rw [if_pos h, decide_eq_true h]
      · rw [if_neg h, decide_eq_false h]
        exact ih (i + 1)
  same k := by
    have : (k == k) = true := (MapKept.bytes_beq k k).2 rfl
    simp [Instr.sameBits, this]
instance TKey.int {P : Program} {t : TypeId} {q : IntKind} [ht : TInt P t q] : TKey P t (K := Int) (.int q) where
  check b k w := MapKept.run_checkKey ht.int (k := .int q k) (by simp [MapKept.IsKey]) b 9999
  find k es w := by
    refine MapKept.run_findKey ht.int ?_
    generalize 0 = i
    induction es generalizing i with
    | nil => rfl
    | cons e es ih =>
      simp only [List.map_cons, Instr.findNow, ent, Instr.sameNow, findL]
      by_cases h : k = e.1
      · rw [if_pos h, h]; simp
      · rw [if_neg h]
        have : (k == e.1) = false := by simpa using h
        simp only [if_true, this]
        exact ih (i + 1)
  same k := by simp [Instr.sameBits]

section
variable {P : Program} {Be : Nat} {w0 : World} {H : Heap} {G : Bool} {e : Env} {ty : TypeId} {K : Type} [DecidableEq K]
theorem run_lookupM {t tk te : TypeId} {z : Value} {kv : K → Value} {g c : Nat} {es : List (K × Value × Nat)} (k : K) (ok : Bool) {w : World} [ht : TMap P t tk te] [hk : TKey P tk kv] [hz : TZero P te z] (hb : w.heap[g]? = some (mobj kv es c)) :
    (Instr.lookup t (.map (some g)) (kv k) ok).run P w = .ok (if ok then .tuple #[(getL k es).getD z, .bool (getL k es).isSome] else (getL k es).getD z) w := by
  have h1 := hk.find k es w
  have h2 := hk.check (es.map (ent kv)).toArray.isEmpty k w
  simp only [Instr.lookup, Sem.run_bind, run_underlying ht.map, Result.andThen_ok, MapKept.run_getObj_map (hb : w.heap[g]? = some (.map _ _)), Sem.run_pure, h2, h1]
  rcases findL_spec k (.bool true) 0 es 0 with ⟨q1, q2, -, -⟩ | ⟨j, e, q1, -, -, q2, -, -⟩
  · rw [q1, q2]
    simp only [Sem.run_bind, hz.run w, Result.andThen_ok, Sem.run_pure]
    rfl
  · rw [q1, q2]
    simp only [Sem.run_pure, Result.andThen_ok]
    rfl
theorem ex_lookup {t tk te : TypeId} {z : Value} {x y : Operand} {kv : K → Value} {g c : Nat} {es : List (K × Value × Nat)} {k : K} {v : Value} [ht : TMap P t tk te] [hk : TKey P tk kv] [hz : TZero P te z] (hv : (getL k es).getD z = v) (h : Ev G e x (.map (some g))) (h2 : Ev G e y (kv k)) (hm : Bk Be w0 H g (mobj kv es c)) :
    Ex P Be w0 H G e (.lookup t x y false) ty v := by
  subst hv
  intro N a w o ho _ hf hh hG
  simp only [execOp, ho, h N a hf hG, h2 N a hf hG, Sem.run_bind, run_lookupM (ht := ht) (hk := hk) (hz := hz) k false (hm w hh), Result.andThen_ok, Sem.run_pure]
  rfl
theorem ex_lookupOk {t tk te : TypeId} {z : Value} {x y : Operand} {kv : K → Value} {g c : Nat} {es : List (K × Value × Nat)} {k : K} {v : Value} {b : Bool} [ht : TMap P t tk te] [hk : TKey P tk kv] [hz : TZero P te z] (hv : (getL k es).getD z = v) (hb : (getL k es).isSome = b) (h : Ev G e x (.map (some g))) (h2 : Ev G e y (kv k)) (hm : Bk Be w0 H g (mobj kv es c)) :
    Ex P Be w0 H G e (.lookup t x y true) ty (.tuple #[v, .bool b]) := by
  subst hv
  subst hb
  intro N a w o ho _ hf hh hG
  simp only [execOp, ho, h N a hf hG, h2 N a hf hG, Sem.run_bind, run_lookupM (ht := ht) (hk := hk) (hz := hz) k true (hm w hh), Result.andThen_ok, Sem.run_pure]
  rfl
end
theorem Hp.setObj {Be : Nat} {w0 w : World} {H H' : Heap} {g : Nat} {o o' : Obj} (h : Hp Be w0 H w) (hu : Upd H g o o' H') : Hp Be w0 H' { w with heap := w.heap.setIfInBounds g o' } :=
  h.upd hu rfl rfl rfl (by simp) (fun k _ hk => (MapKept.heap_set (h.own _ hu.mem)).2 k hk) (MapKept.heap_set (h.own _ hu.mem)).1
section
variable {P : Program} {N Be : Nat} {Q : Post} {e : Env} {w0 : World} {H : Heap} {ops : Array Oper} {rest : List Oper} {ty : TypeId} {pos : String} {after : Array Edge} {d : Nat} {K : Type} [DecidableEq K]
theorem spl_makeMap {t : TypeId} (hN : Nat.blt d N = true)
    (k : ∀ g, w0.heap.size ≤ g → Spl P N Be ops Q rest ((d, true, .map (some g)) :: e) w0 ((g, .map #[] 0) :: H)) :
    Spl P N Be ops Q (⟨some d, .makeMap t none, ty, pos, after, none⟩ :: rest) e w0 H := by
  intro a w hf hh
  have hd : d < N := by simpa [Nat.blt_eq] using hN
  refine wpList_plain rfl fun K hK => ?_
  have hr : (execOp a.eval ⟨some d, .makeMap t none, ty, pos, after, none⟩).run P w = .ok (.value (.map (some w.heap.size))) (w.alloc (.map #[] 0)) := rfl
  unfold Oper.wp
  rw [hr, Oper.upon_value]
  exact hK _ _ (k _ hh.size _ _ (hf.puttrue hd) (hh.alloc _))
theorem run_mapUpdateM {t tk te : TypeId} {kv : K → Value} {g c : Nat} {es : List (K × Value × Nat)} (k : K) (v : Value) {w : World} [ht : TMap P t tk te] [hk : TKey P tk kv] (hb : w.heap[g]? = some (mobj kv es c)) :
    (Instr.mapUpdate t (.map (some g)) (kv k) v).run P w = .ok () { w with heap := w.heap.setIfInBounds g (mobj kv (putL k v c es) (tick k c es)) } := by
  have h1 := hk.find k es w
  have h2 := hk.check false k w
  have hb' : w.heap[g]? = some (.map (es.map (ent kv)).toArray c) := hb
  simp only [Instr.mapUpdate, Sem.run_bind, run_underlying ht.map, Result.andThen_ok, MapKept.run_getObj_map hb', h2, h1]
  rcases findL_spec k v c es 0 with ⟨q1, q2, q3, -⟩ | ⟨j, e, q1, qj, qe, q2, q3, -⟩
  · rw [q1]
    simp only
    rw [MapKept.run_setObj_map _ hb']
    have : (es.map (ent kv)).toArray.push { key := kv k, val := v, born := c } = ((putL k v c es).map (ent kv)).toArray := by
      rw [q3]; simp [ent]
    rw [this]
    unfold mobj tick
    rw [q2]
    all_goals rfl
  · rw [q1]
    simp only [Nat.zero_add]
    have hj : j < es.length := (List.getElem?_eq_some_iff.1 qj).1
    have hkey : (((es.map (ent kv)).toArray[j]?).map (·.key)).getD (kv k) = kv k := by
      simp only [List.getElem?_toArray, List.getElem?_map, qj, Option.map_some, ent, qe, Option.getD_some]
    have hst : (Instr.keyThatStays (kv k) (kv k)).run P w = .ok (kv k) w := by simp [Instr.keyThatStays, hk.same k]
    rw [hkey]
    simp only [Sem.run_bind, hst, Result.andThen_ok]
    rw [MapKept.run_setObj_map _ hb']
    have : ((es.map (ent kv)).toArray.modify j fun e => { e with key := kv k, val := v }) = ((putL k v c es).map (ent kv)).toArray := by
      rw [q3]
      apply Array.ext'
      simp only [Array.toList_modify, List.map_set, ent]
      apply List.ext_getElem?
      intro i
      simp only [List.getElem?_modify, List.getElem?_set, List.getElem?_map, List.length_map]
      by_cases hij : j = i
      · subst hij
        have hge : es[j] = e := by rw [List.getElem?_eq_getElem hj] at qj; exact Option.some.inj qj
        simp [hj]
        rw [hge]; rfl
      · simp [hij]
    rw [this]
    unfold mobj tick
    rw [q2]
    all_goals rfl
theorem spl_mapUpdate {t tk te : TypeId} {x y z : Operand} {kv : K → Value} {g c : Nat} {es : List (K × Value × Nat)} {k : K} {v : Value} {H' : Heap} [ht : TMap P t tk te] [hk : TKey P tk kv] (h : Ev true e x (.map (some g))) (h2 : Ev true e y (kv k)) (h3 : Ev true e z v)
    (hu : Upd H g (mobj kv es c) (mobj kv (putL k v c es) (tick k c es)) H') (kk : Spl P N Be ops Q rest e w0 H') :
    Spl P N Be ops Q (⟨none, .mapUpdate t x y z, ty, pos, after, none⟩ :: rest) e w0 H := by
  intro a w hf hh
  refine wpList_plain rfl fun K hK => ?_
  have hr : (execOp a.eval ⟨none, .mapUpdate t x y z, ty, pos, after, none⟩).run P w = .ok .skip { w with heap := w.heap.setIfInBounds g (mobj kv (putL k v c es) (tick k c es)) } := by
    simp only [execOp, h N a hf rfl, h2 N a hf rfl, h3 N a hf rfl, Sem.run_bind, run_mapUpdateM (ht := ht) (hk := hk) k v (hh.own _ hu.mem), Result.andThen_ok, Sem.run_pure]
  unfold Oper.wp
  rw [hr, Oper.upon_skip]
  exact hK _ _ (kk _ _ hf.putnone (hh.setObj hu))
theorem spl_insert {t tk te : TypeId} {x y z : Operand} {kv : K → Value} {g c : Nat} {es : List (K × Value × Nat)} {k : K} {v : Value} {H' : Heap} [ht : TMap P t tk te] [hk : TKey P tk kv] (h : Ev true e x (.map (some g))) (h2 : Ev true e y (kv k)) (h3 : Ev true e z v)
    (hu : Upd H g (mobj kv es c) (mobj kv (putL k v c es) (tick k c es)) H') (kk : Spl P N Be ops Q rest e w0 H') :
    Spl P N Be ops Q (⟨none, .insert t x y z, ty, pos, after, none⟩ :: rest) e w0 H := by
  intro a w hf hh
  refine wpList_plain rfl fun K hK => ?_
  have hr : (execOp a.eval ⟨none, .insert t x y z, ty, pos, after, none⟩).run P w = .ok .skip { w with heap := w.heap.setIfInBounds g (mobj kv (putL k v c es) (tick k c es)) } := by
    simp only [execOp, h N a hf rfl, h2 N a hf rfl, h3 N a hf rfl, Sem.run_bind, run_mapUpdateM (ht := ht) (hk := hk) k v (hh.own _ hu.mem), Result.andThen_ok, Sem.run_pure]
  unfold Oper.wp
  rw [hr, Oper.upon_skip]
  exact hK _ _ (kk _ _ hf.putnone (hh.setObj hu))
end
section
variable {P : Program} {N Be : Nat} {Q : Post} {e : Env} {w0 : World} {H : Heap} {ops : Array Oper} {rest : List Oper} {ty : TypeId} {pos : String} {after : Array Edge} {d : Nat}
/-- A guarded call of a function value. -/
theorem spl_callv_g {c : Operand} {f : FuncId} {first cap : List Value} {xs : List Operand} {ts : Array TypeId} {vs : List Value} {v : Value} {g : Option (Nat × Bool)} {G : Bool} [TFn P f] (hN : Nat.blt d N = true) (hg : Gd ops e g G) (hcv : Ev G e c (.func (.func f) first.toArray cap.toArray)) (hx : Evs G e xs vs)
    (hc : G = true → ∀ w, Hp Be w0 H w → Calls P f (first ++ vs ++ cap).toArray w (Ret w v))
    (k : Spl P N Be ops Q rest ((d, G, v) :: e) w0 H) : Spl P N Be ops Q (⟨some d, .call ⟨.value c, xs.toArray, ts⟩, ty, pos, after, g⟩ :: rest) e w0 H := by
  intro a w hf hh
  have hd : d < N := by simpa [Nat.blt_eq] using hN
  refine wpList_step fun K hK => ?_
  rw [hg N a _ hf rfl]
  cases hG : G with
  | true =>
    rw [if_pos rfl]
    unfold Oper.wp
    rw [exec_call (f := f) rfl (hcv N a hf hG) (hx N a hf hG), Oper.upon_enter]
    simp only [List.append_toArray]
    refine (hc hG w hh).mono ?_
    rintro en w' ⟨rfl, hb⟩
    refine hK _ _ (k _ _ ?_ (hh.below hb))
    rw [hG]; exact hf.puttrue hd
  | false =>
    rw [if_neg (by simp)]
    refine hK _ _ (k _ _ ?_ hh)
    rw [hG]; exact hf.put (g := false) hd
end
end Go.Sy
/-
  Contracts: catalog.Valid, in plain terms and walked.
-/
namespace Go.Proofs.Ytfdjlphfohnnnaa
open Go.RowKit Go.Sy
set_option linter.unusedVariables false
set_option linter.unusedSimpArgs false
/-- Is it among them? -/
def inB (x : ByteArray) (l : List ByteArray) : Bool := l.any fun y => decide (x = y)
theorem inB_snoc (x y : ByteArray) (l : List ByteArray) : inB x (l ++ [y]) = (inB x l || decide (x = y)) := by simp [inB]
/-- A kind that a slot may take. -/
def good (bf : List KindR) (x : ByteArray) : Bool := match findK bf x with | some k => !k.vehicle | none => false
def kindsOk (bf : List KindR) : List ByteArray → List ByteArray → Bool
  | _, [] => true
  | sn, x :: r => (!inB x sn && good bf x) && kindsOk bf (sn ++ [x]) r
def slotOk (bf : List KindR) (s : SlotR) : Bool := (nameL (tx s.name) && (decide (1 ≤ s.normal) && decide (s.normal ≤ (s.ks.n : Int)))) && kindsOk bf [] s.kinds
def slotsOk (bf : List KindR) : List ByteArray → List SlotR → Bool
  | _, [] => true
  | sn, s :: r => (!inB s.name sn && slotOk bf s) && slotsOk bf (sn ++ [s.name]) r
def kindOk (bf : List KindR) (k : KindR) : Bool := ((findK bf k.name).isNone && (nameL (tx k.name) && decide (k.ss.n ≤ 12))) && slotsOk bf [] k.slots
def catOk : List KindR → List KindR → Bool
  | _, [] => true
  | bf, k :: r => kindOk bf k && catOk (bf ++ [k]) r
def validB (ks : List KindR) : Bool := catOk [] ks && decide (ks.length ≤ 60)
/-! The maps. -/
def PM (es : List (ByteArray × Value × Nat)) (bf : List KindR) : Prop := ∀ s, getL s es = (findK bf s).map fun k => Value.bool (!k.vehicle)
def SM (es : List (ByteArray × Value × Nat)) (sn : List ByteArray) : Prop := ∀ s, getL s es = if inB s sn = true then some (Value.bool true) else none
theorem PM.nil : PM [] [] := fun _ => rfl
theorem SM.nil : SM [] [] := fun _ => rfl
theorem SM.put {es : List (ByteArray × Value × Nat)} {sn : List ByteArray} {c : Nat} {x : ByteArray} (h : SM es sn) : SM (putL x (.bool true) c es) (sn ++ [x]) := by
  intro s
  rw [getL_put, h s, inB_snoc]
  by_cases hs : s = x
  · simp [hs]
  · simp [hs]
theorem PM.put {es : List (ByteArray × Value × Nat)} {bf : List KindR} {c : Nat} {k : KindR} (h : PM es bf) (hn : findK bf k.name = none) : PM (putL k.name (.bool (!k.vehicle)) c es) (bf ++ [k]) := by
  intro s
  rw [getL_put, h s]
  unfold findK at *
  rw [List.find?_append]
  by_cases hs : s = k.name
  · rw [if_pos hs, hs, hn]; simp
  · rw [if_neg hs]
    have : ¬ k.name = s := fun q => hs q.symm
    simp [this]
theorem SM.get {es : List (ByteArray × Value × Nat)} {sn : List ByteArray} (h : SM es sn) (x : ByteArray) : (getL x es).getD (.bool false) = .bool (inB x sn) := by
  rw [h x]
  cases inB x sn <;> rfl
theorem PM.get {es : List (ByteArray × Value × Nat)} {bf : List KindR} (h : PM es bf) (x : ByteArray) : (getL x es).getD (.bool false) = .bool (good bf x) := by
  rw [h x]
  unfold good
  cases findK bf x <;> rfl
theorem PM.has {es : List (ByteArray × Value × Nat)} {bf : List KindR} (h : PM es bf) (x : ByteArray) : (getL x es).isSome = (findK bf x).isSome := by
  rw [h x]
  cases findK bf x <;> rfl
theorem mobj_nil : (Obj.map #[] 0) = mobj (K := ByteArray) Value.string [] 0 := rfl
attribute [local irreducible] Calls thenQ blockQ retQ Spc Spl Spq Ex Ev Evs Gd Upd ESub HKeep Res Res1 wlk effQ Rem SrcAt Split mobj
theorem catOk_at {ks : List KindR} {i : Nat} {x : KindR} (hx : ks[i]? = some x) : catOk (ks.take i) (ks.drop i) = (kindOk (ks.take i) x && catOk (ks.take (i + 1)) (ks.drop (i + 1))) := by
  obtain ⟨h1, h2⟩ := List.getElem?_eq_some_iff.1 hx
  rw [← List.getElem_cons_drop h1, h2, take_succ hx]
  all_goals rfl
theorem slotsOk_at {bf : List KindR} {ss : List SlotR} {j : Nat} {y : SlotR} (hy : ss[j]? = some y) : slotsOk bf ((ss.take j).map (·.name)) (ss.drop j) = ((!inB y.name ((ss.take j).map (·.name)) && slotOk bf y) && slotsOk bf ((ss.take (j + 1)).map (·.name)) (ss.drop (j + 1))) := by
  obtain ⟨h1, h2⟩ := List.getElem?_eq_some_iff.1 hy
  rw [← List.getElem_cons_drop h1, h2, take_succ hy, List.map_append]
  all_goals rfl
theorem kindsOk_at {bf : List KindR} {ks : List ByteArray} {m : Nat} {z : ByteArray} (hz : ks[m]? = some z) : kindsOk bf (ks.take m) (ks.drop m) = ((!inB z (ks.take m) && good bf z) && kindsOk bf (ks.take (m + 1)) (ks.drop (m + 1))) := by
  obtain ⟨h1, h2⟩ := List.getElem?_eq_some_iff.1 hz
  rw [← List.getElem_cons_drop h1, h2, take_succ hz]
  all_goals rfl
set_option maxRecDepth 100000 in
set_option maxHeartbeats 4000000 in
theorem valid_c {w : World} {A : Option Addr} {n c : Nat} {ks : List KindR} (h : RdKinds w w.heap.size ⟨A, n, c⟩ ks) (hsm : ∀ k ∈ ks, k.name.size < 9223372036854775808 ∧ ∀ s ∈ k.slots, s.name.size < 9223372036854775808) :
    Calls Try.prog 19 #[.agg #[.slice A n c]] w (Ret w (.bool (validB ks))) := by
  have hbd : n ≤ 9223372036854775807 := h.1.bound
  have hlen : ks.length = n := h.1.len
  refine sp_enter (vs := [_]) Try.func19 rfl Try.ntmps19 rfl ?_
  repeat (first|(apply spl_makeMap rfl;intro _ _)|apply then_n|apply sp_seq|apply sp_region|apply spl_nil|apply sp_block|((apply spl_pure rfl);(·(first|((first|apply ex_move|apply ex_assign|apply ex_fieldAddr'|apply ex_len)<;>(first|exact eT rfl|exact eC))|((apply ex_loadown)<;>(first|exact eT rfl|exact Bk.own InH.mem|rfl)))))|(apply spl_box;(·exact eT rfl);(·rfl);intro _ _))
  rename_i g1 h1 g2 h2
  rw [mobj_nil]
  refine sp_loop (X := Nat × List (ByteArray × Value × Nat) × Nat) (fun x => [(18, true, .int .i64 (x.1 : Int)), (17, true, .int .i64 (n : Int)), (16, true, .slice A n c), (3, true, .map (some g2)), (1, true, .pointer (some ⟨g1, 0, none⟩))]) (fun _ => w) (fun x => [(g2, mobj Value.string x.2.1 x.2.2), (g1, .cells #[.slice A n c] 24 (0, 0))])
    (fun x => x.1 ≤ n ∧ PM x.2.1 (ks.take x.1) ∧ catOk [] ks = catOk (ks.take x.1) (ks.drop x.1)) (fun x => n - x.1) (0, [], 0) ⟨Nat.zero_le _, PM.nil, rfl⟩ (by (repeat (first|exact ESub.nil|apply ESub.cons rfl))) rfl (by (repeat (exact HKeep.refl))) ?_
  rintro ⟨i, es, ck⟩ ⟨hin, hPM, hcat⟩
  replace hin : i ≤ n := hin
  replace hPM : PM es (ks.take i) := hPM
  replace hcat : catOk [] ks = catOk (ks.take i) (ks.drop i) := hcat
  dsimp only
  by_cases hlt : i < n
  · obtain ⟨ad, x, hA, hb, hx, hsz, hc⟩ := h.1.at_ hlt
    have hmem := List.mem_of_getElem? hx
    have hsl := h.2 x hmem
    have hbd2 := hsl.1.bound
    have hlen2 : x.slots.length = x.ss.n := hsl.1.len
    rw [catOk_at hx] at hcat
    have hhas := hPM.has x.name
    have hnm := fun w' : World => lexName_c (w := w') x.name (hsm x hmem).1
    obtain ⟨hd, hhd⟩ : ∃ hd, hd = ((findK (ks.take i) x.name).isNone && (nameL (tx x.name) && decide (x.ss.n ≤ 12))) := ⟨_, rfl⟩
    have hgt : ∀ q : Nat, decide ((12 : Int) < (q : Int)) = !decide (q ≤ 12) := fun q => by
      rw [Bool.eq_iff_iff]; simp; omega
    have hcond : (((findK (ks.take i) x.name).isSome || !nameL (tx x.name)) || decide ((12 : Int) < (x.ss.n : Int))) = !hd := by
      rw [hhd, hgt]
      cases findK (ks.take i) x.name <;> cases nameL (tx x.name) <;> simp
    cases hd with
    | false =>
      have hko : kindOk (ks.take i) x = false := by unfold kindOk; rw [← hhd]; rfl
      rw [hko, Bool.false_and] at hcat
      repeat (first|(apply sp_cond_t;(·exact eT rfl);(·exact hcond))|(apply spl_callp_g rfl;(·exact Gd.tf rfl rfl);(·(repeat (first|exact eN|(apply eS;(·exact eG rfl)))));(·exact fun _ w' hh => hnm w'))|apply then_n|apply sp_seq|apply sp_region|apply spl_nil|apply then_r|apply block_r|((apply sp_cond_t);(·exact eT rfl);(·(exact decide_eq_true (by omega))))|apply sp_skip|apply sp_ret|apply sp_block|((first|apply spl_pure rfl|(apply spl_pure_g rfl;(·exact Gd.tf rfl rfl)));(·(first|(apply ex_lookupOk rfl hhas;(·exact eT rfl);(·exact eT rfl);(·exact Bk.own InH.mem))|(apply ex_loadelem;(·exact eT rfl);(·exact h.1);(·exact hA);(·exact hx))|((first|apply ex_move|apply ex_assign|apply ex_fieldAddr'|apply ex_not|apply ex_lss|apply ex_gtr|apply ex_len)<;>(first|exact eT rfl|exact eC|exact eG rfl))|((apply ex_orT)<;>(first|exact eT rfl|exact eG rfl))|((first|apply ex_loadown|apply ex_extract|apply ex_indexAddr)<;>(first|exact eT rfl|exact eG rfl|exact Bk.own InH.mem|rfl|assumption)))))|(apply spl_alloc rfl;intro _ _)|(apply spl_stores;(·exact eT rfl);(·exact eT rfl);(·(repeat (exact Upd.here)));(·(rfl));(·(rfl));(·exact Ones.one)))
      (apply ret_ok rfl;(·((apply Res.ofOne;((apply Res1.tmp;(·rfl))))))); unfold validB; rw [hcat]; rfl
    | true =>
      have hko : kindOk (ks.take i) x = slotsOk (ks.take i) [] x.slots := by unfold kindOk; rw [← hhd]; rfl
      have hnone : findK (ks.take i) x.name = none := by
        cases hf : findK (ks.take i) x.name with
        | none => rfl
        | some k => rw [hf] at hhd; cases hhd
      rw [hko] at hcat
      repeat (first|(apply spl_makeMap rfl;intro _ _)|(apply sp_cond_f;(·exact eT rfl);(·exact hcond))|(apply spl_callp_g rfl;(·exact Gd.tf rfl rfl);(·(repeat (first|exact eN|(apply eS;(·exact eG rfl)))));(·exact fun _ w' hh => hnm w'))|apply then_n|apply sp_seq|apply sp_region|apply spl_nil|((apply sp_cond_t);(·exact eT rfl);(·(exact decide_eq_true (by omega))))|apply sp_skip|apply sp_block|((first|apply spl_pure rfl|(apply spl_pure_g rfl;(·exact Gd.tf rfl rfl)));(·(first|(apply ex_lookupOk rfl hhas;(·exact eT rfl);(·exact eT rfl);(·exact Bk.own InH.mem))|(apply ex_loadelem;(·exact eT rfl);(·exact h.1);(·exact hA);(·exact hx))|((first|apply ex_move|apply ex_assign|apply ex_fieldAddr'|apply ex_not|apply ex_lss|apply ex_gtr|apply ex_len)<;>(first|exact eT rfl|exact eC|exact eG rfl))|((apply ex_orT)<;>(first|exact eT rfl|exact eG rfl))|((first|apply ex_loadown|apply ex_extract|apply ex_indexAddr)<;>(first|exact eT rfl|exact eG rfl|exact Bk.own InH.mem|rfl|assumption)))))|(apply spl_alloc rfl;intro _ _)|(apply spl_stores;(·exact eT rfl);(·exact eT rfl);(·(repeat (exact Upd.here)));(·(rfl));(·(rfl));(·exact Ones.one)))
      rename_i g5 h5 g8 h8
      rw [mobj_nil]
      refine sp_loop (X := Nat × List (ByteArray × Value × Nat) × Nat) (fun z => [(46, true, .int .i64 (z.1 : Int)), (45, true, .int .i64 (x.ss.n : Int)), (44, true, .slice x.ss.a x.ss.n x.ss.c), (8, true, .map (some g8)), (5, true, .pointer (some ⟨g5, 0, none⟩)), (18, true, .int .i64 (i : Int)), (17, true, .int .i64 (n : Int)), (16, true, .slice A n c), (3, true, .map (some g2)), (1, true, .pointer (some ⟨g1, 0, none⟩))]) (fun _ => w)
        (fun z => [(g8, mobj Value.string z.2.1 z.2.2), (g5, .cells x.cells 34 (0, 0)), (g2, mobj Value.string es ck), (g1, .cells #[.slice A n c] 24 (0, 0))])
        (fun z => z.1 ≤ x.ss.n ∧ SM z.2.1 ((x.slots.take z.1).map (·.name)) ∧ slotsOk (ks.take i) [] x.slots = slotsOk (ks.take i) ((x.slots.take z.1).map (·.name)) (x.slots.drop z.1)) (fun z => x.ss.n - z.1) (0, [], 0) ⟨Nat.zero_le _, SM.nil, rfl⟩ (by (repeat (first|exact ESub.nil|apply ESub.cons rfl))) rfl (by (repeat (exact HKeep.refl))) ?_
      rintro ⟨j, es2, ck2⟩ ⟨hjn, hSM, hslots⟩
      replace hjn : j ≤ x.ss.n := hjn
      replace hSM : SM es2 ((x.slots.take j).map (·.name)) := hSM
      replace hslots : slotsOk (ks.take i) [] x.slots = slotsOk (ks.take i) ((x.slots.take j).map (·.name)) (x.slots.drop j) := hslots
      dsimp only
      by_cases hlt2 : j < x.ss.n
      · obtain ⟨ad2, y, hA2, hb2, hy, hsz2, hc2⟩ := hsl.1.at_ hlt2
        have hmem2 := List.mem_of_getElem? hy
        have hst := hsl.2 y hmem2
        have hbd3 := hst.1.bound
        have hlen3 : y.kinds.length = y.ks.n := hst.1.len
        rw [slotsOk_at hy] at hslots
        have hget := hSM.get y.name
        generalize hsn : (x.slots.take j).map (·.name) = sn at hslots hSM hget
        have hsn2 : (x.slots.take (j + 1)).map (·.name) = sn ++ [y.name] := by rw [take_succ hy, List.map_append, hsn]; rfl
        have hnm2 := fun w' : World => lexName_c (w := w') y.name ((hsm x hmem).2 y hmem2)
        obtain ⟨hd2, hhd2⟩ : ∃ hd, hd = (!inB y.name sn && (nameL (tx y.name) && (decide (1 ≤ y.normal) && decide (y.normal ≤ (y.ks.n : Int))))) := ⟨_, rfl⟩
        have e1 : decide (y.normal < 1) = !decide (1 ≤ y.normal) := by rw [Bool.eq_iff_iff]; simp <;> omega
        have e2 : decide ((y.ks.n : Int) < y.normal) = !decide (y.normal ≤ (y.ks.n : Int)) := by rw [Bool.eq_iff_iff]; simp
        have hcond2 : (((inB y.name sn || !nameL (tx y.name)) || decide (y.normal < 1)) || decide ((y.ks.n : Int) < y.normal)) = !hd2 := by
          rw [hhd2, e1, e2]
          cases inB y.name sn <;> cases nameL (tx y.name) <;> cases decide (1 ≤ y.normal) <;> cases decide (y.normal ≤ (y.ks.n : Int)) <;> rfl
        cases hd2 with
        | false =>
          have hso : (!inB y.name sn && slotOk (ks.take i) y) = false := by
            unfold slotOk
            rw [← Bool.and_assoc, ← hhd2]; rfl
          rw [hso, Bool.false_and] at hslots
          rw [hslots, Bool.false_and] at hcat
          repeat (first|(apply sp_cond_t;(·exact eT rfl);(·exact hcond2))|(apply spl_callp_g rfl;(·exact Gd.tf rfl rfl);(·(repeat (first|exact eN|(apply eS;(·exact eG rfl)))));(·exact fun _ w' hh => hnm2 w'))|apply then_n|apply sp_seq|apply sp_region|apply spl_nil|apply then_r|apply block_r|((apply sp_cond_t);(·exact eT rfl);(·(exact decide_eq_true (by omega))))|apply sp_skip|apply sp_ret|apply sp_block|((first|apply spl_pure rfl|(apply spl_pure_g rfl;(·exact Gd.tf rfl rfl)));(·(first|(apply ex_lookup hget;(·exact eT rfl);(·exact eT rfl);(·exact Bk.own InH.mem))|(apply ex_loadelem;(·exact eT rfl);(·exact hsl.1);(·exact hA2);(·exact hy))|((first|apply ex_move|apply ex_assign|apply ex_fieldAddr'|apply ex_not|apply ex_lss|apply ex_gtr|apply ex_len)<;>(first|exact eT rfl|exact eC|exact eG rfl))|((apply ex_orT)<;>(first|exact eT rfl|exact eG rfl))|((first|apply ex_loadown|apply ex_indexAddr)<;>(first|exact eT rfl|exact eG rfl|exact Bk.own InH.mem|rfl|assumption)))))|(apply spl_alloc rfl;intro _ _)|(apply spl_stores;(·exact eT rfl);(·exact eT rfl);(·(repeat (exact Upd.here)));(·(rfl));(·(rfl));(·exact Ones.one)))
          (apply ret_ok rfl;(·((apply Res.ofOne;((apply Res1.tmp;(·rfl))))))); unfold validB; rw [hcat]; rfl
        | true =>
          have hso : (!inB y.name sn && slotOk (ks.take i) y) = kindsOk (ks.take i) [] y.kinds := by
            unfold slotOk
            rw [← Bool.and_assoc, ← hhd2]; rfl
          rw [hso] at hslots
          repeat (first|(apply spl_makeMap rfl;intro _ _)|(apply spl_mapUpdate (K:=ByteArray);(·exact eT rfl);(·exact eT rfl);(·exact eC);(·(repeat (first|exact Upd.here|apply Upd.there))))|(apply sp_cond_f;(·exact eT rfl);(·exact hcond2))|(apply spl_callp_g rfl;(·exact Gd.tf rfl rfl);(·(repeat (first|exact eN|(apply eS;(·exact eG rfl)))));(·exact fun _ w' hh => hnm2 w'))|apply then_n|apply sp_seq|apply sp_region|apply spl_nil|((apply sp_cond_t);(·exact eT rfl);(·(exact decide_eq_true (by omega))))|apply sp_skip|apply sp_block|((first|apply spl_pure rfl|(apply spl_pure_g rfl;(·exact Gd.tf rfl rfl)));(·(first|(apply ex_lookup hget;(·exact eT rfl);(·exact eT rfl);(·exact Bk.own InH.mem))|(apply ex_loadelem;(·exact eT rfl);(·exact hsl.1);(·exact hA2);(·exact hy))|((first|apply ex_move|apply ex_assign|apply ex_fieldAddr'|apply ex_not|apply ex_lss|apply ex_gtr|apply ex_len)<;>(first|exact eT rfl|exact eC|exact eG rfl))|((apply ex_orT)<;>(first|exact eT rfl|exact eG rfl))|((first|apply ex_loadown|apply ex_indexAddr)<;>(first|exact eT rfl|exact eG rfl|exact Bk.own InH.mem|rfl|assumption)))))|(apply spl_alloc rfl;intro _ _)|(apply spl_stores;(·exact eT rfl);(·exact eT rfl);(·(repeat (exact Upd.here)));(·(rfl));(·(rfl));(·exact Ones.one)))
          rename_i g10 h10 g11 h11
          rw [mobj_nil]
          have hSM2 : SM (putL y.name (.bool true) ck2 es2) (sn ++ [y.name]) := hSM.put
          generalize putL y.name (.bool true) ck2 es2 = es2' at hSM2
          generalize tick y.name ck2 es2 = ck2'
          refine sp_loop (X := Nat × List (ByteArray × Value × Nat) × Nat) (fun z => [(80, true, .int .i64 (z.1 : Int)), (79, true, .int .i64 (y.ks.n : Int)), (78, true, .slice y.ks.a y.ks.n y.ks.c), (11, true, .map (some g11)), (46, true, .int .i64 (j : Int)), (45, true, .int .i64 (x.ss.n : Int)), (44, true, .slice x.ss.a x.ss.n x.ss.c), (8, true, .map (some g8)), (5, true, .pointer (some ⟨g5, 0, none⟩)), (18, true, .int .i64 (i : Int)), (17, true, .int .i64 (n : Int)), (16, true, .slice A n c), (3, true, .map (some g2)), (1, true, .pointer (some ⟨g1, 0, none⟩))]) (fun _ => w)
            (fun z => [(g11, mobj Value.string z.2.1 z.2.2), (g8, mobj Value.string es2' ck2'), (g5, .cells x.cells 34 (0, 0)), (g2, mobj Value.string es ck), (g1, .cells #[.slice A n c] 24 (0, 0))])
            (fun z => z.1 ≤ y.ks.n ∧ SM z.2.1 (y.kinds.take z.1) ∧ kindsOk (ks.take i) [] y.kinds = kindsOk (ks.take i) (y.kinds.take z.1) (y.kinds.drop z.1)) (fun z => y.ks.n - z.1) (0, [], 0) ⟨Nat.zero_le _, SM.nil, rfl⟩ (by (repeat (first|exact ESub.nil|apply ESub.cons rfl))) rfl (by (repeat (first|exact HKeep.refl|apply HKeep.keep|(apply HKeep.pick;(·(repeat (first|exact Rem.here|apply Rem.there))))|apply HKeep.drop (by first|assumption|omega)))) ?_
          rintro ⟨m, es3, ck3⟩ ⟨hmn, hTM, hkinds⟩
          replace hmn : m ≤ y.ks.n := hmn
          replace hTM : SM es3 (y.kinds.take m) := hTM
          replace hkinds : kindsOk (ks.take i) [] y.kinds = kindsOk (ks.take i) (y.kinds.take m) (y.kinds.drop m) := hkinds
          dsimp only
          by_cases hlt3 : m < y.ks.n
          · obtain ⟨ad3, z, hA3, hb3, hz, hsz3, hc3⟩ := hst.1.at_ hlt3
            rw [kindsOk_at hz] at hkinds
            have hget2 := hTM.get z
            have hget3 := hPM.get z
            cases hbad : (!inB z (y.kinds.take m) && good (ks.take i) z) with
            | false =>
              rw [hbad, Bool.false_and] at hkinds
              rw [hkinds, Bool.false_and] at hslots
              rw [hslots, Bool.false_and] at hcat
              have hcond3 : (inB z (y.kinds.take m) || !good (ks.take i) z) = true := by
                revert hbad
                cases inB z (y.kinds.take m) <;> cases good (ks.take i) z <;> simp
              repeat (first|(apply sp_cond_t;(·exact eT rfl);(·exact hcond3))|apply then_n|apply sp_seq|apply sp_region|apply spl_nil|apply then_r|apply block_r|((apply sp_cond_t);(·exact eT rfl);(·(exact decide_eq_true (by omega))))|apply sp_skip|apply sp_ret|apply sp_block|((first|apply spl_pure rfl|(apply spl_pure_g rfl;(·exact Gd.tf rfl rfl)));(·(first|(apply ex_lookup hget2;(·(first|exact eT rfl|exact eG rfl));(·(first|exact eT rfl|exact eG rfl));(·exact Bk.own InH.mem))|(apply ex_lookup hget3;(·exact eG rfl);(·exact eG rfl);(·exact Bk.own InH.mem))|(apply ex_loadfield (k:=0);(·exact eT rfl);(·exact hst.1);(·exact hA3);(·exact hz);(·rfl))|((first|apply ex_move|apply ex_assign|apply ex_not|apply ex_lss)<;>(first|exact eT rfl|exact eC|exact eG rfl))|((apply ex_orT)<;>(first|exact eT rfl|exact eG rfl))|((apply ex_indexAddr)<;>(first|exact eT rfl|assumption))))))
              (apply ret_ok rfl;(·((apply Res.ofOne;((apply Res1.tmp;(·rfl))))))); unfold validB; rw [hcat]; rfl
            | true =>
              rw [hbad, Bool.true_and] at hkinds
              have hcond3 : (inB z (y.kinds.take m) || !good (ks.take i) z) = false := by
                revert hbad
                cases inB z (y.kinds.take m) <;> cases good (ks.take i) z <;> simp
              repeat (first|(apply spl_mapUpdate (K:=ByteArray);(·exact eT rfl);(·exact eT rfl);(·exact eC);(·(repeat (exact Upd.here))))|(apply sp_cond_f;(·exact eT rfl);(·exact hcond3))|apply then_n|apply block_n|apply sp_seq|apply sp_region|apply spl_nil|((apply sp_cond_t);(·exact eT rfl);(·(exact decide_eq_true (by omega))))|apply sp_skip|apply sp_block|((first|apply spl_pure rfl|(apply spl_pure_g rfl;(·exact Gd.tf rfl rfl)));(·(first|(apply ex_lookup hget2;(·(first|exact eT rfl|exact eG rfl));(·(first|exact eT rfl|exact eG rfl));(·exact Bk.own InH.mem))|(apply ex_lookup hget3;(·exact eG rfl);(·exact eG rfl);(·exact Bk.own InH.mem))|(apply ex_loadfield (k:=0);(·exact eT rfl);(·exact hst.1);(·exact hA3);(·exact hz);(·rfl))|((first|apply ex_move|apply ex_assign|apply ex_not|apply ex_lss)<;>(first|exact eT rfl|exact eG rfl))|((apply ex_orT)<;>(first|exact eT rfl|exact eG rfl))|(apply ex_addn<;>(first|exact eT rfl|exact eC|(constructor<;>omega)))|((apply ex_indexAddr)<;>(first|exact eT rfl|assumption))))))
              exact ⟨(m + 1, putL z (.bool true) ck3 es3, tick z ck3 es3), ⟨hlt3, by rw [take_succ hz]; exact hTM.put, hkinds⟩, by show y.ks.n - (m + 1) < y.ks.n - m; omega, (by (repeat (first|exact ESub.nil|apply ESub.cons rfl))), rfl, (by (repeat (exact HKeep.refl)))⟩
          · have hk0 : kindsOk (ks.take i) (y.kinds.take m) (y.kinds.drop m) = true := by rw [List.drop_eq_nil_of_le (by omega)]; rfl
            rw [hkinds, hk0, Bool.true_and] at hslots
            repeat (first|apply then_n|apply block_n|apply sp_seq|apply sp_region|apply spl_nil|apply then_e|apply block_here|(apply sp_cond_f;(·exact eT rfl);(·(exact decide_eq_false (by omega))))|apply sp_exit|((apply spl_pure rfl);(·(first|((first|apply ex_move|apply ex_lss)<;>(exact eT rfl))|(apply ex_addn<;>(first|exact eT rfl|exact eC|(constructor<;>omega)))))))
            exact ⟨(j + 1, es2', ck2'), ⟨hlt2, by rw [hsn2]; exact hSM2, hslots⟩, by show x.ss.n - (j + 1) < x.ss.n - j; omega, (by (repeat (first|exact ESub.nil|apply ESub.cons rfl))), rfl, (by (repeat (first|exact HKeep.refl|(apply HKeep.pick;(·(repeat (first|exact Rem.here|apply Rem.there))))|apply HKeep.drop (by first|assumption|omega))))⟩
      · have hs0 : slotsOk (ks.take i) ((x.slots.take j).map (·.name)) (x.slots.drop j) = true := by rw [List.drop_eq_nil_of_le (by omega)]; rfl
        rw [hslots, hs0, Bool.true_and] at hcat
        repeat (first|(apply spl_mapUpdate (K:=ByteArray);(·exact eT rfl);(·exact eT rfl);(·exact eT rfl);(·(repeat (first|exact Upd.here|apply Upd.there))))|apply then_n|apply block_n|apply sp_seq|apply sp_region|apply spl_nil|apply then_e|apply block_here|(apply sp_cond_f;(·exact eT rfl);(·(exact decide_eq_false (by omega))))|apply sp_exit|((apply spl_pure rfl);(·(first|((first|apply ex_move|apply ex_fieldAddr'|apply ex_not|apply ex_lss)<;>(exact eT rfl))|(apply ex_addn<;>(first|exact eT rfl|exact eC|(constructor<;>omega)))|((apply ex_loadown)<;>(first|exact eT rfl|exact Bk.own InH.mem|rfl))))))
        exact ⟨(i + 1, putL x.name (.bool (!x.vehicle)) ck es, tick x.name ck es), ⟨hlt, by rw [take_succ hx]; exact hPM.put hnone, hcat⟩, by show n - (i + 1) < n - i; omega, (by (repeat (first|exact ESub.nil|apply ESub.cons rfl))), rfl, (by (repeat (first|exact HKeep.refl|(apply HKeep.pick;(·(repeat (first|exact Rem.here|apply Rem.there))))|apply HKeep.drop (by first|assumption|omega))))⟩
  · have h0 : catOk (ks.take i) (ks.drop i) = true := by rw [List.drop_eq_nil_of_le (by omega)]; rfl
    rw [h0] at hcat
    repeat (first|apply then_n|apply sp_seq|apply sp_region|apply spl_nil|apply then_e|apply block_here|(apply sp_cond_f;(·exact eT rfl);(·(exact decide_eq_false (by omega))))|apply sp_ret|apply sp_exit|((apply spl_pure rfl);(·(first|((first|apply ex_assign|apply ex_fieldAddr'|apply ex_lss|apply ex_leq|apply ex_len)<;>(first|exact eT rfl|exact eC))|((apply ex_loadown)<;>(first|exact eT rfl|exact Bk.own InH.mem|rfl))))))
    (apply ret_ok rfl;(·((apply Res.ofOne;((apply Res1.tmp;(·rfl)))))))
    unfold validB
    rw [hcat, hlen, Bool.true_and]
    congr 1
    rw [Bool.eq_iff_iff]
    simp
    omega
end Go.Proofs.Ytfdjlphfohnnnaa
/-
  Regions that draw their order in which two operations that make memory come up together: both orders are walked; code that is cut between two statements.
-/
namespace Go.Sy
open Go.RowKit
set_option linter.unusedVariables false
set_option linter.unusedSimpArgs false
inductive Pt where
  | nil
  | rd (i : Nat) (t : Pt)
  | ef (i : Nat) (t : Pt)
  | fk (i j : Nat) (t u : Pt)
def Pt.len : Pt → Nat
  | .nil => 0
  | .rd _ t => t.len + 1
  | .ef _ t => t.len + 1
  | .fk _ _ t _ => t.len + 1
def canonT (md : Region.Mode) (ops : Array Oper) (m : Nat) : Array Bool → Bool → Pt → Bool
  | listed, _, .nil => (Region.ready md ops listed).isEmpty
  | listed, bar, .rd i r => (!bar && decide (i < m)) && (Region.ready md ops listed).contains i && Region.free md ops listed i && canonT md ops m (listed.setIfInBounds i true) bar r
  | listed, bar, .ef i r => (Region.ready md ops listed == [i]) && canonT md ops m (listed.setIfInBounds i true) (bar || decide (m ≤ i)) r
  | listed, bar, .fk i j r s => (Region.ready md ops listed == [i, j]) && (Nat.beq r.len s.len && (canonT md ops m (listed.setIfInBounds i true) (bar || decide (m ≤ i)) r && canonT md ops m (listed.setIfInBounds j true) (bar || decide (m ≤ j)) s))
def drawnT (ops : Array Oper) (m : Nat) (p : Pt) : Bool :=
  Region.noSelect ops && tailB .any ops m && decide (p.len = ops.size) && canonT .any ops m (Array.replicate ops.size false) false p
section walk
variable {P : Program} {N Be : Nat} {Q : Post} {e : Env} {w0 : World} {H H1 : Heap} {ops : Array Oper} {ty : TypeId} {pos : String} {after : Array Edge} {d i m : Nat}
def wlkT (P : Program) (N Be : Nat) (ops : Array Oper) (m : Nat) (Q : Post) (H1 : Heap) : Pt → Env → World → Heap → Prop
  | .nil, e, w0, H => Q .normal e w0 H
  | .rd i r, e, w0, H => ∃ (o : Oper) (d : Nat) (G : Bool) (v : Value), ops[i]? = some o ∧ o.dst = some d ∧ d < N ∧ Gd ops e o.guard G ∧ Ex P Be w0 H1 G e o.op o.type v ∧ wlkT P N Be ops m Q H1 r ((d, G, v) :: e) w0 H
  | .ef i r, e, w0, H => ∃ o : Oper, ops[i]? = some o ∧ Spl P N Be ops (fun x e' w0' H' => x = .normal ∧ w0' = w0 ∧ (i < m → HKeep w0 H1 H') ∧ wlkT P N Be ops m Q H1 r e' w0' H') [o] e w0 H
  | .fk i j r s, e, w0, H => (∃ o : Oper, ops[i]? = some o ∧ Spl P N Be ops (fun x e' w0' H' => x = .normal ∧ w0' = w0 ∧ (i < m → HKeep w0 H1 H') ∧ wlkT P N Be ops m Q H1 r e' w0' H') [o] e w0 H) ∧
      ∃ o : Oper, ops[j]? = some o ∧ Spl P N Be ops (fun x e' w0' H' => x = .normal ∧ w0' = w0 ∧ (j < m → HKeep w0 H1 H') ∧ wlkT P N Be ops m Q H1 s e' w0' H') [o] e w0 H
def effT (P : Program) (N Be : Nat) (ops : Array Oper) (m : Nat) (Q : Post) (H1 : Heap) (i : Nat) (r : Pt) (w0 : World) : Post := fun x e' w0' H' => x = .normal ∧ w0' = w0 ∧ (i < m → HKeep w0 H1 H') ∧ wlkT P N Be ops m Q H1 r e' w0' H'
theorem wlt_nil (h : Q .normal e w0 H) : wlkT P N Be ops m Q H1 .nil e w0 H := h
theorem wlt_read {r : Pt} {op : Op} {v : Value} (ho : ops[i]? = some ⟨some d, op, ty, pos, after, none⟩) (hN : Nat.blt d N = true) (hx : Ex P Be w0 H1 true e op ty v) (k : wlkT P N Be ops m Q H1 r ((d, true, v) :: e) w0 H) :
    wlkT P N Be ops m Q H1 (.rd i r) e w0 H := ⟨_, d, true, v, ho, rfl, by simpa [Nat.blt_eq] using hN, Gd.none, hx, k⟩
theorem wlt_read_g {r : Pt} {op : Op} {v : Value} {g : Option (Nat × Bool)} {G : Bool} (ho : ops[i]? = some ⟨some d, op, ty, pos, after, g⟩) (hN : Nat.blt d N = true) (hg : Gd ops e g G) (hx : Ex P Be w0 H1 G e op ty v) (k : wlkT P N Be ops m Q H1 r ((d, G, v) :: e) w0 H) :
    wlkT P N Be ops m Q H1 (.rd i r) e w0 H := ⟨_, d, G, v, ho, rfl, by simpa [Nat.blt_eq] using hN, hg, hx, k⟩
theorem wlt_eff {r : Pt} {dst : Option Tmp} {op : Op} {g : Option (Nat × Bool)} (ho : ops[i]? = some ⟨dst, op, ty, pos, after, g⟩) (h : Spl P N Be ops (effT P N Be ops m Q H1 i r w0) [⟨dst, op, ty, pos, after, g⟩] e w0 H) : wlkT P N Be ops m Q H1 (.ef i r) e w0 H := ⟨_, ho, h⟩
theorem wlt_fork {j : Nat} {r s : Pt} {dst dst' : Option Tmp} {op op' : Op} {g g' : Option (Nat × Bool)} {ty' : TypeId} {pos' : String} {after' : Array Edge} (ho : ops[i]? = some ⟨dst, op, ty, pos, after, g⟩) (ho' : ops[j]? = some ⟨dst', op', ty', pos', after', g'⟩)
    (h : Spl P N Be ops (effT P N Be ops m Q H1 i r w0) [⟨dst, op, ty, pos, after, g⟩] e w0 H) (h' : Spl P N Be ops (effT P N Be ops m Q H1 j s w0) [⟨dst', op', ty', pos', after', g'⟩] e w0 H) : wlkT P N Be ops m Q H1 (.fk i j r s) e w0 H := ⟨⟨_, ho, h⟩, _, ho', h'⟩
theorem efft {r : Pt} (h : i < m → HKeep w0 H1 H) (k : wlkT P N Be ops m Q H1 r e w0 H) : effT P N Be ops m Q H1 i r w0 .normal e w0 H := ⟨rfl, rfl, h, k⟩
theorem effect_sound {a : Act} {w : World} {o : Oper} {j : Nat} {R : Post} {K : Act → World → Prop} (ho : ops[j]? = some o) (hk : Spl P N Be ops R [o] e w0 H) (hR : ∀ x e w H, R x e w H → x = .normal) (hf : Fr N e a) (hh : Hp Be w0 H w) (fin : ∀ a' w', lift N Be R .normal a' w' → K a' w') : opI P ops j K a w := by
  have h1 := hk a w hf hh
  unfold opI
  simp only [ho]
  simp only [wpList] at h1
  split at h1
  · rename_i hw
    simp only [hw, if_true]
    rcases h1 with h1 | ⟨_, h1⟩
    · unfold Oper.wp at *
      generalize (execOp a.eval o).run P w = res at *
      cases res with
      | ok n w' =>
        cases n <;> simp only [Oper.upon] at h1 ⊢
        case enter f args =>
          refine h1.mono fun en w'' he => ?_
          cases en with
          | returned u => exact fin _ _ he
          | panicked c => obtain ⟨_, _, _, _, _, hx⟩ := he; cases hR _ _ _ _ hx
          | outgrown => obtain ⟨_, _, _, _, _, _, _, hx⟩ := he; cases hR _ _ _ _ hx
        case row => exact h1.mono fun _ _ he => fin _ _ he
        all_goals first | exact fin _ _ h1 | exact h1
      | halt x w' =>
        cases x <;> simp only [Oper.upon] at h1
        obtain ⟨_, _, _, _, _, hx⟩ := h1
        cases hR _ _ _ _ hx
    · obtain ⟨_, _, _, _, _, _, _, hx⟩ := h1
      cases hR _ _ _ _ hx
  · rename_i hw
    simp only [hw]
    exact fin _ _ h1
theorem wlkT_sound (hm' : tailB .any ops m = true) (hs : Region.noSelect ops = true) : ∀ (l : Pt) (listed : Array Bool) (bar : Bool) (a : Act) (w : World) (e : Env) (H : Heap), canonT .any ops m listed bar l = true →
    Cl .any ops listed → Fr N e a → Hp Be w0 H w → (bar = false → Hp Be w0 H1 w) → wlkT P N Be ops m Q H1 l e w0 H → wpI P .any ops m (Hp Be w0 H1) (fun a' w' => lift N Be Q .normal a' w') l.len listed a w := by
  intro l
  induction l with
  | nil =>
    intro listed bar a w e H hB _ hf hh _ h
    exact ⟨by simpa [canonT] using hB, e, w0, H, hf, hh, h⟩
  | rd i r ih =>
    intro listed bar a w e H hB hcl hf hh hC h
    obtain ⟨o, d, G, v, ho, hd, hdN, hg, hx, hk⟩ := h
    simp only [canonT, Bool.and_eq_true, Bool.not_eq_true', decide_eq_true_eq, List.contains_eq_mem] at hB
    obtain ⟨⟨⟨⟨hbar, him⟩, hr⟩, hfree⟩, hB'⟩ := hB
    have hgd := hg N a o hf rfl
    refine wpI_first (v := if G then v else undef) ho him hm' (Region.noSelect_spec hs) r.len listed a w (Region.free_spec ho hfree) hcl hr ?_ (hC hbar) (ih _ bar _ w _ H hB' (hcl.set hr) ?_ hh hC hk)
    · cases hG : G with
      | true => exact .inl ⟨by rw [hgd, hG], fun w' hw' => hx N a w' o rfl rfl hf hw' hG⟩
      | false => exact .inr ⟨by rw [hgd, hG], rfl⟩
    · rw [hd]
      cases hG : G with
      | true => exact hf.puttrue hdN
      | false => exact hf.put hdN
  | ef i r ih =>
    intro listed bar a w e H hB hcl hf hh hC h
    obtain ⟨o, ho, hk⟩ := h
    simp only [canonT, Bool.and_eq_true, beq_iff_eq] at hB
    obtain ⟨hr, hB'⟩ := hB
    refine ⟨fun h0 => (by rw [hr] at h0; cases h0), fun j hj => ?_⟩
    rw [hr] at hj
    simp only [List.mem_singleton] at hj
    subst hj
    have hcl' := hcl.set (show j ∈ Region.ready .any ops listed by rw [hr]; exact List.mem_singleton.2 rfl)
    refine effect_sound ho hk (fun x e w H h => h.1) hf hh ?_
    rintro a' w' ⟨e', w0', H', hf', hh', _, rfl, hkeep, hk'⟩
    refine ⟨fun hjm => hh'.sub (hkeep hjm), ih _ _ a' w' e' H' hB' hcl' hf' hh' (fun hb => ?_) hk'⟩
    simp only [Bool.or_eq_false_iff, decide_eq_false_iff_not] at hb
    exact hh'.sub (hkeep (by omega))
  | fk i j r s ih1 ih2 =>
    intro listed bar a w e H hB hcl hf hh hC h
    obtain ⟨⟨o, ho, hk⟩, o2, ho2, hk2⟩ := h
    simp only [canonT, Bool.and_eq_true, beq_iff_eq] at hB
    obtain ⟨hr, hlen, hB1, hB2⟩ := hB
    have hlen' : r.len = s.len := Nat.eq_of_beq_eq_true hlen
    refine ⟨fun h0 => (by rw [hr] at h0; cases h0), fun q hq => ?_⟩
    have hcl' := hcl.set hq
    rw [hr] at hq
    simp only [List.mem_cons, List.not_mem_nil, or_false] at hq
    rcases hq with rfl | rfl
    · refine effect_sound ho hk (fun x e w H h => h.1) hf hh ?_
      rintro a' w' ⟨e', w0', H', hf', hh', _, rfl, hkeep, hk'⟩
      refine ⟨fun hjm => hh'.sub (hkeep hjm), ih1 _ _ a' w' e' H' hB1 hcl' hf' hh' (fun hb => ?_) hk'⟩
      simp only [Bool.or_eq_false_iff, decide_eq_false_iff_not] at hb
      exact hh'.sub (hkeep (by omega))
    · refine effect_sound ho2 hk2 (fun x e w H h => h.1) hf hh ?_
      rintro a' w' ⟨e', w0', H', hf', hh', _, rfl, hkeep, hk'⟩
      refine ⟨fun hjm => hh'.sub (hkeep hjm), ?_⟩
      show wpI P .any ops m _ _ r.len _ _ _
      rw [hlen']
      refine ih2 _ _ a' w' e' H' hB2 hcl' hf' hh' (fun hb => ?_) hk'
      simp only [Bool.or_eq_false_iff, decide_eq_false_iff_not] at hb
      exact hh'.sub (hkeep (by omega))
theorem sp_drawnT {id : Nat} {l : List Oper} (p : Pt) (m : Nat) (H1 : Heap) (hm : P.follows .mixedOrders = true) (hB : drawnT l.toArray m p = true) (hk : HKeep w0 H1 H) (h : wlkT P N Be l.toArray m Q H1 p e w0 H) :
    Spc P N Be (.region id l.toArray true) Q e w0 H := by
  intro a w hf hh
  simp only [drawnT, Bool.and_eq_true, decide_eq_true_eq] at hB
  obtain ⟨⟨⟨h1, h2⟩, h3⟩, h4⟩ := hB
  refine wp_region_any hm ?_
  have := wlkT_sound h2 h1 p _ false a _ e H h4 (Cl.start rfl) hf hh.drew (fun _ => (hh.drew).sub hk) h
  rw [h3] at this
  exact wpAny_of_wpI (fun _ _ hq => hq) _ _ _ _ this
/-- A cut between two statements: what the second one may know. -/
theorem spc_cut {c1 c2 : Code} {X : Type} (E : X → Env) (HH : X → Heap) (I : X → Prop) (h1 : Spc P N Be c1 (thenQ (fun e' w' H' => ∃ x, I x ∧ ESub (E x) e' ∧ w0 = w' ∧ HKeep w' (HH x) H') Q) e w0 H)
    (h2 : ∀ x, I x → Spc P N Be c2 Q (E x) w0 (HH x)) : Spc P N Be (.seq c1 c2) Q e w0 H := by
  refine sp_seq ?_
  intro a w hf hh
  refine wp_mono (h1 a w hf hh) ?_
  rintro x a w ⟨e', w0', H', q1, q2, q3⟩
  cases x with
  | normal =>
    obtain ⟨y, hI, hs, rfl, hk⟩ := q3
    exact ⟨e', _, H', q1, q2, (h2 y hI).weaken hs hk⟩
  | ret => exact ⟨e', w0', H', q1, q2, q3⟩
  | exit _ => exact ⟨e', w0', H', q1, q2, q3⟩
  | goto _ => exact ⟨e', w0', H', q1, q2, q3⟩
  | panic _ => exact ⟨e', w0', H', q1, q2, q3⟩
  | outgrown => exact ⟨e', w0', H', q1, q2, q3⟩
end walk
end Go.Sy
/-
  The layer 'Sy': a row that grows, nil or an own block: appended to by one rule, read as a slice.
-/
namespace Go.Sy
open Go.RowKit
set_option linter.unusedVariables false
set_option linter.unusedSimpArgs false
theorem Split.nilA {H : Heap} : Split H [] H := by unfold Split; simp
def RowS.fresh (r : RowS) (b : Nat) : Prop := ∀ g, r.g = some g → b ≤ g
theorem RowS.fresh_start {b : Nat} : RowS.start.fresh b := fun g h => by cases h
theorem RowS.ok_start {size : Nat} : RowS.start.ok size 0 [] := ⟨rfl, rfl, rfl⟩
theorem RowS.ok_some {g cap size n : Nat} {xs tail : List Value} (h1 : n ≤ cap) (h2 : (xs ++ tail).length = cap * size) (h3 : xs.length = n * size) : RowS.ok ⟨some g, cap, tail⟩ size n xs := ⟨h1, h2, h3⟩
theorem RowS.drop {r : RowS} {xs : List Value} {T : TypeId} {w : World} (h : r.fresh w.heap.size) : ∀ p ∈ r.hp xs T, w.heap.size ≤ p.1 := by
  rcases r with ⟨_ | g, cap, tail⟩
  · intro p hp; cases hp
  · intro p hp
    simp only [RowS.hp, List.mem_singleton] at hp
    subst hp
    exact h g rfl
theorem Spc.permP {P : Program} {N Be : Nat} {Q : Post} {e : Env} {w0 : World} {H H' : Heap} {c : Code} (hp : H.Perm H') (h : Spc P N Be c Q e w0 H') : Spc P N Be c Q e w0 H :=
  fun a w hf hh => h a w hf (hh.perm hp)
section
variable {P : Program} {N Be : Nat} {Q : Post} {e : Env} {w0 : World} {H : Heap} {ops : Array Oper} {rest : List Oper} {ty : TypeId} {pos : String} {after : Array Edge} {d : Nat}
theorem spl_append_row {t tx el size bytes : Nat} {z : Value} {x y : Operand} {r : RowS} {n m : Nat} {yv : Value} {xs news : List Value} {Hr : Heap} [ht : TSlice P t el] [hz : TZero P el z] [hs : TSize P el size] [hby : TBytes P el bytes]
    (hx : Ev true e x (r.val n)) (hy : Ev true e y yv) (hsp : Split H (r.hp xs el) Hr) (hok : r.ok size n xs) (hfr : r.fresh w0.heap.size) (hm : 0 < m)
    (hn : ∀ w, Hp Be w0 H w → SrcAt P size tx yv m news w) (hnl : news.length = m * size) (hb : (n + m) * bytes ≤ 140737488355328) (hpos : Nat.blt 0 bytes = true) (hp2 : Nat.blt 0 size = true) (hzs : Nat.beq z.cells.size size = true) (hN : Nat.blt d N = true)
    (k : ∀ r' : RowS, r'.ok size (n + m) (xs ++ news) → r'.fresh w0.heap.size → Spl P N Be ops Q rest ((d, true, r'.val (n + m)) :: e) w0 (r'.hp (xs ++ news) el ++ Hr)) :
    Spl P N Be ops Q (⟨some d, .call ⟨.builtin .append, #[x, y], #[t, tx]⟩, ty, pos, after, none⟩ :: rest) e w0 H := by
  refine Spl.perm hsp ?_
  have hn' : ∀ w, Hp Be w0 (r.hp xs el ++ Hr) w → SrcAt P size tx yv m news w := fun w hh => hn w (hh.perm (List.Perm.symm hsp))
  rcases r with ⟨_ | g, cap, tail⟩
  · obtain ⟨h1, h2, h3⟩ := hok
    have h2' : cap = 0 := h2
    subst h1 h2' h3
    have hz0 : (0 : Nat) * size = 0 := Nat.zero_mul _
    refine spl_append_grow (olds := []) (news := news) (m := m) hx hy (fun w' hh => CellsAt.nil) (by rw [hz0]; rfl) hn' (by omega) hb hpos hp2 hzs hN (fun g' cap' tail' h4 h5 h6 => ?_)
    exact k ⟨some g', cap', tail'⟩ (RowS.ok_some h5 h6 (by simpa using hnl)) (fun g h => by cases h; exact h4)
  · obtain ⟨h1, h2, h3⟩ := hok
    refine spl_append_own (xs := xs) (tail := tail) (news := news) (m := m) hx hy (Rem.here (o := .cells (xs ++ tail).toArray el (0, 0))) (hfr g rfl) h3 h2 h1 hn' hnl hb hpos hp2 hzs hN (fun g' cap' tail' h4 h5 h6 => ?_)
    exact k ⟨some g', cap', tail'⟩ (RowS.ok_some h5 h6 (by rw [List.length_append, h3, hnl, Nat.add_mul])) (fun g h => by cases h; exact h4)
end
/-- What stands in a row, read as a slice. -/
theorem RdS.ofRowS {α : Type} {w0 w : World} {Be sz : Nat} {C : α → Array Value} {n : Nat} {xs : List α} {r : RowS} {T : TypeId} {H Hr : Heap} (hh : Hp Be w0 H w) (hsp : Split H (r.hp (xs.flatMap fun x => (C x).toList) T) Hr) (hl : xs.length = n) (hn : n ≤ 9223372036854775807) (hs : ∀ x ∈ xs, (C x).size = sz)
    (hok : r.ok sz n (xs.flatMap fun x => (C x).toList)) : RdS w w.heap.size sz C (r.g.map fun g => ⟨g, 0, none⟩) n xs := by
  have hh' := hh.perm hsp
  rcases r with ⟨_ | g, cap, tail⟩
  · obtain ⟨h1, -, -⟩ := hok
    subst h1
    obtain rfl := List.eq_nil_of_length_eq_zero hl
    exact RdS.none_
  · exact RdS.ofRow (hh'.own _ (.head _)) (hh'.lt (.head _)) hl hn hs
end Go.Sy
/-
  Panics: drawn regions in which a call may panic, calls that may panic, code behind a deferred call.
-/
namespace Go.Sy
open Go.RowKit
set_option linter.unusedVariables false
set_option linter.unusedSimpArgs false
section core
variable {P : Program} {ops : Array Oper} {md : Region.Mode}
abbrev PX := List PanicEntry → Act → World → Prop
def exP (PQ : PX) : Exit → Act → World → Prop := fun x a w => match x with | .panic ch => PQ ch a w | _ => False
def opP (P : Program) (PQ : PX) (ops : Array Oper) (i : Nat) (K : Act → World → Prop) (a : Act) (w : World) : Prop :=
  match ops[i]? with
  | none => K a w
  | some o => if Region.wanted o (yielded ops a.tmps) then o.wp P a w K (exP PQ) else K (a.put o.dst undef) w
def wpP (P : Program) (PQ : PX) (md : Region.Mode) (ops : Array Oper) (m : Nat) (C : World → Prop) (Q : Act → World → Prop) : Nat → Array Bool → Act → World → Prop
  | 0, listed, a, w => Region.ready md ops listed = [] ∧ Q a w
  | f + 1, listed, a, w => (Region.ready md ops listed = [] → Q a w) ∧ ∀ i ∈ Region.ready md ops listed, opP P PQ ops i (fun a' w' => (i < m → C w') ∧ wpP P PQ md ops m C Q f (listed.setIfInBounds i true) a' w') a w
theorem Oper.wp_mono3 {o : Oper} {a : Act} {w : World} {K K' : Act → World → Prop} {Q Q' : Exit → Act → World → Prop} (h : ∀ a w, K a w → K' a w) (hq : ∀ x a w, Q x a w → Q' x a w) (hh : o.wp P a w K Q) : o.wp P a w K' Q' := by
  unfold Oper.wp at *
  generalize (execOp a.eval o).run P w = r at *
  cases r with
  | ok n w' =>
    cases n <;> simp only [Oper.upon] at hh ⊢
    case enter f args =>
      refine hh.mono fun e w'' he => ?_
      cases e with
      | returned v => exact h _ _ he
      | panicked c => exact hq _ _ _ he
      | outgrown => obtain ⟨a0, w0, hf⟩ := he; exact ⟨a0, w0, hq _ _ _ hf⟩
    case row => exact hh.mono fun _ _ he => h _ _ he
    all_goals first | exact h _ _ hh | exact hh
  | halt x w' =>
    cases x <;> simp only [Oper.upon] at hh ⊢
    exact hq _ _ _ hh
theorem ReadsAs.opP {PQ : PX} {C : World → Prop} {i : Nat} {o : Oper} {v : Value} {a : Act} {w : World} {K : Act → World → Prop} (hi : ops[i]? = some o) (hy : ReadsAs P ops C o v a) (hC : C w) (h : K (a.put o.dst v) w) : opP P PQ ops i K a w := by
  unfold Go.Sy.opP
  simp only [hi]
  rcases hy with ⟨hw, hv⟩ | ⟨hw, rfl⟩
  · simp only [hw, if_true, Oper.wp, hv w hC, Oper.upon_value]; exact h
  · simp only [hw, Bool.false_eq_true, if_false]; exact h
theorem opP_put {PQ : PX} {C : World → Prop} {j : Nat} {oi oj : Oper} {v : Value} (hPQ : ∀ ch a w, PQ ch (a.put oi.dst v) w → PQ ch a w) (hj : ops[j]? = some oj) (hap : oi.apart ops oj = true)
    (hsi : ∀ cs b, oi.op ≠ .select cs b) (hsj : ∀ cs b, oj.op ≠ .select cs b) {K : Act → World → Prop} {a : Act} {w : World}
    (hy : ReadsAs P ops C oi v a) (hd : ∀ (a : Act) (d : Deferred), ReadsAs P ops C oi v a → ReadsAs P ops C oi v { a with defers := d :: a.defers }) (h : opP P PQ ops j K (a.put oi.dst v) w) :
    opP P PQ ops j (fun a' w' => ReadsAs P ops C oi v a' ∧ K (a'.put oi.dst v) w') a w := by
  obtain ⟨h1, h2, h3⟩ := Oper.apart_spec hap
  have keep : ∀ (a : Act), ReadsAs P ops C oi v a → ∀ u, ReadsAs P ops C oi v (a.put oj.dst u) := fun a hy u =>
    hy.of_same (execOp_put oi hsi a oj.dst u h3) (wanted_put oi a oj.dst u h3)
  unfold opP at *
  simp only [hj] at *
  rw [wanted_put oj a oi.dst v h1] at h
  split
  · rename_i hw
    simp only [hw, if_true] at h
    unfold Oper.wp at *
    rw [execOp_put oj hsj a oi.dst v h1] at h
    generalize (execOp a.eval oj).run P w = r at *
    cases r with
    | ok n w' =>
      cases n <;> simp only [Oper.upon] at h ⊢
      case value u => exact ⟨keep a hy u, by rw [← Act.put_comm a v u h2]; exact h⟩
      case skip => exact ⟨keep a hy _, by rw [← Act.put_comm a v undef h2]; exact h⟩
      case defer d => exact ⟨keep _ (hd a d hy) _, by rw [← put_defers _ _ _ _ _ _ h2]; exact h⟩
      case enter f args =>
        refine h.mono fun e w'' he => ?_
        cases e with
        | returned u => exact ⟨keep a hy u, by rw [← Act.put_comm a v u h2]; exact he⟩
        | panicked c => exact hPQ _ _ _ he
        | outgrown => obtain ⟨_, _, hf⟩ := he; exact hf.elim
      case row => exact h.mono fun u _ he => ⟨keep a hy u, by rw [← Act.put_comm a v u h2]; exact he⟩
      all_goals exact h
    | halt x w' =>
      cases x <;> simp only [Oper.upon] at h ⊢
      exact hPQ _ _ _ h
  · rename_i hw
    simp only [hw] at h
    exact ⟨keep a hy _, by rw [← Act.put_comm a v undef h2]; exact h⟩
theorem wpP_first {PQ : PX} {C : World → Prop} {Q : Act → World → Prop} {m i : Nat} {oi : Oper} {v : Value} (hPQ : ∀ ch a w, PQ ch (a.put oi.dst v) w → PQ ch a w) (hi : ops[i]? = some oi) (him : i < m) (htail : tailB md ops m = true) (hsel : ∀ (j : Nat) (o : Oper) cs b, ops[j]? = some o → o.op ≠ .select cs b) :
    ∀ (fuel : Nat) (listed : Array Bool) (a : Act) (w : World),
      (∀ j oj, ops[j]? = some oj → j ≠ i → listed.getD j true = false → (∀ e ∈ oj.after, Region.binds md e = true → e.on ≠ i) → oi.apart ops oj = true) →
      Cl md ops listed → i ∈ Region.ready md ops listed → ReadsAs P ops C oi v a → C w →
      wpP P PQ md ops m C Q fuel (listed.setIfInBounds i true) (a.put oi.dst v) w → wpP P PQ md ops m C Q (fuel + 1) listed a w := by
  intro fuel
  induction fuel with
  | zero =>
    intro listed a w _ _ hr hy hC H
    refine ⟨fun h => (by rw [h] at hr; cases hr), fun j hj => ?_⟩
    by_cases hji : j = i
    · subst hji; exact hy.opP hi hC ⟨fun _ => hC, H⟩
    · have := ready_mono hj hji
      rw [H.1] at this
      cases this
  | succ fuel ih =>
    intro listed a w hfree hcl hr hy hC H
    refine ⟨fun h => (by rw [h] at hr; cases hr), fun j hj => ?_⟩
    by_cases hji : j = i
    · subst hji; exact hy.opP hi hC ⟨fun _ => hC, H⟩
    · have h1 := H.2 j (ready_mono hj hji)
      obtain ⟨hjun, oj, hoj, hall⟩ := mem_ready.1 hj
      have hnot : ∀ e ∈ oj.after, Region.binds md e = true → e.on ≠ i := fun e he hb heq => by
        have h1 := hall e he hb
        have h0 := (mem_ready.1 hr).1
        rw [heq] at h1
        rcases Nat.lt_or_ge i listed.size with h' | h'
        · simp [h'] at h0 h1; rw [h0] at h1; cases h1
        · simp [Array.getElem?_eq_none h'] at h1
      have hjm : j < m := by
        rcases Nat.lt_or_ge j m with h' | h'
        · exact h'
        · exact (tailB_spec htail hoj (by omega) him hcl hj (mem_ready.1 hr).1 hji).elim
      have h2 := opP_put hPQ hoj (hfree j oj hoj hji hjun hnot) (fun cs b => hsel i oi cs b hi) (fun cs b => hsel j oj cs b hoj) hy (fun a d => reads_defers a d) h1
      have hfree' : ∀ k ok, ops[k]? = some ok → k ≠ i → (listed.setIfInBounds j true).getD k true = false →
          (∀ e ∈ ok.after, Region.binds md e = true → e.on ≠ i) → oi.apart ops ok = true := fun k ok hk hki hun hno => by
        refine hfree k ok hk hki ?_ hno
        by_cases hjk : j = k
        · subst hjk; exact hjun
        · rw [getD_set_ne true hjk] at hun; exact hun
      have hmono : ∀ {K K' : Act → World → Prop} {a : Act} {w : World}, (∀ a w, K a w → K' a w) → opP P PQ ops j K a w → opP P PQ ops j K' a w := by
        intro K K' a w hk ho
        unfold opP at *
        simp only [hoj] at *
        split
        · rename_i hw; simp only [hw, if_true] at ho; exact Oper.wp_mono3 hk (fun _ _ _ h => h) ho
        · rename_i hw; simp only [hw] at ho; exact hk _ _ ho
      refine hmono (fun a' w' h3 => ⟨fun _ => h3.2.1 hjm, ih (listed.setIfInBounds j true) a' w' hfree' (hcl.set hj) (ready_mono hr (Ne.symm hji)) h3.1 (h3.2.1 hjm) ?_⟩) h2
      rw [Array.setIfInBounds_comm _ _ hji]
      exact h3.2.2
theorem wpAny_of_wpP {PQ : PX} {C : World → Prop} {Q : Act → World → Prop} {m : Nat} {Q' : Exit → Act → World → Prop} (hQ : ∀ a w, Q a w → Q' .normal a w) (hP : ∀ ch a w, PQ ch a w → Q' (.panic ch) a w) : ∀ (fuel : Nat) (listed : Array Bool) (a : Act) (w : World),
    wpP P PQ md ops m C Q fuel listed a w → wpAny P md ops Q' fuel listed a w
  | 0, _, _, _, h => ⟨h.1, hQ _ _ h.2⟩
  | fuel + 1, listed, a, w, h => ⟨fun h0 => hQ _ _ (h.1 h0), fun i hi => by
      have h1 := h.2 i hi
      unfold opP at h1
      unfold wpOp
      split
      · rename_i ho; simp only [ho] at h1; exact wpAny_of_wpP hQ hP fuel _ _ _ h1.2
      · rename_i o ho
        simp only [ho] at h1
        split
        · rename_i hw; simp only [hw, if_true] at h1; exact .inl (Oper.wp_mono3 (fun a' w' h2 => wpAny_of_wpP hQ hP fuel _ _ _ h2.2) (fun x a w hx => by cases x <;> first | exact hP _ _ _ hx | exact hx.elim) h1)
        · rename_i hw; simp only [hw] at h1; exact wpAny_of_wpP hQ hP fuel _ _ _ h1.2⟩
end core
def wdp (a : Act) (D : List Deferred) : Act := { a with defers := a.defers ++ D }
theorem wdp_put (a : Act) (D : List Deferred) (d : Option Tmp) (v : Value) : (wdp a D).put d v = wdp (a.put d v) D := by cases d <;> rfl
theorem wdp_nil (a : Act) : wdp a [] = a := by cases a; simp [wdp]
theorem wdp_back (a : Act) : wdp { a with defers := [] } a.defers = a := by cases a; simp [wdp]
def noDef (l : List Oper) : Bool := l.all fun o => match o.op with | .defer _ => false | _ => true
section behind
variable {P : Program} {D : List Deferred}
theorem oper_d {o : Oper} {K K' : Act → World → Prop} {Q Q' : Exit → Act → World → Prop} (hK : ∀ a w, K a w → K' (wdp a D) w) (hQ : ∀ x a w, Q x a w → Q' x (wdp a D) w) {a : Act} {w : World} (h : o.wp P a w K Q) : o.wp P (wdp a D) w K' Q' := by
  have he : (wdp a D).eval = a.eval := rfl
  unfold Oper.wp at h ⊢
  rw [he]
  generalize (execOp a.eval o).run P w = res at h ⊢
  cases res with
  | ok x w' =>
    cases x <;> simp only [Oper.upon] at h <;> simp only [Oper.upon]
    case value v => rw [wdp_put]; exact hK _ _ h
    case skip => rw [wdp_put]; exact hK _ _ h
    case defer d =>
      have : ({ wdp a D with defers := d :: (wdp a D).defers } : Act) = wdp { a with defers := d :: a.defers } D := rfl
      rw [this, wdp_put]; exact hK _ _ h
    case enter f args =>
      refine h.mono fun en w'' he => ?_
      cases en with
      | returned v =>
        have h3 := hK _ _ he
        rw [← wdp_put] at h3
        exact h3
      | panicked c => exact hQ _ _ _ he
      | outgrown => obtain ⟨a0, w0, h0⟩ := he; exact ⟨_, _, hQ _ _ _ h0⟩
    case row row args => exact h.mono fun v w'' he => by rw [wdp_put]; exact hK _ _ he
    all_goals exact h
  | halt x w' =>
    cases x <;> simp only [Oper.upon] at h <;> simp only [Oper.upon]
    exact hQ _ _ _ h
theorem list_d {ops : Array Oper} {Q Q' : Exit → Act → World → Prop} (hQ : ∀ x a w, Q x a w → Q' x (wdp a D) w) : ∀ (l : List Oper) (a : Act) (w : World), wpList P ops Q l a w → (∀ a w, ¬ Q .outgrown a w) → wpList P ops Q' l (wdp a D) w
  | [], a, w, h, _ => hQ _ _ _ h
  | o :: l, a, w, h, hno => by
    simp only [wpList] at h
    simp only [wpList]
    have hy : yielded ops (wdp a D).tmps = yielded ops a.tmps := rfl
    rw [hy]
    split
    · rename_i hw
      rw [if_pos hw] at h
      rcases h with h | ⟨_, a0, w0, h⟩
      · exact .inl (oper_d (fun a w h => list_d hQ l a w h hno) hQ h)
      · exact (hno _ _ h).elim
    · rename_i hw
      rw [if_neg hw] at h
      rw [wdp_put]
      exact list_d hQ l _ _ h hno
theorem any_d {ops : Array Oper} {PQ : PX} {C : World → Prop} {Q : Act → World → Prop} {m : Nat} {Q' : Exit → Act → World → Prop} (hQ : ∀ a w, Q a w → Q' .normal (wdp a D) w) (hP : ∀ ch a w, PQ ch a w → Q' (.panic ch) (wdp a D) w) : ∀ (fuel : Nat) (listed : Array Bool) (a : Act) (w : World),
    wpP P PQ .any ops m C Q fuel listed a w → wpAny P .any ops Q' fuel listed (wdp a D) w
  | 0, _, _, _, h => ⟨h.1, hQ _ _ h.2⟩
  | fuel + 1, listed, a, w, h => ⟨fun h0 => hQ _ _ (h.1 h0), fun i hi => by
      have h1 := h.2 i hi
      unfold opP at h1
      unfold wpOp
      have hy : yielded ops (wdp a D).tmps = yielded ops a.tmps := rfl
      split
      · rename_i ho; simp only [ho] at h1; exact any_d hQ hP fuel _ _ _ h1.2
      · rename_i o ho
        simp only [ho] at h1
        rw [hy]
        split
        · rename_i hw; simp only [hw, if_true] at h1; exact .inl (oper_d (fun a' w' h2 => any_d hQ hP fuel _ _ _ h2.2) (fun x a w hx => by cases x <;> first | exact hP _ _ _ hx | exact hx.elim) h1)
        · rename_i hw; simp only [hw] at h1; rw [wdp_put]; exact any_d hQ hP fuel _ _ _ h1.2⟩
end behind
section walk
variable {P : Program} {N Be : Nat} {Q : Post} {e E0 : Env} {w0 : World} {H H1 : Heap} {ops : Array Oper} {ty : TypeId} {pos : String} {after : Array Edge} {d i m : Nat}
/-- What is asked behind an operation that comes up alone, and may panic; of the slots at a panic only E0 are known. -/
def effP (E0 : Env) (K : Env → World → Heap → Prop) (m : Nat) (Q : Post) (H1 : Heap) (i : Nat) (w0 : World) : Post := fun x e' w0' H' => match x with
  | .panic ch => ESub E0 e' ∧ Q (.panic ch) E0 w0' H'
  | .normal => w0' = w0 ∧ (i < m → HKeep w0 H1 H') ∧ K e' w0' H'
  | _ => False
def wlkP (P : Program) (N Be : Nat) (ops : Array Oper) (m : Nat) (E0 : Env) (Q : Post) (H1 : Heap) : Pt → Env → World → Heap → Prop
  | .nil, e, w0, H => Q .normal e w0 H
  | .rd i r, e, w0, H => ∃ (o : Oper) (d : Nat) (G : Bool) (v : Value), ops[i]? = some o ∧ o.dst = some d ∧ d < N ∧ Gd ops e o.guard G ∧ Ex P Be w0 H1 G e o.op o.type v ∧ wlkP P N Be ops m E0 Q H1 r ((d, G, v) :: e) w0 H
  | .ef i r, e, w0, H => ∃ o : Oper, ops[i]? = some o ∧ Spl P N Be ops (effP E0 (wlkP P N Be ops m E0 Q H1 r) m Q H1 i w0) [o] e w0 H
  | .fk i j r s, e, w0, H => (∃ o : Oper, ops[i]? = some o ∧ Spl P N Be ops (effP E0 (wlkP P N Be ops m E0 Q H1 r) m Q H1 i w0) [o] e w0 H) ∧
      ∃ o : Oper, ops[j]? = some o ∧ Spl P N Be ops (effP E0 (wlkP P N Be ops m E0 Q H1 s) m Q H1 j w0) [o] e w0 H
theorem wlp_nil (h : Q .normal e w0 H) : wlkP P N Be ops m E0 Q H1 .nil e w0 H := h
theorem wlp_read {r : Pt} {op : Op} {v : Value} (ho : ops[i]? = some ⟨some d, op, ty, pos, after, none⟩) (hN : Nat.blt d N = true) (hx : Ex P Be w0 H1 true e op ty v) (k : wlkP P N Be ops m E0 Q H1 r ((d, true, v) :: e) w0 H) :
    wlkP P N Be ops m E0 Q H1 (.rd i r) e w0 H := ⟨_, d, true, v, ho, rfl, by simpa [Nat.blt_eq] using hN, Gd.none, hx, k⟩
theorem wlp_read_g {r : Pt} {op : Op} {v : Value} {g : Option (Nat × Bool)} {G : Bool} (ho : ops[i]? = some ⟨some d, op, ty, pos, after, g⟩) (hN : Nat.blt d N = true) (hg : Gd ops e g G) (hx : Ex P Be w0 H1 G e op ty v) (k : wlkP P N Be ops m E0 Q H1 r ((d, G, v) :: e) w0 H) :
    wlkP P N Be ops m E0 Q H1 (.rd i r) e w0 H := ⟨_, d, G, v, ho, rfl, by simpa [Nat.blt_eq] using hN, hg, hx, k⟩
theorem wlp_eff {r : Pt} {dst : Option Tmp} {op : Op} {g : Option (Nat × Bool)} (ho : ops[i]? = some ⟨dst, op, ty, pos, after, g⟩) (h : Spl P N Be ops (effP E0 (wlkP P N Be ops m E0 Q H1 r) m Q H1 i w0) [⟨dst, op, ty, pos, after, g⟩] e w0 H) : wlkP P N Be ops m E0 Q H1 (.ef i r) e w0 H := ⟨_, ho, h⟩
theorem wlp_fork {j : Nat} {r s : Pt} {dst dst' : Option Tmp} {op op' : Op} {g g' : Option (Nat × Bool)} {ty' : TypeId} {pos' : String} {after' : Array Edge} (ho : ops[i]? = some ⟨dst, op, ty, pos, after, g⟩) (ho' : ops[j]? = some ⟨dst', op', ty', pos', after', g'⟩)
    (h : Spl P N Be ops (effP E0 (wlkP P N Be ops m E0 Q H1 r) m Q H1 i w0) [⟨dst, op, ty, pos, after, g⟩] e w0 H) (h' : Spl P N Be ops (effP E0 (wlkP P N Be ops m E0 Q H1 s) m Q H1 j w0) [⟨dst', op', ty', pos', after', g'⟩] e w0 H) : wlkP P N Be ops m E0 Q H1 (.fk i j r s) e w0 H := ⟨⟨_, ho, h⟩, _, ho', h'⟩
theorem effp {K : Env → World → Heap → Prop} (h : i < m → HKeep w0 H1 H) (k : K e w0 H) : effP E0 K m Q H1 i w0 .normal e w0 H := ⟨rfl, h, k⟩
theorem effp_p {K : Env → World → Heap → Prop} {w1 : World} {ch : List PanicEntry} (hs : ESub E0 e) (h : Q (.panic ch) E0 w0 H) : effP E0 K m Q H1 i w1 (.panic ch) e w0 H := ⟨hs, h⟩
def PQ0 (N Be : Nat) (E0 : Env) (Q : Post) : PX := fun ch a w => ∃ w0 H, Fr N E0 a ∧ Hp Be w0 H w ∧ Q (.panic ch) E0 w0 H
/-- None of the operations writes a slot of E0. -/
def offO (E0 : Env) : Option Nat → Bool
  | none => true
  | some d => E0.all fun p => !Nat.beq p.1 d
def offB (E0 : Env) (l : List Oper) : Bool := l.all fun o => offO E0 o.dst
theorem look_ne {E : Env} {d k : Nat} {g : Bool} {v : Value} (h : look E k = some (g, v)) (ho : (E.all fun p => !Nat.beq p.1 d) = true) : d ≠ k := by
  induction E with
  | nil => cases h
  | cons p E ih =>
    simp only [List.all_cons, Bool.and_eq_true] at ho
    simp only [look] at h
    cases hb : Nat.beq p.1 k with
    | true =>
      have h1 := Nat.eq_of_beq_eq_true hb
      intro he
      have h2 := ho.1
      rw [he, ← h1] at h2
      simp at h2
    | false => rw [hb] at h; exact ih h ho.2
theorem Fr.unput {a : Act} {d : Option Nat} {v : Value} (h : Fr N E0 (a.put d v)) (ho : offO E0 d = true) : Fr N E0 a := by
  cases d with
  | none => exact h
  | some d =>
    refine ⟨h.defers, by have := h.size; simpa [Act.put] using this, fun k g u hl => ?_⟩
    have := h.get k g u hl
    rw [← this]
    have hne := look_ne hl ho
    simp only [Act.put, Array.getD_eq_getD_getElem?, Array.getElem?_setIfInBounds]
    rw [if_neg hne]
theorem PQ0.unput {l : List Oper} (ho : offB E0 l = true) {i : Nat} {o : Oper} (hi : l.toArray[i]? = some o) {v : Value} (ch : List PanicEntry) (a : Act) (w : World) (h : PQ0 N Be E0 Q ch (a.put o.dst v) w) : PQ0 N Be E0 Q ch a w := by
  obtain ⟨w0, H, h1, h2, h3⟩ := h
  refine ⟨w0, H, h1.unput ?_, h2, h3⟩
  have := List.all_eq_true.1 ho o (by simpa using Array.mem_of_getElem? hi)
  exact this
theorem effect_soundP {K : Env → World → Heap → Prop} {a : Act} {w : World} {o : Oper} {j : Nat} {K' : Act → World → Prop} (ho : ops[j]? = some o) (hk : Spl P N Be ops (effP E0 K m Q H1 j w0) [o] e w0 H) (hf : Fr N e a) (hh : Hp Be w0 H w) (fin : ∀ a' w', lift N Be (effP E0 K m Q H1 j w0) .normal a' w' → K' a' w') : opP P (PQ0 N Be E0 Q) ops j K' a w := by
  have h1 := hk a w hf hh
  have hx : ∀ x a w, lift N Be (effP E0 K m Q H1 j w0) x a w → x ≠ .normal → exP (PQ0 N Be E0 Q) x a w := by
    rintro x a w ⟨e', w0', H', q1, q2, q3⟩ hne
    cases x <;> first | exact absurd rfl hne | exact q3.elim | exact ⟨w0', H', q1.sub q3.1, q2, q3.2⟩
  unfold opP
  simp only [ho]
  simp only [wpList] at h1
  split at h1
  · rename_i hw
    simp only [hw, if_true]
    rcases h1 with h1 | ⟨_, h1⟩
    · unfold Oper.wp at *
      generalize (execOp a.eval o).run P w = res at *
      cases res with
      | ok n w' =>
        cases n <;> simp only [Oper.upon] at h1 ⊢
        case enter f args =>
          refine h1.mono fun en w'' he => ?_
          cases en with
          | returned u => exact fin _ _ he
          | panicked c => exact hx _ _ _ he (by simp)
          | outgrown => obtain ⟨a1, w1, h2⟩ := he; exact ⟨a1, w1, hx _ _ _ h2 (by simp)⟩
        case row => exact h1.mono fun _ _ he => fin _ _ he
        all_goals first | exact fin _ _ h1 | exact h1
      | halt x w' =>
        cases x <;> simp only [Oper.upon] at h1 ⊢
        exact hx _ _ _ h1 (by simp)
    · obtain ⟨_, _, _, _, _, _, _, h3⟩ := h1
      exact h3.elim
  · rename_i hw
    simp only [hw]
    exact fin _ _ h1
theorem wlkP_sound {l0 : List Oper} (hops : ops = l0.toArray) (ho0 : offB E0 l0 = true) (hm' : tailB .any ops m = true) (hs : Region.noSelect ops = true) : ∀ (l : Pt) (listed : Array Bool) (bar : Bool) (a : Act) (w : World) (e : Env) (H : Heap), canonT .any ops m listed bar l = true →
    Cl .any ops listed → Fr N e a → Hp Be w0 H w → (bar = false → Hp Be w0 H1 w) → wlkP P N Be ops m E0 Q H1 l e w0 H → wpP P (PQ0 N Be E0 Q) .any ops m (Hp Be w0 H1) (fun a' w' => lift N Be Q .normal a' w') l.len listed a w := by
  subst hops
  intro l
  induction l with
  | nil =>
    intro listed bar a w e H hB _ hf hh _ h
    exact ⟨by simpa [canonT] using hB, e, w0, H, hf, hh, h⟩
  | rd i r ih =>
    intro listed bar a w e H hB hcl hf hh hC h
    obtain ⟨o, d, G, v, ho, hd, hdN, hg, hx, hk⟩ := h
    simp only [canonT, Bool.and_eq_true, Bool.not_eq_true', decide_eq_true_eq, List.contains_eq_mem] at hB
    obtain ⟨⟨⟨⟨hbar, him⟩, hr⟩, hfree⟩, hB'⟩ := hB
    have hgd := hg N a o hf rfl
    refine wpP_first (v := if G then v else undef) (fun ch a w => PQ0.unput ho0 ho ch a w) ho him hm' (Region.noSelect_spec hs) r.len listed a w (Region.free_spec ho hfree) hcl hr ?_ (hC hbar) (ih _ bar _ w _ H hB' (hcl.set hr) ?_ hh hC hk)
    · cases hG : G with
      | true => exact .inl ⟨by rw [hgd, hG], fun w' hw' => hx N a w' o rfl rfl hf hw' hG⟩
      | false => exact .inr ⟨by rw [hgd, hG], rfl⟩
    · rw [hd]
      cases hG : G with
      | true => exact hf.puttrue hdN
      | false => exact hf.put hdN
  | ef i r ih =>
    intro listed bar a w e H hB hcl hf hh hC h
    obtain ⟨o, ho, hk⟩ := h
    simp only [canonT, Bool.and_eq_true, beq_iff_eq] at hB
    obtain ⟨hr, hB'⟩ := hB
    refine ⟨fun h0 => (by rw [hr] at h0; cases h0), fun j hj => ?_⟩
    rw [hr] at hj
    simp only [List.mem_singleton] at hj
    subst hj
    have hcl' := hcl.set (show j ∈ Region.ready .any l0.toArray listed by rw [hr]; exact List.mem_singleton.2 rfl)
    refine effect_soundP ho hk hf hh ?_
    rintro a' w' ⟨e', w0', H', hf', hh', rfl, hkeep, hk'⟩
    refine ⟨fun hjm => hh'.sub (hkeep hjm), ih _ _ a' w' e' H' hB' hcl' hf' hh' (fun hb => ?_) hk'⟩
    simp only [Bool.or_eq_false_iff, decide_eq_false_iff_not] at hb
    exact hh'.sub (hkeep (by omega))
  | fk i j r s ih1 ih2 =>
    intro listed bar a w e H hB hcl hf hh hC h
    obtain ⟨⟨o, ho, hk⟩, o2, ho2, hk2⟩ := h
    simp only [canonT, Bool.and_eq_true, beq_iff_eq] at hB
    obtain ⟨hr, hlen, hB1, hB2⟩ := hB
    have hlen' : r.len = s.len := Nat.eq_of_beq_eq_true hlen
    refine ⟨fun h0 => (by rw [hr] at h0; cases h0), fun q hq => ?_⟩
    have hcl' := hcl.set hq
    rw [hr] at hq
    simp only [List.mem_cons, List.not_mem_nil, or_false] at hq
    rcases hq with rfl | rfl
    · refine effect_soundP ho hk hf hh ?_
      rintro a' w' ⟨e', w0', H', hf', hh', rfl, hkeep, hk'⟩
      refine ⟨fun hjm => hh'.sub (hkeep hjm), ih1 _ _ a' w' e' H' hB1 hcl' hf' hh' (fun hb => ?_) hk'⟩
      simp only [Bool.or_eq_false_iff, decide_eq_false_iff_not] at hb
      exact hh'.sub (hkeep (by omega))
    · refine effect_soundP ho2 hk2 hf hh ?_
      rintro a' w' ⟨e', w0', H', hf', hh', rfl, hkeep, hk'⟩
      refine ⟨fun hjm => hh'.sub (hkeep hjm), ?_⟩
      show wpP P _ .any _ m _ _ r.len _ _ _
      rw [hlen']
      refine ih2 _ _ a' w' e' H' hB2 hcl' hf' hh' (fun hb => ?_) hk'
      simp only [Bool.or_eq_false_iff, decide_eq_false_iff_not] at hb
      exact hh'.sub (hkeep (by omega))
theorem sp_drawnP {id : Nat} {l : List Oper} (p : Pt) (m : Nat) (E0 : Env) (H1 : Heap) (hm : P.follows .mixedOrders = true) (hB : drawnT l.toArray m p = true) (hE : offB E0 l = true) (hk : HKeep w0 H1 H) (h : wlkP P N Be l.toArray m E0 Q H1 p e w0 H) :
    Spc P N Be (.region id l.toArray true) Q e w0 H := by
  intro a w hf hh
  simp only [drawnT, Bool.and_eq_true, decide_eq_true_eq] at hB
  obtain ⟨⟨⟨h1, h2⟩, h3⟩, h4⟩ := hB
  refine wp_region_any hm ?_
  have := wlkP_sound rfl hE h2 h1 p _ false a _ e H h4 (Cl.start rfl) hf hh.drew (fun _ => (hh.drew).sub hk) h
  rw [h3] at this
  exact wpAny_of_wpP (fun _ _ hq => hq) (fun ch a w ⟨w0, H, q1, q2, q3⟩ => ⟨E0, w0, H, q1, q2, q3⟩) _ _ _ _ this

/-! ### Functions that may panic -/
theorem then_p {K : Env → World → Heap → Prop} {ch : List PanicEntry} (h : Q (.panic ch) e w0 H) : thenQ K Q (.panic ch) e w0 H := h
theorem block_p {id : Nat} {ch : List PanicEntry} (h : Q (.panic ch) e w0 H) : blockQ id Q (.panic ch) e w0 H := h
def retFQ (P : Program) (fn : Func) (Be : Nat) (R : Ending → World → Prop) : Post := fun x e w0 H =>
  match x with
  | .ret | .normal => ∃ v, Res fn.results P Be e w0 H v ∧ ∀ w', Hp Be w0 H w' → R (.returned v) w'
  | .panic ch => ∀ w', Hp Be w0 H w' → R (.panicked ch) w'
  | _ => False
theorem sp_enterF {f : FuncId} {fn : Func} {c : Code} {vs : List Value} {w : World} {R : Ending → World → Prop} (hf : P.funcs[f]? = some fn) (hb : fn.body = some c) (hN : fn.ntmps = N) (hl : Nat.ble vs.length N = true) (hh : Hp Be w0 H w)
    (h : Spc P N Be c (retFQ P fn Be R) (envOf 0 vs) w0 H) : Calls P f vs.toArray w R := by
  refine calls_of_wp hf hb (wp_mono (h _ w ?_ hh) ?_)
  · have hl' : vs.length ≤ N := Nat.le_of_ble_eq_true hl
    refine ⟨rfl, by simp [hN]; omega, fun k g v hk => ?_⟩
    obtain ⟨rfl, _, h3⟩ := look_envOf vs 0 k g v hk
    simp only [Nat.sub_zero] at h3
    have hk : k < vs.length := (List.getElem?_eq_some_iff.1 h3).1
    simp [Array.getElem?_append, hk, gv]
    have := (List.getElem?_eq_some_iff.1 h3).2
    simpa using this
  · rintro x a w' ⟨e, w0, H, h1, h2, h3⟩
    cases x with
    | normal => obtain ⟨v, hv, hR⟩ := h3; exact ⟨h1.defers, v, hv _ _ _ fn rfl h1 h2, hR w' h2⟩
    | ret => obtain ⟨v, hv, hR⟩ := h3; exact ⟨h1.defers, v, hv _ _ _ fn rfl h1 h2, hR w' h2⟩
    | exit _ => exact h3.elim
    | goto _ => exact h3.elim
    | panic _ => exact ⟨h1.defers, h3 w' h2⟩
    | outgrown => exact h3.elim
/-- It returns, or panics with something of F; then only R is known. -/
def RetF {X : Type} (Be : Nat) (w0 : World) (V : X → Value) (HH : X → Heap) (I : X → Prop) (F : List PanicEntry → Prop) (R : Heap) : Ending → World → Prop := fun en w' =>
  (∃ x, en = .returned (V x) ∧ I x ∧ Hp Be w0 (HH x) w') ∨ ∃ ch, en = .panicked ch ∧ F ch ∧ Hp Be w0 R w'
section
variable {fn : Func} {rs : Array ResultVar} {H' R : Heap} {v : Value} {X : Type} {V : X → Value} {HH : X → Heap} {I : X → Prop} {F : List PanicEntry → Prop}
theorem retF_ok (hr : fn.results = rs) (h : Res rs P Be e w0 H' v) (hv : ∃ x, v = V x ∧ I x ∧ HKeep w0 (HH x) H') : retFQ P fn Be (RetF Be w0 V HH I F R) .ret e w0 H' := by
  subst hr
  obtain ⟨x, rfl, hI, hk⟩ := hv
  exact ⟨_, h, fun w' hh => .inl ⟨x, rfl, hI, hh.sub hk⟩⟩
theorem endF_ok (hr : fn.results = rs) (h : Res rs P Be e w0 H' v) (hv : ∃ x, v = V x ∧ I x ∧ HKeep w0 (HH x) H') : retFQ P fn Be (RetF Be w0 V HH I F R) .normal e w0 H' := by
  subst hr
  obtain ⟨x, rfl, hI, hk⟩ := hv
  exact ⟨_, h, fun w' hh => .inl ⟨x, rfl, hI, hh.sub hk⟩⟩
theorem retF_pan {ch : List PanicEntry} (hF : F ch) (hk : HKeep w0 R H') : retFQ P fn Be (RetF Be w0 V HH I F R) (.panic ch) e w0 H' := fun w' hh => .inr ⟨ch, rfl, hF, hh.sub hk⟩
end
section
variable {rest : List Oper}
theorem spl_callF {f : FuncId} {xs : List Operand} {ts : Array TypeId} {vs : List Value} [TFn P f] {X : Type} {V : X → Value} {AA : X → Heap} {I : X → Prop} {F : List PanicEntry → Prop} {A R : Heap} (hN : Nat.blt d N = true) (hx : Evs true e xs vs) (hs : Split H A R)
    (hc : ∀ w, Hp Be w0 (A ++ R) w → Calls P f vs.toArray w (RetF Be w0 V (fun x => AA x ++ R) I F R))
    (kp : ∀ ch, F ch → Q (.panic ch) e w0 R) (k : ∀ x, I x → Spl P N Be ops Q rest ((d, true, V x) :: e) w0 (AA x ++ R)) : Spl P N Be ops Q (⟨some d, .call ⟨.value (.func f), xs.toArray, ts⟩, ty, pos, after, none⟩ :: rest) e w0 H := by
  intro a w hf hh
  have hd : d < N := by simpa [Nat.blt_eq] using hN
  refine wpList_plain rfl fun K hK => ?_
  unfold Oper.wp
  rw [exec_call (f := f) (first := #[]) (cap := #[]) rfl rfl (hx N a hf rfl), Oper.upon_enter]
  simp only [List.nil_append, List.append_toArray, List.append_nil]
  refine (hc w (hh.perm hs)).mono ?_
  rintro en w' (⟨x, rfl, hI, hw⟩ | ⟨ch, rfl, hF, hw⟩)
  · exact hK _ _ (k x hI _ _ (hf.puttrue hd) hw)
  · exact ⟨e, w0, R, hf, hw, kp ch hF⟩
/-- The text's own panic. -/
theorem spl_panic {x : Operand} {T : TypeId} {u : Value} (hx : Ev true e x (.iface T u)) (k : Q (.panic [{ v := .iface T u, recovered := false }]) e w0 H) : Spl P N Be ops Q (⟨none, .panic x, ty, pos, after, none⟩ :: rest) e w0 H := by
  intro a w hf hh
  refine wpList_plain rfl fun K hK => ?_
  have hr : (execOp a.eval ⟨none, .panic x, ty, pos, after, none⟩).run P w = .halt (.panic (.iface T u)) w := by
    simp only [execOp, hx N a hf rfl]
    rfl
  unfold Oper.wp
  rw [hr, Oper.upon_panic]
  exact ⟨e, w0, H, hf, hh, k⟩
end
end walk
def Holds (R : Heap) (w : World) : Prop := ∀ p ∈ R, w.heap[p.1]? = some p.2
class InSub (H R : Heap) : Prop where
  sub : ∀ p ∈ R, p ∈ H
instance InSub.rfl' {R : Heap} : InSub R R := ⟨fun _ h => h⟩
instance (priority := low) InSub.cons {H R : Heap} {q : Nat × Obj} [h : InSub H R] : InSub (q :: H) R := ⟨fun p hp => .tail _ (h.sub p hp)⟩
instance (priority := low) InSub.app {B H R : Heap} [h : InSub H R] : InSub (B ++ H) R := ⟨fun p hp => List.mem_append.2 (.inr (h.sub p hp))⟩
instance (priority := low) InSub.appL {B H R : Heap} [h : InSub B R] : InSub (B ++ H) R := ⟨fun p hp => List.mem_append.2 (.inl (h.sub p hp))⟩
theorem Hp.holds {Be : Nat} {w0 w : World} {H R : Heap} (hh : Hp Be w0 H w) [h : InSub H R] : Holds R w := fun p hp => hh.own p (h.sub p hp)
theorem Holds.sub {H R : Heap} {w : World} (h : Holds H w) (hs : ∀ p ∈ R, p ∈ H) : Holds R w := fun p hp => h p (hs p hp)
theorem Holds.below {R : Heap} {w w' : World} (h : Holds R w) (hb : Below w.heap.size w w') : Holds R w' := fun p hp => by
  have h1 := h p hp
  rw [hb.block p.1 (Array.getElem?_eq_some_iff.1 h1).1]; exact h1
end Go.Sy
/-
  Contracts of the parser: fail, next, skip, want, name.
-/
namespace Go.Proofs.Ytfdjlphfohnnnaa
open Go.RowKit Go.Sy
set_option linter.unusedVariables false
set_option linter.unusedSimpArgs false
/-- The tokens that are left, in memory. -/
structure TokIn (R : Heap) (s : Sl) (ts : List Tk) : Prop where
  rd : ∀ w, Holds R w → RdS w w.heap.size 3 tkC s.a s.n ts
  len : ts.length = s.n
  cap : s.n ≤ s.c
def Sl.tail (s : Sl) : Sl := ⟨if s.c = 1 then s.a else s.a.map (·.add (1 * 3)), s.n - 1, s.c - 1⟩
theorem TokIn.tail {R : Heap} {s : Sl} {t : Tk} {ts : List Tk} (h : TokIn R s (t :: ts)) : TokIn R (Sl.tail s) ts := by
  have hl := h.len
  have hc := h.cap
  simp only [List.length_cons] at hl
  refine ⟨fun w hw => ?_, ?_, ?_⟩
  · have hr := h.rd w hw
    by_cases h1 : s.c = 1
    · have : ts = [] := List.eq_nil_of_length_eq_zero (by omega)
      subst this
      show RdS w w.heap.size 3 tkC _ (s.n - 1) []
      rw [show s.n - 1 = 0 by omega]
      exact RdS.none_
    · refine ⟨by show ts.length = s.n - 1; omega, by have := hr.bound; show s.n - 1 ≤ _; omega, fun i x hx => ?_⟩
      obtain ⟨ad, ha, hb, hsz, hcell⟩ := hr.elems (i + 1) x (by simpa using hx)
      refine ⟨ad.add (1 * 3), ?_, by rw [block_add]; exact hb, hsz, fun j v hj => ?_⟩
      · show (if s.c = 1 then s.a else s.a.map (·.add (1 * 3))) = _
        rw [if_neg h1, ha]; rfl
      · rw [show (ad.add (1 * 3)).add (i * 3) = ad.add ((i + 1) * 3) by rw [add_add']; congr 1; omega]
        exact hcell j v hj
  · show ts.length = s.n - 1; omega
  · show s.n - 1 ≤ s.c - 1; omega
theorem TokIn.app {R R' : Heap} {s : Sl} {ts : List Tk} (h : TokIn R s ts) (hs : ∀ p ∈ R, p ∈ R') : TokIn R' s ts := ⟨fun w hw => h.rd w (hw.sub hs), h.len, h.cap⟩
/-- The parser's block. -/
def PB (gp : Nat) (s : Sl) (en : Int) (k : Sl) : Nat × Obj := (gp, .cells #[.slice s.a s.n s.c, .int .i64 en, .slice k.a k.n k.c] 71 (0, 0))
def panE (e : PE) : List PanicEntry := [{ v := .iface 68 (.agg #[.int .i64 e.1, .int .i64 e.2]), recovered := false }]
theorem ex_off {P : Program} {Be : Nat} {w0 : World} {H : Heap} {G : Bool} {e : Env} {op : Op} {ty : TypeId} (hG : G = false) : Ex P Be w0 H G e op ty (.bool false) := by
  intro N a w o _ _ _ _ h
  rw [hG] at h; cases h
theorem ex_mkiface {P : Program} {Be : Nat} {w0 : World} {H : Heap} {G : Bool} {e : Env} {ty : TypeId} {t : TypeId} {x : Operand} {v : Value} [ht : TAgg P t] (h : Ev G e x v) : Ex P Be w0 H G e (.makeInterface t x) ty (.iface t v) := by
  intro N a w o ho _ hf hh hG
  have h1 := ht.agg
  obtain ⟨d, hd⟩ : ∃ d, P.underlying t = some d := by
    cases h2 : P.underlying t with
    | none => rw [h2] at h1; cases h1
    | some d => exact ⟨d, rfl⟩
  rw [hd] at h1
  simp only [execOp, ho, h N a hf hG, Instr.makeInterface, Sem.run_bind, run_underlying hd, Result.andThen_ok]
  cases d <;> first | rfl | cases h1
theorem ex_slice_l1 {P : Program} {Be : Nat} {w0 : World} {H : Heap} {G : Bool} {e : Env} {ty : TypeId} {t el : TypeId} {x y : Operand} {A : Option Addr} {n c : Nat} {k : IntKind} (h1 : Ev G e x (.slice A n c)) (h2 : Ev G e y (.int k 1)) (hb : 1 ≤ n ∧ n ≤ c) [ht : TSlice P t el] [hs : TSize P el 3] :
    Ex P Be w0 H G e (.slice t x (some y) none none) ty (.slice (if c = 1 then A else A.map (·.add (1 * 3))) (n - 1) (c - 1)) := by
  intro N a w o ho _ hf hh hG
  have he : P.elem t = el := by simp [Program.elem, ht.slice]
  simp only [execOp, ho, h1 N a hf hG, Option.map_none, Option.map_some, h2 N a hf hG, Instr.sliceAt, Sem.run_bind, run_underlying ht.slice, Result.andThen_ok]
  rw [run_slice_l w t A n c (by rw [he]; exact ht.slice) k 1 (by omega) (by omega), he, hs.run w]
  simp [sliced]
attribute [local irreducible] Calls thenQ blockQ retQ retFQ Spc Spl Spq Ex Ev Evs Gd Upd ESub HKeep Res Res1 wlk effQ wlkT effT wlkP effP Rem SrcAt Split
set_option maxRecDepth 100000 in
set_option maxHeartbeats 1000000 in
theorem fail_c {Be : Nat} {w0 w : World} {gp : Nat} {s k : Sl} {en e : Int} {R : Heap} {ts : List Tk} {V : Empty → Value} {HH : Empty → Heap} {I : Empty → Prop} (hT : TokIn R s ts) (hg : w0.heap.size ≤ gp) (hh : Hp Be w0 (PB gp s en k :: R) w) :
    Calls Try.prog 59 #[.pointer (some ⟨gp, 0, none⟩), .int .i64 e] w (RetF Be w0 V HH I (fun ch => ch = panE (failP ts en e)) R) := by
  have hrd := hT.rd w hh.holds
  have hlen := hT.len
  have hbd := hrd.bound
  have hTr : ∀ w', Hp Be w0 (PB gp s en k :: R) w' → RdS w' w'.heap.size 3 tkC s.a s.n ts := fun w' hh => hT.rd w' hh.holds
  refine sp_enterF (vs := [_, _]) Try.func59 rfl Try.ntmps59 rfl hh ?_
  unfold PB at *
  cases ts with
  | nil =>
    have h0 : (s.n : Int) = 0 := by simp only [List.length_nil] at hlen; omega
    repeat (first|(apply spl_panic;(·exact eT rfl))|apply then_n|apply sp_seq|apply sp_region|apply spl_nil|((apply sp_cond_t);(·exact eT rfl);(·(exact decide_eq_true (by omega))))|((apply spl_pure rfl);(·(first|(apply ex_buildE (r:=#[.int .i64 9, .int .i64 en]);(·(repeat (first|exact eN|(apply eS;(·(first|exact eT rfl|exact eC))))));(·rfl);(·rfl))|(apply ex_mkiface;(·exact eT rfl))|((first|apply ex_move|apply ex_fieldAddr'|apply ex_seql|apply ex_len|apply ex_nilCheck)<;>(exact eT rfl))|((apply ex_eql)<;>(first|exact eT rfl|exact eC))|((apply ex_loadown)<;>(first|exact eT rfl|exact Bk.own InH.mem|rfl))))))
    apply then_p
    exact retF_pan rfl (by (repeat (first|exact HKeep.refl|apply HKeep.drop (by first|assumption|omega))))
  | cons t r =>
    have h0 : ¬ (s.n : Int) = 0 := by simp only [List.length_cons] at hlen; omega
    have hpos : 0 < s.n := by omega
    obtain ⟨ad, x, hA, hb, hx, hsz, hc⟩ := hrd.at_ hpos
    cases hx
    repeat (first|(apply spl_panic;(·exact eT rfl))|apply then_n|apply sp_seq|apply sp_region|apply spl_nil|(apply sp_cond_f;(·exact eT rfl);(·(exact decide_eq_false (by omega))))|apply sp_skip|((apply spl_pure rfl);(·(first|(apply ex_buildE (r:=#[.int .i64 e, .int .i64 (t.pos : Int)]);(·(repeat (first|exact eN|(apply eS;(·exact eT rfl)))));(·rfl);(·rfl))|(apply ex_mkiface;(·exact eT rfl))|(apply ex_loadfieldH (i:=0) (k:=2);(·exact eT rfl);(·exact hTr);(·exact hA);(·rfl);(·rfl))|((first|apply ex_move|apply ex_fieldAddr'|apply ex_seql|apply ex_len|apply ex_nilCheck)<;>(exact eT rfl))|((first|apply ex_fieldAddr|apply ex_eql)<;>(first|exact eT rfl|exact eC))|((first|apply ex_loadown|apply ex_indexAddr)<;>(first|exact eT rfl|exact eC|exact Bk.own InH.mem|rfl|assumption))))))
    exact retF_pan rfl (by (repeat (first|exact HKeep.refl|apply HKeep.drop (by first|assumption|omega))))
set_option maxRecDepth 100000 in
set_option maxHeartbeats 1000000 in
theorem next_c {Be : Nat} {w0 w : World} {gp : Nat} {s k : Sl} {en : Int} {R : Heap} {t : Tk} {ts : List Tk} (hT : TokIn R s (t :: ts)) (hh : Hp Be w0 (PB gp s en k :: R) w) :
    Calls Try.prog 81 #[.pointer (some ⟨gp, 0, none⟩)] w (RetX Be w0 (fun x : Unit => .string t.text) (fun _ => PB gp (Sl.tail s) en k :: R) (fun _ => True)) := by
  have hrd := hT.rd w hh.holds
  have hlen := hT.len
  have hcap := hT.cap
  have hTr : ∀ w', Hp Be w0 (PB gp s en k :: R) w' → RdS w' w'.heap.size 3 tkC s.a s.n (t :: ts) := fun w' hh => hT.rd w' hh.holds
  have hpos : 0 < s.n := by simp only [List.length_cons] at hlen; omega
  obtain ⟨ad, x, hA, hb, hx, hsz, hc⟩ := hrd.at_ hpos
  cases hx
  refine sp_enterM (vs := [_]) Try.func81 rfl Try.ntmps81 rfl hh ?_
  unfold PB at *
  repeat (first|apply then_n|apply sp_seq|apply sp_region|apply spl_nil|apply sp_ret|((apply spl_pure rfl);(·(first|(apply ex_loadfieldH (i:=0) (k:=1);(·exact eT rfl);(·exact hTr);(·exact hA);(·rfl);(·rfl))|(apply ex_slice_l1;(·exact eT rfl);(·exact eC);(·(constructor<;>omega)))|((first|apply ex_move|apply ex_assign|apply ex_fieldAddr'|apply ex_nilCheck)<;>(first|exact eT rfl|exact eC))|(apply ex_fieldAddr<;>(exact eT rfl))|((first|apply ex_loadown|apply ex_indexAddr)<;>(first|exact eT rfl|exact eC|exact Bk.own InH.mem|rfl|assumption)))))|(apply spl_store1;(·exact eT rfl);(·exact eT rfl);(·rfl);(·(repeat (exact Upd.here)));(·rfl)))
  (apply retX_ok rfl;(·((apply Res.ofOne;((apply Res1.tmp;(·rfl)))))))
  exact ⟨(), rfl, trivial, by unfold Sl.tail; (repeat (exact HKeep.refl))⟩
set_option maxRecDepth 100000 in
set_option maxHeartbeats 2000000 in
theorem skip_c {Be : Nat} {w0 w : World} {gp : Nat} {s k : Sl} {en : Int} {R : Heap} {ts : List Tk} {x : ByteArray} {kd : Nat} (hT : TokIn R s ts) (hh : Hp Be w0 (PB gp s en k :: R) w) :
    Calls Try.prog 58 #[.pointer (some ⟨gp, 0, none⟩), .string x, .int .i64 (kd : Int)] w (RetX Be w0 (fun y : Sl => .bool (isTk x kd ts)) (fun y => PB gp y en k :: R) (fun y => y = (if isTk x kd ts then Sl.tail s else s))) := by
  have hrd := hT.rd w hh.holds
  have hlen := hT.len
  have hTr : ∀ w', Hp Be w0 (PB gp s en k :: R) w' → RdS w' w'.heap.size 3 tkC s.a s.n ts := fun w' hh => hT.rd w' hh.holds
  refine sp_enterM (vs := [_, _, _]) Try.func58 rfl Try.ntmps58 rfl hh ?_
  have hnx : ∀ (t : Tk) (r : List Tk), ts = t :: r → ∀ w', Hp Be w0 (PB gp s en k :: R) w' → Calls Try.prog 81 #[.pointer (some ⟨gp, 0, none⟩)] w' (RetX Be w0 (fun x : Unit => .string t.text) (fun _ => PB gp (Sl.tail s) en k :: R) (fun _ => True)) := fun t r he w' hh => next_c (he ▸ hT) hh
  unfold PB at *
  cases ts with
  | nil =>
    have hoff : decide ((s.n : Int) > 0) = false := decide_eq_false (by simp only [List.length_nil] at hlen; omega)
    repeat (first|(apply sp_cond_f;(·exact eT rfl);(·(rw [hoff];rfl)))|apply then_n|apply sp_seq|apply sp_region|apply spl_nil|apply sp_skip|apply sp_ret|((first|apply spl_pure rfl|apply spq_pure rfl|(apply spq_pure_g rfl;(·exact Gd.tt rfl rfl)));(·(first|(apply ex_off hoff)|((first|apply ex_move|apply ex_assign|apply ex_fieldAddr'|apply ex_gtr|apply ex_len|apply ex_andT|apply ex_nilCheck)<;>(first|exact eT rfl|exact eC|exact eG rfl))|((apply ex_loadown)<;>(first|exact eT rfl|exact Bk.own InH.mem|rfl)))))|apply spq_nil|apply sp_draw mixed (by kernel_rfl))
    (apply retX_ok rfl;(·((apply Res.ofOne;((apply Res1.tmp;(·rfl)))))))
    exact ⟨s, by rw [hoff]; rfl, rfl, by (repeat (exact HKeep.refl))⟩
  | cons t r =>
    have hon : decide ((s.n : Int) > 0) = true := decide_eq_true (by simp only [List.length_cons] at hlen; omega)
    have hpos : 0 < s.n := by simp only [List.length_cons] at hlen; omega
    obtain ⟨ad, y, hA, hb, hx, hsz, hc⟩ := hrd.at_ hpos
    cases hx
    have hcond : (decide ((s.n : Int) > 0) && tkEq t ⟨kd, x, t.pos⟩) = isTk x kd (t :: r) := by rw [hon]; rfl
    cases hb2 : isTk x kd (t :: r) with
    | false =>
      rw [hb2] at hcond
      repeat (first|(apply sp_cond_f;(·exact eT rfl);(·exact hcond))|apply then_n|apply sp_seq|apply sp_region|apply spl_nil|apply sp_skip|apply sp_ret|((first|apply spl_pure rfl|apply spq_pure rfl|(apply spq_pure_g rfl;(·exact Gd.tt rfl rfl)));(·(first|(apply ex_tkeql (s:=t) (t:=⟨kd, x, t.pos⟩);(·exact eG rfl);(·exact eG rfl))|(apply ex_buildE (r:=tkC ⟨kd, x, t.pos⟩);(·(repeat (first|exact eN|(apply eS;(·exact eG rfl)))));(·rfl);(·rfl))|(apply ex_loadelemH (i:=0) (y:=t);(·exact eG rfl);(·exact hTr);(·exact hA);(·rfl);(·rfl))|(apply ex_loadfieldH (i:=0) (k:=2) (y:=t);(·exact eG rfl);(·exact hTr);(·exact hA);(·rfl);(·rfl))|((first|apply ex_move|apply ex_assign|apply ex_fieldAddr'|apply ex_gtr|apply ex_len|apply ex_andT|apply ex_nilCheck)<;>(first|exact eT rfl|exact eC|exact eG rfl))|((apply ex_fieldAddr)<;>(exact eG rfl))|((first|apply ex_loadown|apply ex_indexAddr)<;>(first|exact eT rfl|exact eC|exact eG rfl|exact Bk.own InH.mem|rfl|assumption)))))|apply spq_nil|apply sp_draw mixed (by kernel_rfl))
      (apply retX_ok rfl;(·((apply Res.ofOne;((apply Res1.tmp;(·rfl)))))))
      exact ⟨s, by rw [hcond], rfl, by (repeat (exact HKeep.refl))⟩
    | true =>
      rw [hb2] at hcond
      repeat (first|(apply sp_cond_t;(·exact eT rfl);(·exact hcond))|(apply spl_callM (X:=Unit) (A:=[PB gp s en k]) (R:=R) (AA:=fun _ => [PB gp (Sl.tail s) en k]) rfl;(·(repeat (first|exact eN|(apply eS;(·exact eT rfl)))));(·exact Split.one);(·exact hnx t r rfl);(intro _ _))|apply then_n|apply sp_seq|apply sp_region|apply spl_nil|apply sp_ret|((first|apply spl_pure rfl|apply spq_pure rfl|(apply spq_pure_g rfl;(·exact Gd.tt rfl rfl)));(·(first|(apply ex_tkeql (s:=t) (t:=⟨kd, x, t.pos⟩);(·exact eG rfl);(·exact eG rfl))|(apply ex_buildE (r:=tkC ⟨kd, x, t.pos⟩);(·(repeat (first|exact eN|(apply eS;(·exact eG rfl)))));(·rfl);(·rfl))|(apply ex_loadelemH (i:=0) (y:=t);(·exact eG rfl);(·exact hTr);(·exact hA);(·rfl);(·rfl))|(apply ex_loadfieldH (i:=0) (k:=2) (y:=t);(·exact eG rfl);(·exact hTr);(·exact hA);(·rfl);(·rfl))|((first|apply ex_move|apply ex_assign|apply ex_fieldAddr'|apply ex_gtr|apply ex_len|apply ex_andT|apply ex_nilCheck)<;>(first|exact eT rfl|exact eC|exact eG rfl))|((apply ex_fieldAddr)<;>(exact eG rfl))|((first|apply ex_loadown|apply ex_indexAddr)<;>(first|exact eT rfl|exact eC|exact eG rfl|exact Bk.own InH.mem|rfl|assumption)))))|apply spq_nil|apply sp_draw mixed (by kernel_rfl))
      (apply retX_ok rfl;(·((apply Res.ofOne;((apply Res1.tmp;(·rfl)))))))
      exact ⟨Sl.tail s, by rw [hcond], rfl, by (repeat (exact HKeep.refl))⟩
end Go.Proofs.Ytfdjlphfohnnnaa
/-
  Contracts of the parser: want, name, the checks of names.
-/
namespace Go.Proofs.Ytfdjlphfohnnnaa
open Go.RowKit Go.Sy
set_option linter.unusedVariables false
set_option linter.unusedSimpArgs false
attribute [local irreducible] Calls thenQ blockQ retQ retFQ Spc Spl Spq Ex Ev Evs Gd Upd ESub HKeep Res Res1 wlk effQ wlkT effT wlkP effP Rem SrcAt Split
theorem PB_split {gp : Nat} {s k : Sl} {en : Int} {R : Heap} : Split ((gp, .cells #[.slice s.a s.n s.c, .int .i64 en, .slice k.a k.n k.c] 71 (0, 0)) :: R) [PB gp s en k] R := Split.one
theorem skip_in {R : Heap} {s y : Sl} {x : ByteArray} {kd : Nat} {ts : List Tk} (hT : TokIn R s ts) (hy : y = if isTk x kd ts then Sl.tail s else s) : TokIn R y (skipP x kd ts) := by
  subst hy
  unfold skipP
  cases h : isTk x kd ts with
  | false => exact hT
  | true =>
    cases ts with
    | nil => cases h
    | cons t r => exact hT.tail
set_option maxRecDepth 100000 in
set_option maxHeartbeats 1000000 in
theorem want_c {Be : Nat} {w0 w : World} {gp : Nat} {s k : Sl} {en : Int} {R R0 : Heap} {ts : List Tk} {x : ByteArray} (hT0 : TokIn R0 s ts) (h0 : ∀ p ∈ R0, p ∈ R) (hg : w0.heap.size ≤ gp) (hh : Hp Be w0 (PB gp s en k :: R) w) :
    Calls Try.prog 63 #[.pointer (some ⟨gp, 0, none⟩), .string x] w (RetF Be w0 (fun y : Sl × List Tk => .tuple #[]) (fun y => PB gp y.1 en k :: R) (fun y => wantP x en ts = .ok y.2 ∧ TokIn R0 y.1 y.2) (fun ch => ∃ e, wantP x en ts = .error e ∧ ch = panE e) R) := by
  have hT := hT0.app h0
  have hsk : ∀ w', Hp Be w0 (PB gp s en k :: R) w' → Calls Try.prog 58 #[.pointer (some ⟨gp, 0, none⟩), .string x, .int .i64 ((4 : Nat) : Int)] w' _ := fun w' hh => skip_c (x := x) (kd := 4) hT hh
  refine sp_enterF (vs := [_, _]) Try.func63 rfl Try.ntmps63 rfl hh ?_
  cases hi : isTk x 4 ts with
  | false =>
    have hw : wantP x en ts = .error (failP ts en 8) := by unfold wantP; rw [hi]; rfl
    rw [hi] at hsk
    repeat (first|(apply spl_callM (X:=Sl) (A:=[PB gp s en k]) (R:=R) (AA:=fun y => [PB gp y en k]) rfl;(·(repeat (first|exact eN|(apply eS;(·(first|exact eT rfl|exact eC))))));(·exact Split.one);(·exact hsk);(intro y_ hy_;replace hy_ : y_ = s := hy_;cases hy_;simp only [List.cons_append, List.nil_append]))|(apply spl_callF (X:=Empty) (V:=fun _ => .tuple #[]) (I:=fun _ => True) (A:=[PB gp s en k]) (R:=R) (AA:=fun _ => [PB gp s en k]) rfl;(·(repeat (first|exact eN|(apply eS;(·(first|exact eT rfl|exact eC))))));(·exact Split.one);(·exact fun w' hh => fail_c hT hg hh);(·(intro ch hch;(repeat (apply then_p));exact retF_pan ⟨_, hw, hch⟩ (by (repeat (exact HKeep.refl)))));(intro y_;exact y_.elim))|apply then_n|apply sp_seq|apply sp_region|apply spl_nil|((apply sp_cond_t);(·exact eT rfl);(·(rfl)))|((apply spl_pure rfl);(·(((first|apply ex_move|apply ex_not)<;>(exact eT rfl))))))
  | true =>
    have hw : wantP x en ts = .ok ts.tail := by unfold wantP; rw [hi]; rfl
    have hT2 : TokIn R0 (Sl.tail s) ts.tail := by
      cases ts with
      | nil => cases hi
      | cons t r => exact hT0.tail
    rw [hi] at hsk
    repeat (first|(apply spl_callM (X:=Sl) (A:=[PB gp s en k]) (R:=R) (AA:=fun y => [PB gp y en k]) rfl;(·(repeat (first|exact eN|(apply eS;(·(first|exact eT rfl|exact eC))))));(·exact Split.one);(·exact hsk);(intro y_ hy_;replace hy_ : y_ = Sl.tail s := hy_;cases hy_;simp only [List.cons_append, List.nil_append]))|(apply sp_cond_f;(·exact eT rfl);(·(simp;done)))|apply then_n|apply sp_seq|apply sp_region|apply spl_nil|apply sp_skip|((apply spl_pure rfl);(·(((first|apply ex_move|apply ex_not)<;>(exact eT rfl))))))
    (apply endF_ok rfl;(·exact Res.none_))
    exact ⟨(Sl.tail s, ts.tail), rfl, ⟨hw, hT2⟩, by (repeat (exact HKeep.refl))⟩
set_option maxRecDepth 100000 in
set_option maxHeartbeats 2000000 in
theorem name_c {Be : Nat} {w0 w : World} {gp : Nat} {s k : Sl} {en : Int} {R R0 : Heap} {ts : List Tk} {chk : ByteArray → Int} {f : Nat} [TFn Try.prog f] {cap : List Value} (hT0 : TokIn R0 s ts) (h0 : ∀ p ∈ R0, p ∈ R) (hg : w0.heap.size ≤ gp)
    (hchk : ∀ t r, ts = t :: r → (t.kind : Int) = 1 → ∀ w', Hp Be w0 (PB gp s en k :: R) w' → Calls Try.prog f (Value.string t.text :: cap).toArray w' (Ret w' (.int .i64 (chk t.text)))) (hh : Hp Be w0 (PB gp s en k :: R) w) :
    Calls Try.prog 60 #[.pointer (some ⟨gp, 0, none⟩), .func (.func f) #[] cap.toArray] w (RetF Be w0 (fun y : Sl × ByteArray × List Tk => .string y.2.1) (fun y => PB gp y.1 en k :: R) (fun y => nameP chk en ts = .ok y.2 ∧ TokIn R0 y.1 y.2.2) (fun ch => ∃ e, nameP chk en ts = .error e ∧ ch = panE e) R) := by
  have hT := hT0.app h0
  have hrd := hT.rd w hh.holds
  have hlen := hT.len
  have hTr : ∀ w', Hp Be w0 (PB gp s en k :: R) w' → RdS w' w'.heap.size 3 tkC s.a s.n ts := fun w' hh => hT.rd w' hh.holds
  have hsp : ∀ {R' : Heap}, Split ((gp, .cells #[.slice s.a s.n s.c, .int .i64 en, .slice k.a k.n k.c] 71 (0, 0)) :: R') [PB gp s en k] R' := Split.one
  refine sp_enterF (vs := [_, _]) Try.func60 rfl Try.ntmps60 rfl hh ?_
  cases ts with
  | nil =>
    have hon : decide ((s.n : Int) = 0) = true := decide_eq_true (by simp only [List.length_nil] at hlen; omega)
    have hoff : (!decide ((s.n : Int) = 0)) = false := by rw [hon]; rfl
    have hw : nameP chk en [] = .error (9, en) := rfl
    unfold PB
    repeat (first|(apply sp_cond_t;(·exact eT rfl);(·(rw [hon];rfl)))|(apply spl_callF (X:=Empty) (V:=fun _ => .tuple #[]) (I:=fun _ => True) (A:=[PB gp s en k]) (R:=R) (AA:=fun _ => [PB gp s en k]) rfl;(·(repeat (first|exact eN|(apply eS;(·(first|exact eT rfl|exact eC))))));(·exact hsp);(·exact fun w' hh => fail_c hT hg hh);(·(intro ch hch;(repeat (apply then_p));exact retF_pan ⟨_, hw, hch⟩ (by (repeat (exact HKeep.refl)))));(intro y_;exact y_.elim))|apply then_n|apply sp_seq|apply sp_region|apply spl_nil|((first|apply spl_pure rfl|(apply spl_pure_g rfl;(·exact Gd.tf rfl rfl)));(·(first|(apply ex_off hoff)|((first|apply ex_move|apply ex_assign|apply ex_fieldAddr'|apply ex_seql|apply ex_len|apply ex_nilCheck)<;>(first|exact eT rfl|exact eC))|((first|apply ex_eql|apply ex_orT)<;>(first|exact eT rfl|exact eC|exact eG rfl))|((apply ex_loadown)<;>(first|exact eT rfl|exact Bk.own InH.mem|rfl))))))
  | cons t r =>
    have hon : decide ((s.n : Int) = 0) = false := decide_eq_false (by simp only [List.length_cons] at hlen; omega)
    have hpos : 0 < s.n := by simp only [List.length_cons] at hlen; omega
    obtain ⟨ad, y, hA, hb, hx, hsz, hc⟩ := hrd.at_ hpos
    cases hx
    by_cases hk : (t.kind : Int) = 1
    · have hck := hchk t r rfl hk
      have hcond : (decide ((s.n : Int) = 0) || !decide ((t.kind : Int) = 1)) = false := by rw [hon]; simp [hk]
      by_cases hz : chk t.text = 0
      · have hw : nameP chk en (t :: r) = .ok (t.text, r) := by simp only [nameP]; rw [if_pos hk, if_pos hz]
        unfold PB
        repeat (first|(apply sp_cond_f;(·exact eT rfl);(·exact hcond))|(apply sp_cond_f;(·exact eT rfl);(·(simp [hz])))|(apply spl_callv (f:=f) (first:=[]) (cap:=cap) rfl;(·exact eT rfl);(·(repeat (first|exact eN|(apply eS;(·exact eT rfl)))));(·exact hck))|(apply spl_callM (X:=Unit) (A:=[PB gp s en k]) (R:=R) (AA:=fun _ => [PB gp (Sl.tail s) en k]) rfl;(·(repeat (first|exact eN|(apply eS;(·exact eT rfl)))));(·exact hsp);(·exact fun w' hh => next_c hT hh);(intro _ _;simp only [List.cons_append, List.nil_append]))|apply then_n|apply sp_seq|apply sp_region|apply spl_nil|apply sp_skip|apply sp_ret|((first|apply spl_pure rfl|(apply spl_pure_g rfl;(·exact Gd.tf rfl rfl)));(·(first|(apply ex_loadfieldH (i:=0) (k:=0) (y:=t);(·exact eG rfl);(·exact hTr);(·exact hA);(·rfl);(·rfl))|(apply ex_loadfieldH (i:=0) (k:=1) (y:=t);(·exact eT rfl);(·exact hTr);(·exact hA);(·rfl);(·rfl))|((first|apply ex_move|apply ex_assign|apply ex_fieldAddr'|apply ex_seql|apply ex_sneq|apply ex_len|apply ex_nilCheck)<;>(first|exact eT rfl|exact eC|exact eG rfl))|((first|apply ex_fieldAddr|apply ex_eql|apply ex_neq|apply ex_orT)<;>(first|exact eT rfl|exact eC|exact eG rfl))|((first|apply ex_loadown|apply ex_indexAddr)<;>(first|exact eT rfl|exact eC|exact eG rfl|exact Bk.own InH.mem|rfl|assumption))))))
        (apply retF_ok rfl;(·((apply Res.ofOne;((apply Res1.tmp;(·rfl)))))))
        exact ⟨(Sl.tail s, t.text, r), rfl, ⟨hw, hT0.tail⟩, by (repeat (exact HKeep.refl))⟩
      · have hw : nameP chk en (t :: r) = .error (chk t.text, (t.pos : Int)) := by simp only [nameP]; rw [if_pos hk, if_neg hz]
        unfold PB
        repeat (first|(apply sp_cond_f;(·exact eT rfl);(·exact hcond))|(apply sp_cond_t;(·exact eT rfl);(·(simp [hz])))|(apply spl_callv (f:=f) (first:=[]) (cap:=cap) rfl;(·exact eT rfl);(·(repeat (first|exact eN|(apply eS;(·exact eT rfl)))));(·exact hck))|(apply spl_callF (X:=Empty) (V:=fun _ => .tuple #[]) (I:=fun _ => True) (A:=[PB gp s en k]) (R:=R) (AA:=fun _ => [PB gp s en k]) rfl;(·(repeat (first|exact eN|(apply eS;(·exact eT rfl)))));(·exact hsp);(·exact fun w' hh => fail_c hT hg hh);(·(intro ch hch;(repeat (apply then_p));exact retF_pan ⟨_, hw, hch⟩ (by (repeat (exact HKeep.refl)))));(intro y_;exact y_.elim))|apply then_n|apply sp_seq|apply sp_region|apply spl_nil|apply sp_skip|((first|apply spl_pure rfl|(apply spl_pure_g rfl;(·exact Gd.tf rfl rfl)));(·(first|(apply ex_loadfieldH (i:=0) (k:=0) (y:=t);(·exact eG rfl);(·exact hTr);(·exact hA);(·rfl);(·rfl))|(apply ex_loadfieldH (i:=0) (k:=1) (y:=t);(·exact eT rfl);(·exact hTr);(·exact hA);(·rfl);(·rfl))|((first|apply ex_move|apply ex_assign|apply ex_fieldAddr'|apply ex_seql|apply ex_sneq|apply ex_len|apply ex_nilCheck)<;>(first|exact eT rfl|exact eC|exact eG rfl))|((first|apply ex_fieldAddr|apply ex_eql|apply ex_neq|apply ex_orT)<;>(first|exact eT rfl|exact eC|exact eG rfl))|((first|apply ex_loadown|apply ex_indexAddr)<;>(first|exact eT rfl|exact eC|exact eG rfl|exact Bk.own InH.mem|rfl|assumption))))))
    · have hw : nameP chk en (t :: r) = .error (8, (t.pos : Int)) := by simp only [nameP]; rw [if_neg hk]
      have hcond : (decide ((s.n : Int) = 0) || !decide ((t.kind : Int) = 1)) = true := by rw [hon]; simp [hk]
      unfold PB
      repeat (first|(apply sp_cond_t;(·exact eT rfl);(·exact hcond))|(apply spl_callF (X:=Empty) (V:=fun _ => .tuple #[]) (I:=fun _ => True) (A:=[PB gp s en k]) (R:=R) (AA:=fun _ => [PB gp s en k]) rfl;(·(repeat (first|exact eN|(apply eS;(·(first|exact eT rfl|exact eC))))));(·exact hsp);(·exact fun w' hh => fail_c hT hg hh);(·(intro ch hch;(repeat (apply then_p));exact retF_pan ⟨_, hw, hch⟩ (by (repeat (exact HKeep.refl)))));(intro y_;exact y_.elim))|apply then_n|apply sp_seq|apply sp_region|apply spl_nil|((first|apply spl_pure rfl|(apply spl_pure_g rfl;(·exact Gd.tf rfl rfl)));(·(first|(apply ex_loadfieldH (i:=0) (k:=0) (y:=t);(·exact eG rfl);(·exact hTr);(·exact hA);(·rfl);(·rfl))|((first|apply ex_move|apply ex_assign|apply ex_fieldAddr'|apply ex_seql|apply ex_sneq|apply ex_len|apply ex_nilCheck)<;>(first|exact eT rfl|exact eC|exact eG rfl))|((first|apply ex_fieldAddr|apply ex_eql|apply ex_neq|apply ex_orT)<;>(first|exact eT rfl|exact eC|exact eG rfl))|((first|apply ex_loadown|apply ex_indexAddr)<;>(first|exact eT rfl|exact eC|exact eG rfl|exact Bk.own InH.mem|rfl|assumption))))))
end Go.Proofs.Ytfdjlphfohnnnaa
/-
  Contracts of the parser: the checks of names.
-/
namespace Go.Proofs.Ytfdjlphfohnnnaa
open Go.RowKit Go.Sy
set_option linter.unusedVariables false
set_option linter.unusedSimpArgs false
theorem idx_in {α : Type} (nm : α → ByteArray) (xs : List α) (s : ByteArray) : decide (idx xs (fun x => decide (nm x = s)) ≥ 0) = inL (xs.map nm) s := by
  unfold idx inL
  rw [List.any_map]
  cases h : xs.findIdx? fun x => decide (nm x = s) with
  | none =>
    rw [List.findIdx?_eq_none_iff] at h
    have : xs.any ((fun x => decide (x = s)) ∘ nm) = false := by
      rw [List.any_eq_false]
      intro x hx
      simpa using h x hx
    rw [this]; rfl
  | some i =>
    obtain ⟨hi, hp, -⟩ := List.findIdx?_eq_some_iff_getElem.1 h
    have : xs.any ((fun x => decide (x = s)) ∘ nm) = true := by
      rw [List.any_eq_true]
      exact ⟨xs[i], List.getElem_mem hi, hp⟩
    rw [this]
    simp
theorem fresh_7 {names : List ByteArray} {most : Nat} {s : ByteArray} (h : names.length = most) : freshC names most s = 7 := by unfold freshC; rw [if_pos h]
theorem fresh_3 {names : List ByteArray} {most : Nat} {s : ByteArray} (h : ¬ names.length = most) (h2 : inL names s = true) : freshC names most s = 3 := by unfold freshC; rw [if_neg h, if_pos h2]
theorem fresh_0 {names : List ByteArray} {most : Nat} {s : ByteArray} (h : ¬ names.length = most) (h2 : inL names s = false) : freshC names most s = 0 := by unfold freshC; rw [if_neg h, if_neg (by rw [h2]; simp)]
attribute [local irreducible] Calls thenQ blockQ retQ retFQ Spc Spl Spq Ex Ev Evs Gd Upd ESub HKeep Res Res1 wlk effQ wlkT effT wlkP effP Rem SrcAt Split
set_option maxRecDepth 100000 in
theorem fresh_kind {w : World} {A : Option Addr} {n c most : Nat} : Calls Try.prog 61 #[.slice A n c, .func (.func 42) #[] #[], .int .i64 (most : Int)] w
    (RetH w (fun x : Nat × Nat × Nat => .func (.func 82) #[] #[.pointer (some ⟨x.1, 0, none⟩), .pointer (some ⟨x.2.1, 0, none⟩), .pointer (some ⟨x.2.2, 0, none⟩)]) (fun x => [(x.2.1, .cells #[.int .i64 (most : Int)] 3 (0, 0)), (x.2.2, .cells #[.func (.func 42) #[] #[]] 65 (0, 0)), (x.1, .cells #[.slice A n c] 22 (0, 0))]) (fun _ => True)) := by
  refine sp_enter (vs := [_, _, _]) Try.func61 rfl Try.ntmps61 rfl ?_
  repeat (first|apply then_n|apply sp_seq|apply sp_region|apply spl_nil|apply sp_ret|((apply spl_pure rfl);(·(first|(apply ex_assign<;>(first|exact eT rfl|exact eC))|(apply ex_makeFunc<;>(((repeat (first|exact eN|(apply eS;(·exact eT rfl))));done))))))|(apply spl_box;(·exact eT rfl);(·rfl);intro _ _))
  (apply retH_ok rfl;(·((apply Res.ofOne;((apply Res1.tmp;(·rfl)))))))
  exact ⟨(_, _, _), rfl, trivial, by (repeat (exact HKeep.refl))⟩
set_option maxRecDepth 100000 in
set_option maxHeartbeats 1000000 in
theorem freshC_kind {w : World} {A : Option Addr} {n c most : Nat} {xs : List KindR} {s : ByteArray} {g1 g2 g3 : Nat} (h : RdS w w.heap.size 3 KindR.cells A n xs) (h1 : w.heap[g1]? = some (.cells #[.slice A n c] 22 (0, 0))) (h2 : w.heap[g2]? = some (.cells #[.int .i64 (most : Int)] 3 (0, 0))) (h3 : w.heap[g3]? = some (.cells #[.func (.func 42) #[] #[]] 65 (0, 0))) :
    Calls Try.prog 82 #[.string s, .pointer (some ⟨g1, 0, none⟩), .pointer (some ⟨g2, 0, none⟩), .pointer (some ⟨g3, 0, none⟩)] w (Ret w (.int .i64 (freshC (xs.map (·.name)) most s))) := by
  have hl : (xs.map (·.name)).length = n := by rw [List.length_map]; exact h.len
  have hix := fun (w' : World) (h' : RdS w' w'.heap.size 3 KindR.cells A n xs) => index_kind (c := c) (s := s) h'
  have hin := idx_in (·.name) xs s
  obtain ⟨I, hI⟩ : ∃ I, I = idx xs (fun x => decide (x.name = s)) := ⟨_, rfl⟩
  rw [← hI] at hix hin
  refine sp_enter (vs := [_, _, _, _]) Try.func82 rfl Try.ntmps82 rfl ?_
  by_cases hm : n = most
  · have hm' : (n : Int) = (most : Int) := by omega
    rw [fresh_7 (by omega)]
    repeat (first|(apply sp_cond_t;(·exact eT rfl);(·exact decide_eq_true hm'))|apply then_n|apply sp_seq|apply sp_region|apply spl_nil|apply then_r|apply block_r|apply sp_ret|apply sp_block|((apply spl_pure rfl);(·(first|((first|apply ex_assign|apply ex_seql|apply ex_len)<;>(first|exact eT rfl|exact eC))|((apply ex_eql)<;>(exact eT rfl))|(apply ex_loadown<;>(first|exact eT rfl|exact Bk.old (by assumption) (Nat.le_refl _)|rfl))))))
    (apply ret_ok rfl;(·((apply Res.ofOne;((apply Res1.tmp;(·rfl))))))); rfl
  · have hm' : ¬ (n : Int) = (most : Int) := by omega
    cases hi : inL (xs.map (·.name)) s with
    | true =>
      rw [fresh_3 (by omega) hi]
      rw [hi] at hin
      repeat (first|(apply sp_cond_f;(·exact eT rfl);(·exact decide_eq_false hm'))|(apply sp_cond_t;(·exact eT rfl);(·exact hin))|(apply spl_callp rfl;(·(repeat (first|exact eN|(apply eS;(·exact eT rfl)))));(·exact fun w' hh => hix w' (h.hp' hh)))|apply then_n|apply sp_seq|apply sp_region|apply spl_nil|apply then_r|apply block_r|apply sp_ret|apply sp_block|((apply spl_pure rfl);(·(first|((first|apply ex_move|apply ex_assign|apply ex_geq|apply ex_seql|apply ex_len)<;>(first|exact eT rfl|exact eC))|((apply ex_eql)<;>(exact eT rfl))|(apply ex_loadown<;>(first|exact eT rfl|exact Bk.old (by assumption) (Nat.le_refl _)|rfl))))))
      (apply ret_ok rfl;(·((apply Res.ofOne;((apply Res1.tmp;(·rfl))))))); rfl
    | false =>
      rw [fresh_0 (by omega) hi]
      rw [hi] at hin
      repeat (first|(apply sp_cond_f;(·exact eT rfl);(·exact decide_eq_false hm'))|(apply sp_cond_f;(·exact eT rfl);(·exact hin))|(apply spl_callp rfl;(·(repeat (first|exact eN|(apply eS;(·exact eT rfl)))));(·exact fun w' hh => hix w' (h.hp' hh)))|apply then_n|apply block_n|apply sp_seq|apply sp_region|apply spl_nil|apply sp_skip|apply sp_ret|apply sp_block|((apply spl_pure rfl);(·(first|((first|apply ex_move|apply ex_assign|apply ex_geq|apply ex_seql|apply ex_len)<;>(first|exact eT rfl|exact eC))|((apply ex_eql)<;>(exact eT rfl))|(apply ex_loadown<;>(first|exact eT rfl|exact Bk.old (by assumption) (Nat.le_refl _)|rfl))))))
      (apply ret_ok rfl;(·((apply Res.ofOne;((apply Res1.tmp;(·rfl))))))); rfl
set_option maxRecDepth 100000 in
theorem fresh_slot {w : World} {A : Option Addr} {n c most : Nat} : Calls Try.prog 83 #[.slice A n c, .func (.func 72) #[] #[], .int .i64 (most : Int)] w
    (RetH w (fun x : Nat × Nat × Nat => .func (.func 89) #[] #[.pointer (some ⟨x.1, 0, none⟩), .pointer (some ⟨x.2.1, 0, none⟩), .pointer (some ⟨x.2.2, 0, none⟩)]) (fun x => [(x.2.1, .cells #[.int .i64 (most : Int)] 3 (0, 0)), (x.2.2, .cells #[.func (.func 72) #[] #[]] 112 (0, 0)), (x.1, .cells #[.slice A n c] 32 (0, 0))]) (fun _ => True)) := by
  refine sp_enter (vs := [_, _, _]) Try.func83 rfl Try.ntmps83 rfl ?_
  repeat (first|apply then_n|apply sp_seq|apply sp_region|apply spl_nil|apply sp_ret|((apply spl_pure rfl);(·(first|(apply ex_assign<;>(first|exact eT rfl|exact eC))|(apply ex_makeFunc<;>(((repeat (first|exact eN|(apply eS;(·exact eT rfl))));done))))))|(apply spl_box;(·exact eT rfl);(·rfl);intro _ _))
  (apply retH_ok rfl;(·((apply Res.ofOne;((apply Res1.tmp;(·rfl)))))))
  exact ⟨(_, _, _), rfl, trivial, by (repeat (exact HKeep.refl))⟩
set_option maxRecDepth 100000 in
set_option maxHeartbeats 1000000 in
theorem freshC_slot {w : World} {A : Option Addr} {n c most : Nat} {xs : List SlotR} {s : ByteArray} {g1 g2 g3 : Nat} (h : RdS w w.heap.size 3 SlotR.cells A n xs) (h1 : w.heap[g1]? = some (.cells #[.slice A n c] 32 (0, 0))) (h2 : w.heap[g2]? = some (.cells #[.int .i64 (most : Int)] 3 (0, 0))) (h3 : w.heap[g3]? = some (.cells #[.func (.func 72) #[] #[]] 112 (0, 0))) :
    Calls Try.prog 89 #[.string s, .pointer (some ⟨g1, 0, none⟩), .pointer (some ⟨g2, 0, none⟩), .pointer (some ⟨g3, 0, none⟩)] w (Ret w (.int .i64 (freshC (xs.map (·.name)) most s))) := by
  have hl : (xs.map (·.name)).length = n := by rw [List.length_map]; exact h.len
  have hix := fun (w' : World) (h' : RdS w' w'.heap.size 3 SlotR.cells A n xs) => index_slot (c := c) (s := s) h'
  have hin := idx_in (·.name) xs s
  obtain ⟨I, hI⟩ : ∃ I, I = idx xs (fun x => decide (x.name = s)) := ⟨_, rfl⟩
  rw [← hI] at hix hin
  refine sp_enter (vs := [_, _, _, _]) Try.func89 rfl Try.ntmps89 rfl ?_
  by_cases hm : n = most
  · have hm' : (n : Int) = (most : Int) := by omega
    rw [fresh_7 (by omega)]
    repeat (first|(apply sp_cond_t;(·exact eT rfl);(·exact decide_eq_true hm'))|apply then_n|apply sp_seq|apply sp_region|apply spl_nil|apply then_r|apply block_r|apply sp_ret|apply sp_block|((apply spl_pure rfl);(·(first|((first|apply ex_assign|apply ex_seql|apply ex_len)<;>(first|exact eT rfl|exact eC))|((apply ex_eql)<;>(exact eT rfl))|(apply ex_loadown<;>(first|exact eT rfl|exact Bk.old (by assumption) (Nat.le_refl _)|rfl))))))
    (apply ret_ok rfl;(·((apply Res.ofOne;((apply Res1.tmp;(·rfl))))))); rfl
  · have hm' : ¬ (n : Int) = (most : Int) := by omega
    cases hi : inL (xs.map (·.name)) s with
    | true =>
      rw [fresh_3 (by omega) hi]
      rw [hi] at hin
      repeat (first|(apply sp_cond_f;(·exact eT rfl);(·exact decide_eq_false hm'))|(apply sp_cond_t;(·exact eT rfl);(·exact hin))|(apply spl_callp rfl;(·(repeat (first|exact eN|(apply eS;(·exact eT rfl)))));(·exact fun w' hh => hix w' (h.hp' hh)))|apply then_n|apply sp_seq|apply sp_region|apply spl_nil|apply then_r|apply block_r|apply sp_ret|apply sp_block|((apply spl_pure rfl);(·(first|((first|apply ex_move|apply ex_assign|apply ex_geq|apply ex_seql|apply ex_len)<;>(first|exact eT rfl|exact eC))|((apply ex_eql)<;>(exact eT rfl))|(apply ex_loadown<;>(first|exact eT rfl|exact Bk.old (by assumption) (Nat.le_refl _)|rfl))))))
      (apply ret_ok rfl;(·((apply Res.ofOne;((apply Res1.tmp;(·rfl))))))); rfl
    | false =>
      rw [fresh_0 (by omega) hi]
      rw [hi] at hin
      repeat (first|(apply sp_cond_f;(·exact eT rfl);(·exact decide_eq_false hm'))|(apply sp_cond_f;(·exact eT rfl);(·exact hin))|(apply spl_callp rfl;(·(repeat (first|exact eN|(apply eS;(·exact eT rfl)))));(·exact fun w' hh => hix w' (h.hp' hh)))|apply then_n|apply block_n|apply sp_seq|apply sp_region|apply spl_nil|apply sp_skip|apply sp_ret|apply sp_block|((apply spl_pure rfl);(·(first|((first|apply ex_move|apply ex_assign|apply ex_geq|apply ex_seql|apply ex_len)<;>(first|exact eT rfl|exact eC))|((apply ex_eql)<;>(exact eT rfl))|(apply ex_loadown<;>(first|exact eT rfl|exact Bk.old (by assumption) (Nat.le_refl _)|rfl))))))
      (apply ret_ok rfl;(·((apply Res.ofOne;((apply Res1.tmp;(·rfl))))))); rfl
/-! The records without their places. -/
def SlotR.pure (s : SlotR) : PSlot := ⟨s.name, s.kinds, s.normal.toNat⟩
def KindR.pure (k : KindR) : PKind := ⟨k.name, k.vehicle, k.slots.map SlotR.pure⟩
theorem contains_in (l : List ByteArray) (s : ByteArray) : decide (0 ≤ idx l (fun x => decide (s = x))) = inL l s := by
  have := idx_in id l s
  rw [List.map_id] at this
  rw [← this]
  have he : (fun x : ByteArray => decide (s = x)) = fun x => decide (id x = s) := by funext x; rw [decide_eq_decide]; exact eq_comm
  rw [he]
theorem find_pure (ks : List KindR) (s : ByteArray) : ((ks.map KindR.pure).find? fun k => decide (k.name = s)) = (findK ks s).map KindR.pure := by
  unfold findK
  induction ks with
  | nil => rfl
  | cons k ks ih =>
    rw [List.map_cons, List.find?_cons, List.find?_cons, ih]
    show (match decide (k.name = s) with | true => some k.pure | false => _) = Option.map KindR.pure (match decide (k.name = s) with | true => some k | false => _)
    cases decide (k.name = s) <;> rfl
set_option maxRecDepth 100000 in
set_option maxHeartbeats 2000000 in
theorem kindsChk_c {w : World} {gb gl gp : Nat} {A K : Option Addr} {n c kn kc : Nat} {l : List ByteArray} {ks : List KindR} {s : ByteArray} {tv : Value} {en : Int} (hl : RdS w w.heap.size 1 strC A n l) (hk : RdS w w.heap.size 3 KindR.cells K kn ks) (h1 : w.heap[gb]? = some (.cells #[.pointer (some ⟨gp, 0, none⟩)] 69 (0, 0))) (h2 : w.heap[gl]? = some (.cells #[.slice A n c] 44 (0, 0)))
    (h3 : w.heap[gp]? = some (.cells #[tv, .int .i64 en, .slice K kn kc] 71 (0, 0))) :
    Calls Try.prog 90 #[.string s, .pointer (some ⟨gb, 0, none⟩), .pointer (some ⟨gl, 0, none⟩)] w (Ret w (.int .i64 (kindC (ks.map KindR.pure) l s))) := by
  have hf := fun (w' : World) (h' : RdS w' w'.heap.size 3 KindR.cells K kn ks) => catFind_c (c := kc) (s := s) h'
  have hct := fun (w' : World) (h' : RdS w' w'.heap.size 1 strC A n l) => contains_c (c := c) (s := s) h'
  rw [contains_in] at hct
  have hkc : kindC (ks.map KindR.pure) l s = if inL l s then 3 else match findK ks s with | none => 2 | some k => if k.vehicle then 4 else 0 := by
    unfold kindC
    rw [find_pure]
    cases findK ks s <;> rfl
  rw [hkc]
  refine sp_enter (vs := [_, _, _]) Try.func90 rfl Try.ntmps90 rfl ?_
  cases hi : inL l s with
  | true =>
    rw [hi] at hct
    repeat (first|(apply spl_callp rfl;(·(repeat (first|exact eN|(apply eS;(·exact eT rfl)))));(·exact fun w' hh => hf w' (hk.hp' hh)))|(apply spl_callp rfl;(·(repeat (first|exact eN|(apply eS;(·exact eT rfl)))));(·exact fun w' hh => hct w' (hl.hp' hh)))|(apply sp_cond_t;(·exact eT rfl);(·(simp;done)))|apply then_n|apply sp_seq|apply sp_region|apply spl_nil|apply then_r|apply block_r|apply sp_ret|apply sp_block|((apply spl_pure rfl);(·(first|(apply ex_loadpartE (cs':=#[.slice K kn kc]);(·exact eT rfl);(·(exact Bk.old (by assumption) (Nat.le_refl _)));(·rfl);(·rfl))|((first|apply ex_move|apply ex_assign|apply ex_fieldAddr'|apply ex_nilCheck)<;>(first|exact eT rfl|exact eC))|((first|apply ex_loadown|apply ex_extract)<;>(first|exact eT rfl|exact Bk.old (by assumption) (Nat.le_refl _)|rfl)))))|(apply spl_alloc rfl;intro _ _)|(apply spl_stores;(·exact eT rfl);(·exact eT rfl);(·(repeat (exact Upd.here)));(·(rfl));(·(rfl));(·exact Ones.one)))
    (apply ret_ok rfl;(·((apply Res.ofOne;((apply Res1.tmp;(·rfl))))))); rfl
  | false =>
    rw [hi] at hct
    cases hfk : findK ks s with
    | none =>
      rw [hfk] at hf
      repeat (first|(apply spl_callp rfl;(·(repeat (first|exact eN|(apply eS;(·exact eT rfl)))));(·exact fun w' hh => hf w' (hk.hp' hh)))|(apply spl_callp rfl;(·(repeat (first|exact eN|(apply eS;(·exact eT rfl)))));(·exact fun w' hh => hct w' (hl.hp' hh)))|(apply sp_cond_t;(·exact eT rfl);(·(simp;done)))|(apply sp_cond_f;(·exact eT rfl);(·(simp;done)))|apply then_n|apply sp_seq|apply sp_region|apply spl_nil|apply then_r|apply block_r|apply sp_ret|apply sp_block|((apply spl_pure rfl);(·(first|(apply ex_loadpartE (cs':=#[.slice K kn kc]);(·exact eT rfl);(·(exact Bk.old (by assumption) (Nat.le_refl _)));(·rfl);(·rfl))|((first|apply ex_move|apply ex_assign|apply ex_fieldAddr'|apply ex_not|apply ex_nilCheck)<;>(first|exact eT rfl|exact eC))|((first|apply ex_loadown|apply ex_extract)<;>(first|exact eT rfl|exact Bk.old (by assumption) (Nat.le_refl _)|rfl)))))|(apply spl_alloc rfl;intro _ _)|(apply spl_stores;(·exact eT rfl);(·exact eT rfl);(·(repeat (exact Upd.here)));(·(rfl));(·(rfl));(·exact Ones.one)))
      (apply ret_ok rfl;(·((apply Res.ofOne;((apply Res1.tmp;(·rfl))))))); rfl
    | some k =>
      rw [hfk] at hf
      cases hv : k.vehicle with
      | true =>
        repeat (first|(apply spl_callp rfl;(·(repeat (first|exact eN|(apply eS;(·exact eT rfl)))));(·exact fun w' hh => hf w' (hk.hp' hh)))|(apply spl_callp rfl;(·(repeat (first|exact eN|(apply eS;(·exact eT rfl)))));(·exact fun w' hh => hct w' (hl.hp' hh)))|(apply sp_cond_t;(·exact eT rfl);(·(simp [*];done)))|(apply sp_cond_f;(·exact eT rfl);(·(simp;done)))|apply then_n|apply sp_seq|apply sp_region|apply spl_nil|apply then_r|apply block_r|apply sp_ret|apply sp_block|((apply spl_pure rfl);(·(first|(apply ex_loadpartE (cs':=#[.slice K kn kc]);(·exact eT rfl);(·(exact Bk.old (by assumption) (Nat.le_refl _)));(·rfl);(·rfl))|((first|apply ex_move|apply ex_assign|apply ex_fieldAddr'|apply ex_not|apply ex_nilCheck)<;>(first|exact eT rfl|exact eC))|((first|apply ex_loadown|apply ex_extract)<;>(first|exact eT rfl|exact Bk.own InH.mem|exact Bk.old (by assumption) (Nat.le_refl _)|rfl)))))|(apply spl_alloc rfl;intro _ _)|(apply spl_stores;(·exact eT rfl);(·exact eT rfl);(·(repeat (exact Upd.here)));(·(rfl));(·(rfl));(·exact Ones.one)))
        (apply ret_ok rfl;(·((apply Res.ofOne;((apply Res1.tmp;(·rfl))))))); simp [hv]
      | false =>
        repeat (first|(apply spl_callp rfl;(·(repeat (first|exact eN|(apply eS;(·exact eT rfl)))));(·exact fun w' hh => hf w' (hk.hp' hh)))|(apply spl_callp rfl;(·(repeat (first|exact eN|(apply eS;(·exact eT rfl)))));(·exact fun w' hh => hct w' (hl.hp' hh)))|(apply sp_cond_f;(·exact eT rfl);(·(first|(simp;done)|(simp [*];done))))|apply then_n|apply block_n|apply sp_seq|apply sp_region|apply spl_nil|apply sp_skip|apply sp_ret|apply sp_block|((apply spl_pure rfl);(·(first|(apply ex_loadpartE (cs':=#[.slice K kn kc]);(·exact eT rfl);(·(exact Bk.old (by assumption) (Nat.le_refl _)));(·rfl);(·rfl))|((first|apply ex_move|apply ex_assign|apply ex_fieldAddr'|apply ex_not|apply ex_nilCheck)<;>(first|exact eT rfl|exact eC))|((first|apply ex_loadown|apply ex_extract)<;>(first|exact eT rfl|exact Bk.own InH.mem|exact Bk.old (by assumption) (Nat.le_refl _)|rfl)))))|(apply spl_alloc rfl;intro _ _)|(apply spl_stores;(·exact eT rfl);(·exact eT rfl);(·(repeat (exact Upd.here)));(·(rfl));(·(rfl));(·exact Ones.one)))
        (apply ret_ok rfl;(·((apply Res.ofOne;((apply Res1.tmp;(·rfl))))))); simp [hv]
end Go.Proofs.Ytfdjlphfohnnnaa
/-
  What catalog.Valid asks, in plain terms.
-/
namespace Go.Proofs.Ytfdjlphfohnnnaa
open Go.RowKit Go.Sy
set_option linter.unusedVariables false
set_option linter.unusedSimpArgs false
structure LensS (s : SlotR) : Prop where
  len : s.ks.n = s.kinds.length
structure LensK (k : KindR) : Prop where
  len : k.ss.n = k.slots.length
  slots : ∀ s ∈ k.slots, LensS s
theorem inB_L (x : ByteArray) (l : List ByteArray) : inB x l = inL l x := by
  unfold inB inL
  congr 1
  funext y
  rw [decide_eq_decide]; exact eq_comm
theorem good_iff {bf : List KindR} {sn : List ByteArray} {x : ByteArray} : (!inB x sn && good bf x) = true ↔ kindC (bf.map KindR.pure) sn x = 0 := by
  rw [kindC_zero, inB_L, find_pure, Bool.and_eq_true, Bool.not_eq_true', inL_not]
  unfold good
  cases findK bf x with
  | none => simp
  | some k =>
    have : (KindR.pure k).vehicle = k.vehicle := rfl
    simp [this]
theorem kinds_iff {bf : List KindR} : ∀ (xs sn : List ByteArray), kindsOk bf sn xs = true ↔ kindsV (bf.map KindR.pure) sn xs
  | [], sn => by simp [kindsOk, kindsV]
  | x :: r, sn => by simp only [kindsOk, kindsV]; rw [Bool.and_eq_true, good_iff, kinds_iff r]
theorem slot_iff {bf : List KindR} {names : List ByteArray} {s : SlotR} (hl : LensS s) : slotV (bf.map KindR.pure) names s.pure ↔ (!inB s.name names && slotOk bf s) = true ∧ names.length < 12 := by
  have hn := hl.len
  unfold slotOk
  rw [Bool.and_eq_true, Bool.not_eq_true', Bool.and_eq_true, Bool.and_eq_true, Bool.and_eq_true, decide_eq_true_eq, decide_eq_true_eq, kinds_iff, inB_L]
  constructor
  · rintro ⟨h1, h2, h3, h4, h5, h6⟩
    simp only [SlotR.pure] at *
    exact ⟨⟨h2, ⟨h1, by omega, by omega⟩, h6⟩, h3⟩
  · rintro ⟨⟨h2, ⟨h1, h4, h5⟩, h6⟩, h3⟩
    exact ⟨h1, h2, h3, by simp only [SlotR.pure]; omega, by simp only [SlotR.pure]; omega, h6⟩
theorem slots_iff {bf : List KindR} : ∀ (ss : List SlotR) (d : List PSlot), (∀ s ∈ ss, LensS s) → (slotsV (bf.map KindR.pure) d (ss.map SlotR.pure) ↔ slotsOk bf (d.map (·.name)) ss = true ∧ (ss ≠ [] → d.length + ss.length ≤ 12))
  | [], d, _ => by simp [slotsV, slotsOk]
  | s :: r, d, hl => by
    have ih := slots_iff (bf := bf) r (d ++ [s.pure]) fun x hx => hl x (.tail _ hx)
    have hs := slot_iff (bf := bf) (names := d.map (·.name)) (hl s (.head _))
    have hm : (d ++ [s.pure]).map (·.name) = d.map (·.name) ++ [s.name] := by rw [List.map_append]; rfl
    rw [hm] at ih
    simp only [List.map_cons, slotsV, slotsOk]
    generalize (!inB s.name (d.map (·.name)) && slotOk bf s) = A at hs ⊢
    rw [hs, ih, Bool.and_eq_true, List.length_map]
    simp only [List.length_append, List.length_cons, List.length_nil]
    constructor
    · rintro ⟨⟨h1, h2⟩, h3, h4⟩
      refine ⟨⟨h1, h3⟩, fun _ => ?_⟩
      cases r with
      | nil => simp only [List.length_nil]; omega
      | cons y q => have := h4 (by simp); simp only [List.length_cons] at *; omega
    · rintro ⟨⟨h1, h3⟩, h4⟩
      have := h4 (by simp)
      exact ⟨⟨h1, by omega⟩, h3, fun _ => by omega⟩
theorem kind_iff {bf : List KindR} {k : KindR} (hl : LensK k) : kindV (bf.map KindR.pure) k.pure ↔ kindOk bf k = true ∧ bf.length < 60 := by
  have hs := slots_iff (bf := bf) k.slots [] hl.slots
  have hn := hl.len
  have hin : inL ((bf.map KindR.pure).map (·.name)) k.pure.name = !(findK bf k.name).isNone := by
    have hm : (bf.map KindR.pure).map (·.name) = bf.map (·.name) := by rw [List.map_map]; rfl
    rw [hm]
    show inL _ k.name = _
    unfold findK
    cases hf : bf.find? fun x => decide (x.name = k.name) with
    | none =>
      rw [List.find?_eq_none] at hf
      have : inL (bf.map (·.name)) k.name = false := inL_not.2 fun hm => by
        obtain ⟨x, hx, he⟩ := List.mem_map.1 hm
        have := hf x hx
        simp [he] at this
      rw [this]; rfl
    | some x =>
      have h1 := List.mem_of_find?_eq_some hf
      have h2 := List.find?_some hf
      have : inL (bf.map (·.name)) k.name = true := inL_mem.2 (List.mem_map.2 ⟨x, h1, by simpa using h2⟩)
      rw [this]; rfl
  unfold kindOk
  rw [Bool.and_eq_true, Bool.and_eq_true, Bool.and_eq_true, decide_eq_true_eq]
  constructor
  · rintro ⟨h1, h2, h3, h4⟩
    rw [hin] at h2
    obtain ⟨h5, h6⟩ := hs.1 h4
    rw [List.length_map] at h3
    refine ⟨⟨⟨by simpa using h2, h1, ?_⟩, h5⟩, h3⟩
    rw [hn]
    by_cases he : k.slots = []
    · rw [he]; simp
    · simpa using h6 he
  · rintro ⟨⟨⟨h2, h1, h7⟩, h5⟩, h3⟩
    refine ⟨h1, by rw [hin, h2]; rfl, by rw [List.length_map]; exact h3, ?_⟩
    show slotsV _ [] (k.slots.map SlotR.pure)
    exact hs.2 ⟨h5, fun _ => by simp only [List.length_nil]; omega⟩
theorem cat_iff : ∀ (ks bf : List KindR), (∀ k ∈ ks, LensK k) → (catV (bf.map KindR.pure) (ks.map KindR.pure) ↔ catOk bf ks = true ∧ (ks ≠ [] → bf.length + ks.length ≤ 60))
  | [], bf, _ => by simp [catV, catOk]
  | k :: r, bf, hl => by
    have ih := cat_iff r (bf ++ [k]) fun x hx => hl x (.tail _ hx)
    have hs := kind_iff (bf := bf) (hl k (.head _))
    have hm : (bf ++ [k]).map KindR.pure = bf.map KindR.pure ++ [k.pure] := by rw [List.map_append]; rfl
    rw [hm] at ih
    simp only [List.map_cons, catV, catOk]
    rw [hs, ih, Bool.and_eq_true]
    simp only [List.length_append, List.length_cons, List.length_nil]
    constructor
    · rintro ⟨⟨h1, h2⟩, h3, h4⟩
      refine ⟨⟨h1, h3⟩, fun _ => ?_⟩
      cases r with
      | nil => simp only [List.length_nil]; omega
      | cons y q => have := h4 (by simp); simp only [List.length_cons] at *; omega
    · rintro ⟨⟨h1, h3⟩, h4⟩
      have := h4 (by simp)
      exact ⟨⟨h1, by omega⟩, h3, fun _ => by omega⟩
theorem valid_iff {ks : List KindR} (hl : ∀ k ∈ ks, LensK k) : validB ks = true ↔ catV [] (ks.map KindR.pure) := by
  have := cat_iff ks [] hl
  rw [List.map_nil] at this
  rw [this]
  unfold validB
  rw [Bool.and_eq_true, decide_eq_true_eq]
  simp only [List.length_nil, Nat.zero_add]
  constructor
  · rintro ⟨h1, h2⟩; exact ⟨h1, fun _ => h2⟩
  · rintro ⟨h1, h2⟩
    refine ⟨h1, ?_⟩
    cases ks with
    | nil => simp
    | cons k r => exact h2 (by simp)
theorem RdKinds.lens {w : World} {Be : Nat} {s : Sl} {ks : List KindR} (h : RdKinds w Be s ks) : ∀ k ∈ ks, LensK k := fun k hk =>
  ⟨((h.2 k hk).1.len).symm, fun s hs => ⟨(((h.2 k hk).2 s hs).1.len).symm⟩⟩
theorem valid_normal {ks : List KindR} (hl : ∀ k ∈ ks, LensK k) (h : validB ks = true) : ∀ k ∈ ks, ∀ s ∈ k.slots, 1 ≤ s.normal := by
  intro k hk s hs
  have hP := (catV_all ((valid_iff hl).1 h)).2 k.pure (List.mem_map.2 ⟨k, hk, rfl⟩)
  have := (hP.slots s.pure (List.mem_map.2 ⟨s, hs, rfl⟩)).one
  simp only [SlotR.pure] at this
  omega
end Go.Proofs.Ytfdjlphfohnnnaa
