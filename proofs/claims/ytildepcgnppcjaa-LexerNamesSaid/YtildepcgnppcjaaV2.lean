/-
  The laws on tokens, in plain terms: a token alone, a token before something else; beginnings.
-/
import Derived.Test.YtildepcgnppcjaaV1
namespace Go.Proofs.Ytildepcgnppcjaa
set_option linter.unusedVariables false
set_option linter.unusedSimpArgs false

theorem takeWhile_full {p : UInt8 → Bool} {l : List UInt8} (h : (l.takeWhile p).length = l.length) : l.takeWhile p = l := by
  have := List.takeWhile_append_dropWhile (p := p) (l := l)
  have h2 := congrArg List.length this
  rw [List.length_append, h] at h2
  have h3 : l.dropWhile p = [] := List.length_eq_zero_iff.1 (by omega)
  rw [h3, List.append_nil] at this
  exact this
theorem takeWhile_idem {p : UInt8 → Bool} (l : List UInt8) : (l.takeWhile p).takeWhile p = l.takeWhile p := by
  induction l with
  | nil => rfl
  | cons c r ih =>
    cases hc : p c with
    | true => rw [List.takeWhile_cons_of_pos hc, List.takeWhile_cons_of_pos hc, ih]
    | false => rw [List.takeWhile_cons_of_neg (by rw [hc]; simp)]; rfl
theorem takeWhile_more {p : UInt8 → Bool} {l y : List UInt8} (h : l.takeWhile p = l) : (l ++ y).takeWhile p = l ++ y.takeWhile p := by
  induction l with
  | nil => rfl
  | cons c r ih =>
    cases hc : p c with
    | true =>
      rw [List.takeWhile_cons_of_pos hc] at h
      rw [List.cons_append, List.takeWhile_cons_of_pos hc, ih (List.cons.inj h).2]
      rfl
    | false => rw [List.takeWhile_cons_of_neg (by rw [hc]; simp)] at h; cases h
theorem dropWhile_more {p : UInt8 → Bool} {l y : List UInt8} (h : l.takeWhile p = l) : (l ++ y).dropWhile p = y.dropWhile p := by
  induction l with
  | nil => rfl
  | cons c r ih =>
    cases hc : p c with
    | true =>
      rw [List.takeWhile_cons_of_pos hc] at h
      rw [List.cons_append, List.dropWhile_cons_of_pos hc, ih (List.cons.inj h).2]
    | false => rw [List.takeWhile_cons_of_neg (by rw [hc]; simp)] at h; cases h
theorem headIs_nil {p : UInt8 → Bool} : headIs p [] = false := rfl
theorem dropWhile_head {p : UInt8 → Bool} {l : List UInt8} (h : headIs p l = false) : l.dropWhile p = l := by
  cases l with
  | nil => rfl
  | cons c r =>
    have : p c = false := by simpa [headIs] using h
    rw [List.dropWhile_cons_of_neg (by rw [this]; simp)]
theorem headIs_digit {l : List UInt8} (h : headIs isWord l = false) : headIs isDigit l = false := by
  cases l with
  | nil => rfl
  | cons c r =>
    have h1 : isWord c = false := by simpa [headIs] using h
    have : isDigit c = false := by
      cases hd : isDigit c with
      | false => rfl
      | true => rw [isWord, hd] at h1; simp at h1
    simpa [headIs] using this
theorem headIs_take {p : UInt8 → Bool} {l : List UInt8} {j : Nat} (h : headIs p l = false) : headIs p (l.take j) = false := by
  cases l with
  | nil => rw [List.take_nil]; rfl
  | cons c r =>
    cases j with
    | zero => rfl
    | succ j => rw [List.take_succ_cons]; simpa [headIs] using h
theorem headIs_drop {p : UInt8 → Bool} (l : List UInt8) : headIs p (l.dropWhile p) = false := by
  induction l with
  | nil => rfl
  | cons c r ih =>
    cases hc : p c with
    | true => rw [List.dropWhile_cons_of_pos hc]; exact ih
    | false => rw [List.dropWhile_cons_of_neg (by rw [hc]; simp)]; simpa [headIs] using hc
theorem unqL_cut : ∀ (l : List UInt8) (s : List UInt8) (n : Nat), unqL l = some (s, n) → unqL (l.take n) = some (s, n)
  | [], s, n, h => by simp [unqL] at h
  | c :: r, s, n, h => by
    by_cases h1 : c.toNat = 34
    · rw [uq_q h1] at h
      cases h
      rw [List.take_succ_cons, uq_q h1]
    · by_cases h2 : c.toNat = 10
      · rw [uq_nl h1 h2] at h; cases h
      · by_cases h3 : c.toNat = 92
        · cases r with
          | nil => rw [uq_b0 h3] at h; cases h
          | cons d r' =>
            rw [uq_b h3] at h
            cases he : escOf d with
            | none => rw [he] at h; cases h
            | some e =>
              rw [he] at h
              simp only at h
              obtain ⟨p, hp, hq⟩ := Option.map_eq_some_iff.1 h
              cases hq
              rw [List.take_succ_cons, List.take_succ_cons, uq_b h3, he]
              simp only
              rw [unqL_cut r' p.1 p.2 hp]
              rfl
        · rw [uq_c h1 h2 h3] at h
          obtain ⟨p, hp, hq⟩ := Option.map_eq_some_iff.1 h
          cases hq
          rw [List.take_succ_cons, uq_c h1 h2 h3, unqL_cut r p.1 p.2 hp]
          rfl
/-- What may stand behind a token. -/
def Ends (k : Nat) (y : List UInt8) : Prop := (k = 1 ∨ k = 2) → headIs isWord y = false
theorem cons_take {c : UInt8} {r : List UInt8} {n : Nat} (h : 1 ≤ n) : c :: r.take (n - 1) = (c :: r).take n := by
  obtain ⟨m, rfl⟩ : ∃ m, n = m + 1 := ⟨n - 1, by omega⟩
  rw [List.take_succ_cons]; rfl
theorem cons_drop {c : UInt8} {r : List UInt8} {n : Nat} (h : 1 ≤ n) : r.drop (n - 1) = (c :: r).drop n := by
  obtain ⟨m, rfl⟩ : ∃ m, n = m + 1 := ⟨n - 1, by omega⟩
  rw [List.drop_succ_cons]; rfl
theorem tokC_word {c : UInt8} {r : List UInt8} (h : isLetter c = true) : tokC c r = if 24 < ((c :: r).takeWhile isWord).length then .err 7 else .tok 1 ((c :: r).takeWhile isWord) ((c :: r).takeWhile isWord).length := by
  unfold tokC; rw [if_pos h]
theorem tokC_digit {c : UInt8} {r : List UInt8} (h : isLetter c = false) (h2 : isDigit c = true) : tokC c r = if 7 < ((c :: r).takeWhile isDigit).length ∨ headIs isWord ((c :: r).dropWhile isDigit) = true then .err 11 else .tok 2 ((c :: r).takeWhile isDigit) ((c :: r).takeWhile isDigit).length := by
  unfold tokC; rw [if_neg (by rw [h]; simp), if_pos h2]; rfl
theorem tokC_quote {c : UInt8} {r : List UInt8} (h : isLetter c = false) (h2 : isDigit c = false) (h3 : c.toNat = 34) : tokC c r = match unqL r with | some p => .tok 3 p.1 (p.2 + 1) | none => .err 10 := by
  unfold tokC; rw [if_neg (by rw [h]; simp), if_neg (by rw [h2]; simp), if_pos h3]; rfl
theorem tokC_sym {c : UInt8} {r : List UInt8} (h : isLetter c = false) (h2 : isDigit c = false) (h3 : ¬ c.toNat = 34) : tokC c r = if isSym c then .tok 4 [c] 1 else .err 10 := by
  unfold tokC; rw [if_neg (by rw [h]; simp), if_neg (by rw [h2]; simp), if_neg h3]
/-- The token alone; what stands behind it. -/
theorem tokC_cut {c : UInt8} {r : List UInt8} {k n : Nat} {s : List UInt8} (h : tokC c r = .tok k s n) : tokC c (r.take (n - 1)) = .tok k s n ∧ Ends k (r.drop (n - 1)) := by
  have hn := tokL_len c r k s n h
  have e1 := cons_take (c := c) (r := r) hn.1
  have e2 := cons_drop (c := c) (r := r) hn.1
  cases h1 : isLetter c with
  | true =>
    rw [tokC_word h1] at h ⊢
    rw [e1]
    split at h
    · cases h
    · rename_i h24
      cases h
      rw [takeWhile_take, takeWhile_idem, if_neg h24]
      refine ⟨rfl, fun _ => ?_⟩
      rw [e2, ← dropWhile_drop]
      exact headIs_drop _
  | false =>
    cases h2 : isDigit c with
    | true =>
      rw [tokC_digit h1 h2] at h ⊢
      rw [e1]
      split at h
      · cases h
      · rename_i hE
        cases h
        have h7 : ¬ 7 < ((c :: r).takeWhile isDigit).length := fun h => hE (.inl h)
        have hd : headIs isWord (((c :: r).takeWhile isDigit).dropWhile isDigit) = false := by
          rw [dropWhile_drop, takeWhile_idem, List.drop_length]; rfl
        rw [takeWhile_take, takeWhile_idem, if_neg (by rw [hd]; simp; omega)]
        refine ⟨rfl, fun _ => ?_⟩
        rw [e2, ← dropWhile_drop]
        cases hh : headIs isWord ((c :: r).dropWhile isDigit) with
        | false => rfl
        | true => exact (hE (.inr hh)).elim
    | false =>
      by_cases h3 : c.toNat = 34
      · rw [tokC_quote h1 h2 h3] at h ⊢
        cases hu : unqL r with
        | none => rw [hu] at h; cases h
        | some p =>
          rw [hu] at h
          cases h
          rw [Nat.add_sub_cancel, unqL_cut r p.1 p.2 hu]
          exact ⟨rfl, fun h => by rcases h with h | h <;> cases h⟩
      · rw [tokC_sym h1 h2 h3] at h ⊢
        split at h
        · rename_i hs
          cases h
          rw [if_pos hs]
          exact ⟨rfl, fun h => by rcases h with h | h <;> cases h⟩
        · cases h
/-- A token before something that may stand there. -/
theorem tokC_ext {c : UInt8} {u y : List UInt8} {k n : Nat} {s : List UInt8} (h : tokC c u = .tok k s n) (hn : n = u.length + 1) (hE : Ends k y) : tokC c (u ++ y) = .tok k s n := by
  cases h1 : isLetter c with
  | true =>
    rw [tokC_word h1] at h ⊢
    split at h
    · cases h
    · rename_i h24
      cases h
      have hf := takeWhile_full (p := isWord) (l := c :: u) hn
      rw [← List.cons_append, takeWhile_more hf, takeWhile_head (hE (.inl rfl)), List.append_nil]
      rw [hf] at h24 ⊢
      rw [if_neg h24]
  | false =>
    cases h2 : isDigit c with
    | true =>
      rw [tokC_digit h1 h2] at h ⊢
      split at h
      · cases h
      · rename_i hE'
        cases h
        have hw := hE (.inr rfl)
        have hdg := headIs_digit hw
        have hf := takeWhile_full (p := isDigit) (l := c :: u) hn
        have h7 : ¬ 7 < (c :: u).length := fun h => hE' (.inl (by rw [hf]; exact h))
        rw [← List.cons_append, takeWhile_more hf, takeWhile_head hdg, List.append_nil, dropWhile_more hf, dropWhile_head hdg, if_neg (by rw [hw]; simp only [Bool.false_eq_true, or_false]; exact h7), hf]
    | false =>
      by_cases h3 : c.toNat = 34
      · rw [tokC_quote h1 h2 h3] at h ⊢
        cases hu : unqL u with
        | none => rw [hu] at h; cases h
        | some p => rw [hu] at h; rw [unqL_some u p.1 p.2 y hu]; exact h
      · rw [tokC_sym h1 h2 h3] at h ⊢
        exact h
/-- A token in a part of the text that has it. -/
theorem tokC_take {c : UInt8} {r : List UInt8} {k n j : Nat} {s : List UInt8} (h : tokC c r = .tok k s n) (hj : n ≤ j) : tokC c (r.take (j - 1)) = .tok k s n := by
  obtain ⟨h1, h2⟩ := tokC_cut h
  have hn := tokL_len c r k s n h
  have hs : r.take (j - 1) = r.take (n - 1) ++ (r.drop (n - 1)).take (j - n) := by
    rw [← List.take_append_drop (n - 1) (r.take (j - 1)), List.take_take, List.drop_take]
    congr 2
    · omega
    · omega
  rw [hs]
  refine tokC_ext h1 ?_ fun hk => headIs_take (h2 hk)
  rw [List.length_take]
  simp only [List.length_cons] at hn
  omega
/-- What is skipped before a token. -/
theorem skipM_g : ∀ (b : Bool) (g : List UInt8) (c : UInt8) (r : List UInt8), skipM b (g ++ c :: r) = c :: r → (∀ r', skipM b (g ++ c :: r') = c :: r') ∧ skipM b g = []
  | true, [], c, r, h => by
    have h1 := skipM_le true r
    have h2 := skipM_le false r
    have h3 := congrArg List.length h
    simp only [List.nil_append, skipM, List.length_cons] at h3
    split at h3 <;> omega
  | false, [], c, r, h => by
    obtain ⟨h1, h2⟩ := skipM_head _ _ _ _ h
    exact ⟨fun r' => skipM_cons h1 h2, rfl⟩
  | true, x :: g, c, r, h => by
    simp only [List.cons_append, skipM] at h ⊢
    split at h
    · rename_i hx
      simp only [if_pos hx]
      exact skipM_g false g c r h
    · rename_i hx
      simp only [if_neg hx]
      exact skipM_g true g c r h
  | false, x :: g, c, r, h => by
    simp only [List.cons_append, skipM] at h ⊢
    split at h
    · rename_i hx
      simp only [if_pos hx]
      exact skipM_g false g c r h
    · rename_i hx
      simp only [if_neg hx]
      split at h
      · rename_i h35
        simp only [if_pos h35]
        exact skipM_g true g c r h
      · have := congrArg List.length h
        simp at this
        omega
theorem lexN_begin (e p : Nat) (l : List UInt8) (a : Nat) : (lexN l a).2 = some (e, p) → (lexN (l.take (p - a)) a).2 = none ∧ lexN (l.drop (p - a)) 0 = ([], some (e, 0)) := by
  refine lexN_ind (P := fun l a => (lexN l a).2 = some (e, p) → (lexN (l.take (p - a)) a).2 = none ∧ lexN (l.drop (p - a)) 0 = ([], some (e, 0))) (fun l a h => ?_) (fun l a c r e' hs ht => ?_) (fun l a c r k s n hs ht ih => ?_) l.length l a (Nat.le_refl _)
  · rw [lexN_nil h]; intro h; cases h
  · obtain ⟨g, hg⟩ := skipM_suffix false l
    rw [hs] at hg
    rw [lexN_err hs ht]
    intro h
    cases h
    have hl : a + (l.length - (c :: r).length) - a = g.length := by rw [hg]; simp only [List.length_append, List.length_cons]; omega
    rw [hl]
    have hsg := skipM_g false g c r (by rw [← hg]; exact hs)
    rw [hg, List.take_left, List.drop_left]
    refine ⟨by rw [lexN_nil hsg.2], ?_⟩
    rw [lexN_err (skipM_idem hs) ht, Nat.sub_self]
  · obtain ⟨g, hg⟩ := skipM_suffix false l
    rw [hs] at hg
    have hsg := skipM_g false g c r (by rw [← hg]; exact hs)
    have hn := tokL_len c r k s n ht
    have hgl : l.length - (c :: r).length = g.length := by rw [hg]; simp
    rw [lexN_tok hs ht]
    intro h
    have hp := lexN_errpos _ _ _ _ h
    obtain ⟨ih1, ih2⟩ := ih h
    rw [hgl] at hp ih1 ih2
    obtain ⟨j, hj⟩ : ∃ j, p = a + g.length + j := ⟨p - a - g.length, by omega⟩
    subst hj
    have hjn : n ≤ j := by omega
    have h1j : 1 ≤ j := by omega
    have e0 : a + g.length + j - a = g.length + j := by omega
    have e1 : a + g.length + j - (a + g.length + n) = j - n := by omega
    rw [e1] at ih1 ih2
    rw [e0]
    have ht1 : l.take (g.length + j) = g ++ c :: r.take (j - 1) := by rw [hg, List.take_append, List.take_of_length_le (by omega), Nat.add_sub_cancel_left, cons_take h1j]
    have hd1 : l.drop (g.length + j) = ((c :: r).drop n).drop (j - n) := by rw [hg, List.drop_append, List.drop_eq_nil_of_le (by omega), Nat.add_sub_cancel_left, List.nil_append, List.drop_drop]; congr 1; omega
    refine ⟨?_, by rw [hd1]; exact ih2⟩
    rw [ht1, lexN_tok (hsg.1 _) (tokC_take ht hjn)]
    have e2 : (g ++ c :: r.take (j - 1)).length - (c :: r.take (j - 1)).length = g.length := by simp
    rw [e2]
    have e3 : (c :: r.take (j - 1)).drop n = ((c :: r).drop n).take (j - n) := by rw [cons_take h1j, List.drop_take]
    rw [e3]
    exact ih1
/-! ### What Lex hands back for a short text -/
theorem lexR_none {t : ByteArray} (ht : t.size ≤ 5000) (h : (lexN (tx t) 0).2 = none) : lexR t = ((lexN (tx t) 0).1, 0, 0) := by
  have hc := lexN_count (tx t) 0
  rw [tx_len] at hc
  unfold lexR
  rw [if_neg (by omega), lexA_N, List.getElem?_eq_none (by omega), h]
theorem lexR_some {t : ByteArray} (ht : t.size ≤ 5000) {e p : Nat} (h : (lexN (tx t) 0).2 = some (e, p)) : lexR t = ([], (e : Int), (p : Int)) := by
  have hc := lexN_count (tx t) 0
  rw [tx_len] at hc
  unfold lexR
  rw [if_neg (by omega), lexA_N, List.getElem?_eq_none (by omega), h]
theorem begin_law {t : ByteArray} (ht : t.size ≤ 5000) {e p : Nat} (h : (lexN (tx t) 0).2 = some (e, p)) : p < t.size ∧ e ≠ 0 ∧ (∃ l, lexR (t.extract 0 p) = (l, 0, 0)) ∧ lexR (t.extract p t.size) = ([], (e : Int), 0) := by
  have hp := lexN_errpos _ _ _ _ h
  rw [tx_len, Nat.zero_add] at hp
  obtain ⟨h1, h2⟩ := lexN_begin _ _ _ _ h
  rw [Nat.sub_zero] at h1 h2
  have e1 : tx (t.extract 0 p) = (tx t).take p := by rw [tx_extract]; rfl
  have e2 : tx (t.extract p t.size) = (tx t).drop p := by rw [tx_extract, List.take_of_length_le (by rw [tx_len]; exact Nat.le_refl _)]
  refine ⟨hp.2.1, hp.2.2, ⟨_, lexR_none (by rw [ByteArray.size_extract]; omega) (by rw [e1]; exact h1)⟩, ?_⟩
  exact lexR_some (by rw [ByteArray.size_extract]; omega) (by rw [e2, h2])
end Go.Proofs.Ytildepcgnppcjaa
