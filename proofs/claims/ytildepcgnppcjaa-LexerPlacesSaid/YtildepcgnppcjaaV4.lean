/-
  The laws on tokens, in plain terms: tokens written and read again; places; gaps.
-/
import Derived.Test.YtildepcgnppcjaaV3
namespace Go.Proofs.Ytildepcgnppcjaa
set_option linter.unusedVariables false
set_option linter.unusedSimpArgs false

/-- How a token is written. -/
def writ (k : Nat) (s : List UInt8) : List UInt8 := if k = 3 then quoteL s else s
def writT (x : Tk) : List UInt8 := writ x.kind (tx x.text)
def wrL (l : List Tk) : List UInt8 := l.flatMap fun x => writT x ++ [32]
/-- What a string in quotes took. -/
theorem unqL_inv : ∀ (l : List UInt8) (s : List UInt8) (n : Nat), unqL l = some (s, n) → l.take n = s.flatMap escB ++ [34]
  | [], s, n, h => by simp [unqL] at h
  | c :: r, s, n, h => by
    by_cases h1 : c.toNat = 34
    · rw [uq_q h1] at h
      cases h
      have : c = 34 := UInt8.toNat.inj (by rw [h1]; rfl)
      subst this; rfl
    · by_cases h2 : c.toNat = 10
      · rw [uq_nl h1 h2] at h; cases h
      · by_cases h3 : c.toNat = 92
        · have hc : c = 92 := UInt8.toNat.inj (by rw [h3]; rfl)
          subst hc
          cases r with
          | nil => rw [uq_b0 h3] at h; cases h
          | cons d r' =>
            rw [uq_b h3] at h
            cases he : escOf d with
            | none => rw [he] at h; cases h
            | some e =>
              rw [he] at h
              simp only at h
              obtain ⟨p, hp, hq⟩ := Option.map_eq_some_iff.1 h
              cases hq
              rw [List.take_succ_cons, List.take_succ_cons, unqL_inv r' p.1 p.2 hp, List.flatMap_cons]
              have : escB e = [92, d] := by
                unfold escOf at he
                split at he
                · rename_i hd
                  cases he
                  have : d = 92 := UInt8.toNat.inj (by rw [hd]; rfl)
                  subst this; rfl
                · split at he
                  · rename_i hd
                    cases he
                    have : d = 34 := UInt8.toNat.inj (by rw [hd]; rfl)
                    subst this; rfl
                  · split at he
                    · rename_i hd
                      cases he
                      have : d = 110 := UInt8.toNat.inj (by rw [hd]; rfl)
                      subst this; rfl
                    · cases he
              rw [this]; rfl
        · rw [uq_c h1 h2 h3] at h
          obtain ⟨p, hp, hq⟩ := Option.map_eq_some_iff.1 h
          cases hq
          rw [List.take_succ_cons, unqL_inv r p.1 p.2 hp, List.flatMap_cons]
          have : escB c = [c] := by unfold escB; rw [if_neg h2, if_neg (by omega)]
          rw [this]; rfl
/-- A token stands as it is written. -/
theorem tokC_writ {c : UInt8} {r : List UInt8} {k n : Nat} {s : List UInt8} (h : tokC c r = .tok k s n) : (c :: r).take n = writ k s ∧ (writ k s).length = n := by
  have hn := tokL_len c r k s n h
  have key : (c :: r).take n = writ k s := by
    cases h1 : isLetter c with
    | true =>
      rw [tokC_word h1] at h
      split at h
      · cases h
      · cases h; exact takeWhile_take _
    | false =>
      cases h2 : isDigit c with
      | true =>
        rw [tokC_digit h1 h2] at h
        split at h
        · cases h
        · cases h; exact takeWhile_take _
      | false =>
        by_cases h3 : c.toNat = 34
        · rw [tokC_quote h1 h2 h3] at h
          cases hu : unqL r with
          | none => rw [hu] at h; cases h
          | some p =>
            rw [hu] at h
            cases h
            have hc : c = 34 := UInt8.toNat.inj (by rw [h3]; rfl)
            subst hc
            rw [List.take_succ_cons, unqL_inv r p.1 p.2 hu]; rfl
        · rw [tokC_sym h1 h2 h3] at h
          split at h
          · cases h; rfl
          · cases h
  refine ⟨key, ?_⟩
  rw [← key, List.length_take]; omega
/-- A token, written, before something that may stand there. -/
theorem tokC_again {c : UInt8} {r y : List UInt8} {k n : Nat} {s : List UInt8} (h : tokC c r = .tok k s n) (hy : Ends k y) : ∃ u, writ k s = c :: u ∧ u.length + 1 = n ∧ tokC c (u ++ y) = .tok k s n := by
  obtain ⟨h1, h2⟩ := tokC_writ h
  have hn := tokL_len c r k s n h
  refine ⟨r.take (n - 1), ?_, ?_, ?_⟩
  · rw [← h1, cons_take hn.1]
  · rw [List.length_take]; simp only [List.length_cons] at hn; omega
  · refine tokC_ext (tokC_cut h).1 ?_ hy
    rw [List.length_take]; simp only [List.length_cons] at hn; omega
theorem lexN_writ {c : UInt8} {r y : List UInt8} {k n a : Nat} {s : List UInt8} (h1 : isBlank c = false) (h2 : ¬ c.toNat = 35) (h : tokC c r = .tok k s n) (hy : Ends k y) :
    lexN (writ k s ++ y) a = (⟨k, ofL s, a⟩ :: (lexN y (a + n)).1, (lexN y (a + n)).2) := by
  obtain ⟨u, e1, e2, e3⟩ := tokC_again h hy
  rw [e1, List.cons_append, lexN_tok (skipM_cons h1 h2) e3, ← List.cons_append]
  have : (c :: u ++ y).drop n = y := by rw [← e2, List.cons_append, List.drop_succ_cons, List.drop_left]
  rw [this, Nat.sub_self, Nat.add_zero]
theorem ends_blank {k : Nat} {x : UInt8} {m : List UInt8} (hx : isWord x = false) : Ends k (x :: m) := fun _ => by simpa [headIs] using hx
theorem lexN_blank (m : List UInt8) (a : Nat) : lexN (32 :: m) a = lexN m (a + 1) := lexN_skip (d := 1) (by simp [skipM, show isBlank 32 = true from by decide]) rfl
theorem lexN_again (l : List UInt8) (a : Nat) : (lexN l a).2 = none → ∀ b, (lexN (wrL (lexN l a).1) b).2 = none ∧ (lexN l a).1.map (fun x => (x.kind, x.text)) = (lexN (wrL (lexN l a).1) b).1.map (fun x => (x.kind, x.text)) := by
  refine lexN_ind (P := fun l a => (lexN l a).2 = none → ∀ b, (lexN (wrL (lexN l a).1) b).2 = none ∧ (lexN l a).1.map (fun x => (x.kind, x.text)) = (lexN (wrL (lexN l a).1) b).1.map (fun x => (x.kind, x.text)))
    (fun l a h => ?_) (fun l a c r e hs ht => ?_) (fun l a c r k s n hs ht ih => ?_) l.length l a (Nat.le_refl _)
  · rw [lexN_nil h]
    intro _ b
    rw [show wrL ([] : List Tk) = [] from rfl, lexN_nil rfl]
    exact ⟨rfl, rfl⟩
  · rw [lexN_err hs ht]; intro h; cases h
  · obtain ⟨h1, h2⟩ := skipM_head _ _ _ _ hs
    rw [lexN_tok hs ht]
    intro h b
    have e : wrL (⟨k, ofL s, a + (l.length - (c :: r).length)⟩ :: (lexN ((c :: r).drop n) (a + (l.length - (c :: r).length) + n)).1) = writ k s ++ (32 :: wrL (lexN ((c :: r).drop n) (a + (l.length - (c :: r).length) + n)).1) := by
      simp only [wrL, List.flatMap_cons, writT, tx_ofL, List.append_assoc]; rfl
    rw [e, lexN_writ h1 h2 ht (ends_blank (by decide)), lexN_blank]
    obtain ⟨i1, i2⟩ := ih h (b + n + 1)
    exact ⟨i1, by simp only [List.map_cons, i2]⟩
/-- Where tokens stand. -/
theorem lexN_pos (l : List UInt8) (a : Nat) : ∀ x ∈ (lexN l a).1, x.pos < a + l.length ∧ (writT x).length ≤ l.length := by
  refine lexN_ind (P := fun l a => ∀ x ∈ (lexN l a).1, x.pos < a + l.length ∧ (writT x).length ≤ l.length) (fun l a h => ?_) (fun l a c r e hs ht => ?_) (fun l a c r k s n hs ht ih => ?_) l.length l a (Nat.le_refl _)
  · rw [lexN_nil h]; intro x h; cases h
  · rw [lexN_err hs ht]; intro x h; cases h
  · obtain ⟨h3, h4⟩ := tokL_len c r k s n ht
    have hle := skipM_le false l
    rw [hs] at hle
    rw [lexN_tok hs ht]
    intro x hx
    cases hx with
    | head =>
      have := (tokC_writ ht).2
      simp only [writT, tx_ofL, this]
      simp only [List.length_cons] at *
      omega
    | tail _ hx =>
      have := ih x hx
      rw [List.length_drop] at this
      simp only [List.length_cons] at *
      omega
/-- The tokens, written with a blank after each, have no more than twice the bytes. -/
theorem wrL_len (l : List UInt8) (a : Nat) : (wrL (lexN l a).1).length ≤ 2 * l.length := by
  refine lexN_ind (P := fun l a => (wrL (lexN l a).1).length ≤ 2 * l.length) (fun l a h => ?_) (fun l a c r e hs ht => ?_) (fun l a c r k s n hs ht ih => ?_) l.length l a (Nat.le_refl _)
  · rw [lexN_nil h]; exact Nat.zero_le _
  · rw [lexN_err hs ht]; exact Nat.zero_le _
  · obtain ⟨h3, h4⟩ := tokL_len c r k s n ht
    have hle := skipM_le false l
    rw [hs] at hle
    rw [lexN_tok hs ht]
    have e : wrL (⟨k, ofL s, a + (l.length - (c :: r).length)⟩ :: (lexN ((c :: r).drop n) (a + (l.length - (c :: r).length) + n)).1) = writ k s ++ (32 :: wrL (lexN ((c :: r).drop n) (a + (l.length - (c :: r).length) + n)).1) := by
      simp only [wrL, List.flatMap_cons, writT, tx_ofL, List.append_assoc]; rfl
    have := (tokC_writ ht).2
    rw [e, List.length_append, List.length_cons, this]
    rw [List.length_drop] at ih
    simp only [List.length_cons] at *
    omega
/-- Places: each token stands behind the one before, as it is written, and only gaps are between. -/
def PlaceL (t : List UInt8) : List Tk → Nat → Prop
  | [], e => e ≤ t.length ∧ skipM false (t.drop e) = []
  | x :: r, e => e ≤ x.pos ∧ 1 ≤ (writT x).length ∧ x.pos + (writT x).length ≤ t.length ∧ (t.take (x.pos + (writT x).length)).drop x.pos = writT x ∧ skipM false ((t.take x.pos).drop e) = [] ∧ PlaceL t r (x.pos + (writT x).length)
theorem lexN_place (t : List UInt8) (l : List UInt8) (a : Nat) : t.drop a = l → a ≤ t.length → (lexN l a).2 = none → PlaceL t (lexN l a).1 a := by
  refine lexN_ind (P := fun l a => t.drop a = l → a ≤ t.length → (lexN l a).2 = none → PlaceL t (lexN l a).1 a) (fun l a h => ?_) (fun l a c r e hs ht => ?_) (fun l a c r k s n hs ht ih => ?_) l.length l a (Nat.le_refl _)
  · intro hd ha _
    rw [lexN_nil h]
    exact ⟨ha, by rw [hd]; exact h⟩
  · intro _ _
    rw [lexN_err hs ht]; intro h; cases h
  · intro hd ha
    obtain ⟨h3, h4⟩ := tokL_len c r k s n ht
    obtain ⟨g, hg⟩ := skipM_suffix false l
    rw [hs] at hg
    have hgl : l.length - (c :: r).length = g.length := by rw [hg]; simp
    have hsg := skipM_g false g c r (by rw [← hg]; exact hs)
    obtain ⟨w1, w2⟩ := tokC_writ ht
    have hlen : t.length = a + g.length + (c :: r).length := by
      have := congrArg List.length hd
      rw [List.length_drop, hg, List.length_append] at this
      omega
    rw [lexN_tok hs ht, hgl]
    intro h
    have hd2 : t.drop (a + g.length) = c :: r := by rw [← List.drop_drop, hd, hg, List.drop_left]
    rw [hgl] at ih
    have hW : writT ⟨k, ofL s, a + g.length⟩ = writ k s := by simp only [writT, tx_ofL]
    refine ⟨Nat.le_add_right _ _, by rw [hW, w2]; exact h3, by rw [hW, w2]; show a + g.length + n ≤ _; omega, ?_, ?_, ?_⟩
    · rw [hW, w2]
      show (t.take (a + g.length + n)).drop (a + g.length) = _
      rw [List.drop_take, hd2, Nat.add_sub_cancel_left, w1]
    · show skipM false ((t.take (a + g.length)).drop a) = []
      rw [List.drop_take, hd, Nat.add_sub_cancel_left, hg, List.take_left]
      exact hsg.2
    · rw [hW, w2]
      exact ih (by rw [← List.drop_drop, hd2]) (by omega) h
/-! ### Gaps put in -/
theorem gap_head {g y : List UInt8} {x : UInt8} (hx : x.toNat = 10) (h : skipM false g = []) : headIs isWord (g ++ x :: y) = false := by
  cases g with
  | nil => simpa [headIs] using (word_nl hx).1
  | cons c r =>
    rw [List.cons_append]
    have hc : isBlank c = true ∨ c.toNat = 35 := by
      simp only [skipM] at h
      split at h
      · rename_i hb; exact .inl hb
      · split at h
        · rename_i h35; exact .inr h35
        · cases h
    have : isWord c = false := by
      cases hw : isWord c with
      | false => rfl
      | true =>
        exfalso
        simp only [isWord, Bool.or_eq_true, decide_eq_true_iff] at hw
        rcases hw with (hw | hw) | hw
        · obtain ⟨q1, q2⟩ := letter_gap hw
          rcases hc with hc | hc
          · rw [q1] at hc; cases hc
          · exact q2 hc
        · obtain ⟨q1, q2, -⟩ := digit_gap hw
          rcases hc with hc | hc
          · rw [q1] at hc; cases hc
          · exact q2 hc
        · rcases hc with hc | hc
          · rw [isBlank_iff] at hc; omega
          · omega
    simpa [headIs] using this
theorem skipM_gap {g y : List UInt8} {x : UInt8} (hx : x.toNat = 10) (h : skipM false g = []) : skipM false (g ++ x :: y) = skipM false y := by
  have := skipM_nl false g x y hx
  rw [h] at this
  exact this
/-- Gaps with a line feed before a text. -/
theorem lexN_gap {g y : List UInt8} {x : UInt8} (hx : x.toNat = 10) (h : skipM false g = []) (a : Nat) : lexN (g ++ x :: y) a = lexN y (a + (g.length + 1)) :=
  lexN_skip (skipM_gap hx h) (by simp; omega)
def kt (x : Tk) : Nat × ByteArray := (x.kind, x.text)
theorem lexN_kt (l : List UInt8) (a b : Nat) : (lexN l a).1.map kt = (lexN l b).1.map kt ∧ ((lexN l a).2 = none ↔ (lexN l b).2 = none) := by
  have key : ∀ d, (lexN l d).1.map kt = (lexN l 0).1.map kt ∧ ((lexN l d).2 = none ↔ (lexN l 0).2 = none) := by
    intro d
    have := lexN_shift d l 0
    rw [Nat.zero_add] at this
    rw [this]
    simp [kt, shiftT, Function.comp_def]
  exact ⟨(key a).1.trans (key b).1.symm, (key a).2.trans (key b).2.symm⟩
/-- .. behind one of its tokens. -/
theorem lexN_mid {g : List UInt8} {x : UInt8} (hx : x.toNat = 10) (hg0 : skipM false g = []) (l : List UInt8) (a : Nat) : (lexN l a).2 = none → ∀ (i : Nat) (tk : Tk), (lexN l a).1[i]? = some tk →
    ∃ j, tk.pos + (writT tk).length = a + j ∧ j ≤ l.length ∧ ∀ b, (lexN (l.take j ++ (g ++ x :: l.drop j)) b).2 = none ∧ (lexN (l.take j ++ (g ++ x :: l.drop j)) b).1.map kt = (lexN l a).1.map kt := by
  refine lexN_ind (P := fun l a => (lexN l a).2 = none → ∀ (i : Nat) (tk : Tk), (lexN l a).1[i]? = some tk →
    ∃ j, tk.pos + (writT tk).length = a + j ∧ j ≤ l.length ∧ ∀ b, (lexN (l.take j ++ (g ++ x :: l.drop j)) b).2 = none ∧ (lexN (l.take j ++ (g ++ x :: l.drop j)) b).1.map kt = (lexN l a).1.map kt) (fun l a h => ?_) (fun l a c r e hs ht => ?_) (fun l a c r k s n hs ht ih => ?_) l.length l a (Nat.le_refl _)
  · rw [lexN_nil h]; intro _ i tk h; simp at h
  · rw [lexN_err hs ht]; intro h; cases h
  · obtain ⟨h3, h4⟩ := tokL_len c r k s n ht
    obtain ⟨g0, hg⟩ := skipM_suffix false l
    rw [hs] at hg
    have hgl : l.length - (c :: r).length = g0.length := by rw [hg]; simp
    have hsg := skipM_g false g0 c r (by rw [← hg]; exact hs)
    obtain ⟨w1, w2⟩ := tokC_writ ht
    rw [lexN_tok hs ht, hgl]
    rw [hgl] at ih
    intro h i tk hi
    have hlen : l.length = g0.length + (c :: r).length := by rw [hg, List.length_append]
    -- the text up to a place behind this token
    have hpre : ∀ j, n ≤ j → l.take (g0.length + j) = g0 ++ (c :: r).take j ∧ l.drop (g0.length + j) = (c :: r).drop j := by
      intro j hj
      rw [hg]
      constructor
      · rw [List.take_append, List.take_of_length_le (by omega), Nat.add_sub_cancel_left]
      · rw [List.drop_append, List.drop_eq_nil_of_le (by omega), Nat.add_sub_cancel_left, List.nil_append]
    cases i with
    | zero =>
      simp only [List.getElem?_cons_zero, Option.some.injEq] at hi
      subst hi
      refine ⟨g0.length + n, by simp only [writT, tx_ofL, w2]; omega, by omega, fun b => ?_⟩
      obtain ⟨p1, p2⟩ := hpre n (Nat.le_refl _)
      have hE : Ends k (g ++ x :: (c :: r).drop n) := fun _ => gap_head hx hg0
      obtain ⟨u, e1, e2, e3⟩ := tokC_again ht hE
      rw [p1, p2, w1, e1, List.append_assoc, List.cons_append, lexN_tok (hsg.1 _) e3]
      have hd : (c :: (u ++ (g ++ x :: (c :: r).drop n))).drop n = g ++ x :: (c :: r).drop n := by rw [← e2, List.drop_succ_cons, List.drop_left]
      rw [hd, lexN_gap hx hg0]
      have hk := lexN_kt ((c :: r).drop n) (b + ((g0 ++ c :: (u ++ (g ++ x :: (c :: r).drop n))).length - (c :: (u ++ (g ++ x :: (c :: r).drop n))).length) + n + (g.length + 1)) (a + g0.length + n)
      exact ⟨hk.2.2 h, by simp only [List.map_cons, hk.1]; rfl⟩
    | succ i =>
      simp only [List.getElem?_cons_succ] at hi
      obtain ⟨j, q1, q2, q3⟩ := ih h i tk hi
      rw [List.length_drop] at q2
      refine ⟨g0.length + (n + j), by rw [q1]; omega, by omega, fun b => ?_⟩
      obtain ⟨p1, p2⟩ := hpre (n + j) (Nat.le_add_right _ _)
      have e4 : (c :: r).take (n + j) = (c :: r).take n ++ ((c :: r).drop n).take j := by rw [List.take_add]
      have e5 : (c :: r).drop (n + j) = ((c :: r).drop n).drop j := by rw [List.drop_drop]
      have hE : Ends k (((c :: r).drop n).take j ++ (g ++ x :: ((c :: r).drop n).drop j)) := by
        intro hk
        have h0 := (tokC_cut ht).2 hk
        rw [cons_drop h3] at h0
        cases hh : ((c :: r).drop n).take j with
        | nil => exact gap_head hx hg0
        | cons y z =>
          have := headIs_take (j := j) h0
          rw [hh] at this
          exact this
      obtain ⟨u, e1, e2, e3⟩ := tokC_again ht hE
      rw [p1, p2, e4, e5, w1, e1, List.append_assoc, List.append_assoc, List.cons_append, lexN_tok (hsg.1 _) e3]
      have hd : (c :: (u ++ (((c :: r).drop n).take j ++ (g ++ x :: ((c :: r).drop n).drop j)))).drop n = ((c :: r).drop n).take j ++ (g ++ x :: ((c :: r).drop n).drop j) := by rw [← e2, List.drop_succ_cons, List.drop_left]
      rw [hd]
      obtain ⟨s1, s2⟩ := q3 (b + ((g0 ++ c :: (u ++ (((c :: r).drop n).take j ++ (g ++ x :: ((c :: r).drop n).drop j)))).length - (c :: (u ++ (((c :: r).drop n).take j ++ (g ++ x :: ((c :: r).drop n).drop j)))).length) + n)
      exact ⟨s1, by simp only [List.map_cons, s2]; rfl⟩
/-- .. and behind it all. -/
theorem lexN_behind {g y : List UInt8} {x : UInt8} (hx : x.toNat = 10) (h : skipM false g = []) (a : Nat) (hy : (lexN y a).2 = none) : lexN (y ++ x :: g) a = lexN y a := by
  rw [(lexN_nl x hx g y a).1 hy, lexN_nil h, List.append_nil, ← hy]
end Go.Proofs.Ytildepcgnppcjaa
