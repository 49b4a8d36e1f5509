/-
  The plan of a shop in plain terms: what is busy, what has begun, and that all of it fits.
-/
import Derived.Test.YtoogicafefennaaNj
namespace Go.Proofs.Ytoogicafefennaa
open Go.RowKit Go.Sy
set_option linter.unusedVariables false
set_option linter.unusedSimpArgs false
def hN (l : List TaskR) (i : Nat) : Nat := match l[i]? with | some t => t.hours.toNat | none => 0
def useT (t : TaskR) (k : Nat) : Bool := decide (t.skill.toNat = k) || (decide (k = 8) && t.bay)
def useB (l : List TaskR) (i k : Nat) : Bool := match l[i]? with | some t => useT t k | none => false
structure PS where
  hours : List Nat
  ends : List (Nat × List Nat)
  busy : List Int
  begun : Mk
  done : Mk
  starts : List Nat
def stN (s : PS) (i : Nat) : Nat := s.starts.getD i 0
def enN (l : List TaskR) (s : PS) (i : Nat) : Nat := stN s i + hN l i
def live (s : PS) (i : Nat) : Bool := gt s.begun i && !gt s.done i
/-! Counting. -/
def cn (n : Nat) (p : Nat → Bool) : Nat := (List.range n).countP p
theorem cn_succ (n : Nat) (p : Nat → Bool) : cn (n + 1) p = cn n p + if p n then 1 else 0 := by
  unfold cn
  rw [List.range_succ, List.countP_append, List.countP_singleton]
theorem cn_congr {n : Nat} {p q : Nat → Bool} (h : ∀ i < n, p i = q i) : cn n p = cn n q := by
  induction n with
  | zero => rfl
  | succ n ih => rw [cn_succ, cn_succ, ih (fun i hi => h i (by omega)), h n (by omega)]
theorem cn_le (n : Nat) (p : Nat → Bool) : cn n p ≤ n := by
  have := List.countP_le_length (p := p) (l := List.range n)
  rwa [List.length_range] at this
theorem cn_flip {n i : Nat} {p q : Nat → Bool} (hi : i < n) (hp : p i = false) (h : ∀ k, k ≠ i → q k = p k) : cn n q = cn n p + if q i then 1 else 0 := by
  induction n with
  | zero => omega
  | succ n ih =>
    rw [cn_succ, cn_succ]
    by_cases hin : i = n
    · subst hin
      rw [cn_congr (p := q) (q := p) (fun k hk => h k (by omega)), hp]
      simp
    · rw [ih (by omega), h n (fun e => hin e.symm)]
      omega
theorem cn_zero {n : Nat} {p : Nat → Bool} (h : ∀ i < n, p i = false) : cn n p = 0 := by
  induction n with
  | zero => rfl
  | succ n ih => rw [cn_succ, ih (fun i hi => h i (by omega)), h n (by omega)]; rfl
theorem bget_addL {b : List Int} {t : TaskR} {m : Int} {k : Nat} (hb : b.length = 9) (hs : 0 ≤ t.skill ∧ t.skill < 8) : bget (addL b t m) k = bget b k + if useT t k then m else 0 := by
  have hj : t.skill.toNat < 8 := by omega
  unfold addL useT
  by_cases h8 : k = 8
  · subst h8
    have hne : ¬ t.skill.toNat = 8 := by omega
    cases hbay : t.bay with
    | true =>
      rw [if_pos rfl, bget_set (by rw [List.length_set]; omega), if_pos rfl, bget_set (by omega), if_neg (by omega)]
      simp
    | false =>
      rw [if_neg (by simp), bget_set (by omega), if_neg (by omega)]
      simp [hne]
  · have e : bget (if t.bay = true then (b.set t.skill.toNat (bget b t.skill.toNat + m)).set 8 (bget (b.set t.skill.toNat (bget b t.skill.toNat + m)) 8 + m) else b.set t.skill.toNat (bget b t.skill.toNat + m)) k = bget (b.set t.skill.toNat (bget b t.skill.toNat + m)) k := by
      split
      · rw [bget_set (by rw [List.length_set]; omega), if_neg h8]
      · rfl
    rw [e, bget_set (by omega)]
    by_cases hk : k = t.skill.toNat
    · subst hk; simp
    · rw [if_neg hk]
      have : ¬ t.skill.toNat = k := fun q => hk q.symm
      simp [this, h8]
/-! The tasks that end at an hour. -/
def eGet (h : Nat) : List (Nat × List Nat) → List Nat
  | [] => []
  | e :: r => if h = e.1 then e.2 else eGet h r
def eDel (h : Nat) : List (Nat × List Nat) → List (Nat × List Nat)
  | [] => []
  | e :: r => if h = e.1 then r else e :: eDel h r
def ePut (h i : Nat) : List (Nat × List Nat) → List (Nat × List Nat)
  | [] => [(h, [i])]
  | e :: r => if h = e.1 then (h, e.2 ++ [i]) :: r else e :: ePut h i r
theorem eGet_none {h : Nat} : ∀ {es : List (Nat × List Nat)}, h ∉ es.map Prod.fst → eGet h es = []
  | [], _ => rfl
  | e :: r, hn => by
    simp only [List.map_cons, List.mem_cons, not_or] at hn
    rw [eGet, if_neg hn.1, eGet_none hn.2]
theorem eDel_keys (h : Nat) : ∀ (es : List (Nat × List Nat)), ∀ k ∈ (eDel h es).map Prod.fst, k ∈ es.map Prod.fst
  | [], k, hk => by cases hk
  | e :: r, k, hk => by
    simp only [eDel] at hk
    split at hk
    · exact List.mem_cons_of_mem _ hk
    · simp only [List.map_cons, List.mem_cons] at hk ⊢
      rcases hk with q | q
      · exact .inl q
      · exact .inr (eDel_keys h r k q)
theorem eDel_nodup (h : Nat) : ∀ {es : List (Nat × List Nat)}, (es.map Prod.fst).Nodup → ((eDel h es).map Prod.fst).Nodup
  | [], hn => hn
  | e :: r, hn => by
    simp only [List.map_cons, List.nodup_cons] at hn
    simp only [eDel]
    split
    · exact hn.2
    · simp only [List.map_cons, List.nodup_cons]
      exact ⟨fun q => hn.1 (eDel_keys h r _ q), eDel_nodup h hn.2⟩
theorem eGet_del {h k : Nat} : ∀ {es : List (Nat × List Nat)}, (es.map Prod.fst).Nodup → eGet k (eDel h es) = if k = h then [] else eGet k es
  | [], _ => by simp [eDel, eGet]
  | e :: r, hn => by
    simp only [List.map_cons, List.nodup_cons] at hn
    simp only [eDel]
    by_cases he : h = e.1
    · rw [if_pos he]
      by_cases hk : k = h
      · rw [if_pos hk, hk, he, eGet_none hn.1]
      · rw [if_neg hk, eGet, if_neg (fun q => hk (q.trans he.symm))]
    · rw [if_neg he, eGet, eGet_del hn.2]
      by_cases hk : k = h
      · rw [if_neg (fun q => he (hk.symm.trans q)), if_pos hk, if_pos hk]
      · rw [if_neg hk]; simp only [eGet, if_neg hk]
theorem ePut_keys (h i : Nat) : ∀ (es : List (Nat × List Nat)), ∀ k ∈ (ePut h i es).map Prod.fst, k = h ∨ k ∈ es.map Prod.fst
  | [], k, hk => by simp [ePut] at hk; exact .inl hk
  | e :: r, k, hk => by
    simp only [ePut] at hk
    split at hk
    · rename_i he
      simp only [List.map_cons, List.mem_cons] at hk ⊢
      rcases hk with q | q
      · exact .inl q
      · exact .inr (.inr q)
    · simp only [List.map_cons, List.mem_cons] at hk ⊢
      rcases hk with q | q
      · exact .inr (.inl q)
      · rcases ePut_keys h i r k q with q | q
        · exact .inl q
        · exact .inr (.inr q)
theorem ePut_nodup (h i : Nat) : ∀ {es : List (Nat × List Nat)}, (es.map Prod.fst).Nodup → ((ePut h i es).map Prod.fst).Nodup
  | [], _ => by simp [ePut]
  | e :: r, hn => by
    simp only [List.map_cons, List.nodup_cons] at hn
    simp only [ePut]
    split
    · rename_i he
      simp only [List.map_cons, List.nodup_cons]
      exact ⟨he ▸ hn.1, hn.2⟩
    · rename_i he
      simp only [List.map_cons, List.nodup_cons]
      refine ⟨fun q => ?_, ePut_nodup h i hn.2⟩
      rcases ePut_keys h i r _ q with q | q
      · exact he q.symm
      · exact hn.1 q
theorem eGet_put {h i k : Nat} : ∀ {es : List (Nat × List Nat)}, eGet k (ePut h i es) = if k = h then eGet h es ++ [i] else eGet k es
  | [] => by
    simp only [ePut, eGet]
    split <;> rfl
  | e :: r => by
    simp only [ePut]
    by_cases he : h = e.1
    · rw [if_pos he]
      by_cases hk : k = h
      · rw [if_pos hk]; simp only [eGet, hk, if_true, ← he]
      · rw [if_neg hk, eGet, if_neg hk, eGet, if_neg (fun q => hk (q.trans he.symm))]
    · rw [if_neg he, eGet, eGet_put]
      by_cases hk : k = h
      · rw [if_pos hk, if_pos hk, hk, if_neg he, eGet, if_neg he]
      · rw [if_neg hk, if_neg hk]; rfl
/-! Hours in order. -/
def insL (x : Nat) : List Nat → List Nat
  | [] => [x]
  | y :: r => if y < x then y :: insL x r else if y = x then y :: r else x :: y :: r
def insH (x : Nat) (xs : List Nat) : List Nat := match xs[slot x xs]? with | some y => if y = x then xs else xs.insertIdx (slot x xs) x | none => xs.insertIdx (slot x xs) x
theorem insH_eq (x : Nat) : ∀ xs : List Nat, insH x xs = insL x xs
  | [] => rfl
  | y :: r => by
    have ih := insH_eq x r
    unfold insL
    by_cases h : y < x
    · have e : slot x (y :: r) = slot x r + 1 := by unfold slot; rw [List.takeWhile_cons, if_pos (decide_eq_true h)]; rfl
      rw [if_pos h, ← ih]
      unfold insH
      rw [e, List.getElem?_cons_succ]
      cases r[slot x r]? with
      | none => rfl
      | some z =>
        simp only
        split <;> rfl
    · have e : slot x (y :: r) = 0 := by unfold slot; rw [List.takeWhile_cons, if_neg (by simpa using h)]; rfl
      rw [if_neg h]
      unfold insH
      rw [e]
      rfl
theorem insL_mem {x z : Nat} : ∀ {xs : List Nat}, z ∈ insL x xs ↔ z = x ∨ z ∈ xs
  | [] => by simp [insL]
  | y :: r => by
    unfold insL
    split
    · rw [List.mem_cons, insL_mem, List.mem_cons]
      constructor
      · rintro (q | q | q)
        · exact .inr (.inl q)
        · exact .inl q
        · exact .inr (.inr q)
      · rintro (q | q | q)
        · exact .inr (.inl q)
        · exact .inl q
        · exact .inr (.inr q)
    · split
      · rename_i h1 h2
        subst h2
        rw [List.mem_cons]
        constructor
        · exact .inr
        · rintro (q | q)
          · exact .inl q
          · exact q
      · rw [List.mem_cons]
theorem insL_sorted {x : Nat} : ∀ {xs : List Nat}, xs.Pairwise (· < ·) → (insL x xs).Pairwise (· < ·)
  | [], _ => by simp [insL]
  | y :: r, h => by
    obtain ⟨h1, h2⟩ := List.pairwise_cons.1 h
    unfold insL
    split
    · rename_i hlt
      refine List.pairwise_cons.2 ⟨fun z hz => ?_, insL_sorted h2⟩
      rcases insL_mem.1 hz with rfl | q
      · exact hlt
      · exact h1 z q
    · split
      · exact h
      · rename_i h3 h4
        refine List.pairwise_cons.2 ⟨fun z hz => ?_, h⟩
        rcases List.mem_cons.1 hz with rfl | q
        · omega
        · have := h1 z q; omega
theorem insL_len (x : Nat) : ∀ (xs : List Nat), (insL x xs).length ≤ xs.length + 1
  | [] => by simp [insL]
  | y :: r => by
    unfold insL
    split
    · have := insL_len x r; simp only [List.length_cons]; omega
    · split
      · simp only [List.length_cons]; omega
      · simp only [List.length_cons]; omega
/-! One step. -/
def finF (l : List TaskR) (s : PS) (i : Nat) : PS := match l[i]? with
  | some t => { s with busy := addL s.busy t (-1), done := s.done.set i true }
  | none => s
def canF (l : List TaskR) (u : ShopR) (s : PS) (i : Nat) (t : TaskR) : Bool := !((gt s.begun i || wt l s.done i) || !fitsB (addL s.busy t 1) u)
def begF (l : List TaskR) (u : ShopR) (H : Nat) (s : PS) (i : Nat) : PS := match l[i]? with
  | some t => if canF l u s i t then { s with busy := addL s.busy t 1, begun := s.begun.set i true, starts := s.starts.set i H, hours := insH (H + t.hours.toNat) s.hours, ends := ePut (H + t.hours.toNat) i s.ends } else s
  | none => s
def outP (l : List TaskR) (u : ShopR) (s : PS) : PS := match s.hours with
  | [] => s
  | H :: rest => (List.range l.length).foldl (begF l u H) { (eGet H s.ends).foldl (finF l) s with hours := rest, ends := eDel H s.ends }
def planP (l : List TaskR) (u : ShopR) : Nat → PS → PS
  | 0, s => s
  | f + 1, s => match s.hours with | [] => s | _ :: _ => planP l u f (outP l u s)
def plan0 (n : Nat) : PS := ⟨[0], [], zeroL, List.replicate n false, List.replicate n false, List.replicate n 0⟩
def planR (l : List TaskR) (u : ShopR) : List Nat := (planP l u (l.length + 2) (plan0 l.length)).starts
end Go.Proofs.Ytoogicafefennaa
