/-
  Tasks in plain terms: what can be done next, an order, what is left when one is undone.
-/
import Derived.Test.YtoogicafefennaaSl
namespace Go.Proofs.Ytoogicafefennaa
open Go.RowKit Go.Sy
set_option linter.unusedVariables false
set_option linter.unusedSimpArgs false
structure TaskR where
  hours : Int
  skill : Int
  bay : Bool
  sl : Sl
  after : List Int
def TaskR.cells (t : TaskR) : Array Value := #[.int .i64 t.hours, .int .i64 t.skill, .bool t.bay, .slice t.sl.a t.sl.n t.sl.c]
def incr (n : Nat) : Int → List Int → Bool
  | _, [] => true
  | last, k :: r => !(decide (k ≤ last) || !decide (k < (n : Int))) && incr n k r
def taskOk (n : Nat) (t : TaskR) : Bool := !(((decide (t.hours < 1) || decide (1000 < t.hours)) || decide (t.skill < 0)) || !decide (t.skill < 8)) && incr n (-1) t.after
def tasksOk (l : List TaskR) : Bool := !decide ((40 : Int) < (l.length : Int)) && l.all (taskOk l.length)
theorem incr_in {n : Nat} : ∀ (ks : List Int) (last : Int), -1 ≤ last → incr n last ks = true → ∀ k ∈ ks, 0 ≤ k ∧ k < (n : Int)
  | [], _, _, _, k, hk => by cases hk
  | x :: r, last, h, hi, k, hk => by
    simp only [incr, Bool.and_eq_true, Bool.not_eq_true', Bool.or_eq_false_iff, decide_eq_false_iff_not, Bool.not_eq_false', decide_eq_true_eq] at hi
    rcases List.mem_cons.1 hk with rfl | hk
    · omega
    · exact incr_in r x (by omega) hi.2 k hk
structure TaskV (n : Nat) (t : TaskR) : Prop where
  hours : 1 ≤ t.hours ∧ t.hours ≤ 1000
  skill : 0 ≤ t.skill ∧ t.skill < 8
  after : ∀ k ∈ t.after, 0 ≤ k ∧ k < (n : Int)
theorem tasksOk_V {l : List TaskR} (h : tasksOk l = true) : l.length ≤ 40 ∧ ∀ t ∈ l, TaskV l.length t := by
  unfold tasksOk at h
  rw [Bool.and_eq_true, Bool.not_eq_true', decide_eq_false_iff_not, List.all_eq_true] at h
  obtain ⟨h1, h2⟩ := h
  refine ⟨by omega, fun t ht => ?_⟩
  have h3 := h2 t ht
  unfold taskOk at h3
  simp only [Bool.and_eq_true, Bool.not_eq_true', Bool.or_eq_false_iff, decide_eq_false_iff_not, Bool.not_eq_false', decide_eq_true_eq] at h3
  exact ⟨by omega, by omega, incr_in t.after (-1) (by omega) h3.2⟩
/-! Marks. -/
abbrev Mk := List Bool
def gt (d : Mk) (i : Nat) : Bool := d.getD i false
def cnt (d : Mk) : Nat := d.countP id
theorem gt_set {d : Mk} {i k : Nat} {b : Bool} (hi : i < d.length) : gt (d.set i b) k = if k = i then b else gt d k := by
  unfold gt
  rw [List.getD_eq_getElem?_getD, List.getD_eq_getElem?_getD, List.getElem?_set]
  by_cases h : i = k
  · subst h; simp [hi]
  · rw [if_neg h, if_neg (fun q => h q.symm)]
theorem gt_lt {d : Mk} {i : Nat} (h : gt d i = true) : i < d.length := by
  unfold gt at h
  rw [List.getD_eq_getElem?_getD] at h
  rcases Nat.lt_or_ge i d.length with q | q
  · exact q
  · rw [List.getElem?_eq_none q] at h; cases h
theorem gt_rep {n i : Nat} : gt (List.replicate n false) i = false := by
  unfold gt
  rw [List.getD_eq_getElem?_getD, List.getElem?_replicate]
  split <;> rfl
theorem cnt_le (d : Mk) : cnt d ≤ d.length := List.countP_le_length
theorem cnt_set : ∀ (d : Mk) (i : Nat), i < d.length → gt d i = false → cnt (d.set i true) = cnt d + 1
  | [], i, h, _ => by simp at h
  | b :: d, 0, _, h => by
    have : b = false := h
    subst this
    simp [cnt]
  | b :: d, i + 1, h, h2 => by
    have h3 : gt d i = false := h2
    have ih := cnt_set d i (by simpa using h) h3
    unfold cnt at *
    rw [List.set_cons_succ, List.countP_cons, List.countP_cons, ih]
    omega
theorem cnt_clear : ∀ (d : Mk) (i : Nat), gt d i = true → cnt (d.set i false) + 1 = cnt d
  | [], i, h => by simp [gt] at h
  | b :: d, 0, h => by
    have : b = true := h
    subst this
    simp [cnt]
  | b :: d, i + 1, h2 => by
    have h3 : gt d i = true := h2
    have ih := cnt_clear d i h3
    unfold cnt at *
    rw [List.set_cons_succ, List.countP_cons, List.countP_cons]
    omega
theorem cnt_all {d : Mk} (h : d.length ≤ cnt d) : ∀ i < d.length, gt d i = true := by
  have h1 := List.countP_eq_length.1 (Nat.le_antisymm (cnt_le d) h)
  intro i hi
  unfold gt
  rw [List.getD_eq_getElem?_getD, List.getElem?_eq_getElem hi]
  have := h1 d[i] (List.getElem_mem hi)
  simpa using this
theorem cnt_rep (n : Nat) : cnt (List.replicate n false) = 0 := by
  unfold cnt
  rw [List.countP_eq_zero]
  intro a ha
  rw [(List.mem_replicate.1 ha).2]; simp
def Le (d d' : Mk) : Prop := ∀ k, gt d k = true → gt d' k = true
theorem mk_ext {d d' : Mk} (hl : d.length = d'.length) (h1 : Le d d') (h2 : Le d' d) : d = d' := by
  apply List.ext_getElem hl
  intro i q1 q2
  have e1 : gt d i = d[i] := by unfold gt; rw [List.getD_eq_getElem?_getD, List.getElem?_eq_getElem q1]; rfl
  have e2 : gt d' i = d'[i] := by unfold gt; rw [List.getD_eq_getElem?_getD, List.getElem?_eq_getElem q2]; rfl
  rw [← e1, ← e2, Bool.eq_iff_iff]
  exact ⟨h1 i, h2 i⟩
/-! Waiting. -/
def wtB (d : Mk) (ks : List Int) : Bool := ks.any fun k => !gt d k.toNat
def aft (l : List TaskR) (i : Nat) : List Int := match l[i]? with | some t => t.after | none => []
def wt (l : List TaskR) (d : Mk) (i : Nat) : Bool := wtB d (aft l i)
theorem wt_false {l : List TaskR} {d : Mk} {i : Nat} : wt l d i = false ↔ ∀ k ∈ aft l i, gt d k.toNat = true := by
  unfold wt wtB
  rw [List.any_eq_false]
  simp
theorem wt_mono {l : List TaskR} {d d' : Mk} {i : Nat} (h : Le d d') (hw : wt l d i = false) : wt l d' i = false := by
  rw [wt_false] at *
  exact fun k hk => h _ (hw k hk)
def canB (l : List TaskR) (d : Mk) (i : Nat) : Bool := !gt d i && !wt l d i
def nextR (l : List TaskR) (d : Mk) : Option Nat := (List.range l.length).find? (canB l d)
def readyR (l : List TaskR) (d : Mk) : List Nat := (List.range l.length).filter (canB l d)
theorem next_some {l : List TaskR} {d : Mk} {i : Nat} (h : nextR l d = some i) : i < l.length ∧ gt d i = false ∧ wt l d i = false := by
  have h1 := List.find?_some h
  have h2 := List.mem_of_find?_eq_some h
  rw [List.mem_range] at h2
  unfold canB at h1
  rw [Bool.and_eq_true, Bool.not_eq_true', Bool.not_eq_true'] at h1
  exact ⟨h2, h1⟩
theorem next_none {l : List TaskR} {d : Mk} (h : nextR l d = none) {i : Nat} (hi : i < l.length) (hw : wt l d i = false) : gt d i = true := by
  have h1 := List.find?_eq_none.1 h i (List.mem_range.2 hi)
  unfold canB at h1
  rw [hw] at h1
  simpa using h1
theorem ready_mem {l : List TaskR} {d : Mk} {i : Nat} : i ∈ readyR l d ↔ i < l.length ∧ gt d i = false ∧ wt l d i = false := by
  unfold readyR canB
  rw [List.mem_filter, List.mem_range, Bool.and_eq_true, Bool.not_eq_true', Bool.not_eq_true']
theorem ready_head (l : List TaskR) (d : Mk) : (readyR l d).head? = nextR l d := by
  unfold readyR nextR
  rw [List.head?_filter]
/-! An order. -/
def doneOf (n : Nat) (o : List Nat) : Mk := o.foldl (fun d i => d.set i true) (List.replicate n false)
theorem doneOf_snoc (n : Nat) (o : List Nat) (i : Nat) : doneOf n (o ++ [i]) = (doneOf n o).set i true := by simp [doneOf]
theorem doneOf_len (n : Nat) (o : List Nat) : (doneOf n o).length = n := by
  unfold doneOf
  have : ∀ (o : List Nat) (d : Mk), (o.foldl (fun d i => d.set i true) d).length = d.length := by
    intro o
    induction o with
    | nil => intro d; rfl
    | cons i r ih => intro d; rw [List.foldl_cons, ih, List.length_set]
  rw [this, List.length_replicate]
theorem doneOf_gt {n : Nat} {o : List Nat} (ho : ∀ i ∈ o, i < n) (k : Nat) : gt (doneOf n o) k = true ↔ k ∈ o := by
  unfold doneOf
  have : ∀ (o : List Nat) (d : Mk), d.length = n → (∀ i ∈ o, i < n) → (gt (o.foldl (fun d i => d.set i true) d) k = true ↔ gt d k = true ∨ k ∈ o) := by
    intro o
    induction o with
    | nil => intro d _ _; simp
    | cons i r ih =>
      intro d hd hi
      rw [List.foldl_cons, ih _ (by rw [List.length_set]; exact hd) (fun j hj => hi j (.tail _ hj)), gt_set (by rw [hd]; exact hi i (.head _))]
      by_cases h : k = i
      · subst h; simp
      · rw [if_neg h]; simp [h]
  rw [this o _ List.length_replicate ho, gt_rep]
  simp
/-- Each task of the list can be done in its turn. -/
def Topo (l : List TaskR) (o : List Nat) : Prop := ∀ j i, o[j]? = some i → i < l.length ∧ gt (doneOf l.length (o.take j)) i = false ∧ wt l (doneOf l.length (o.take j)) i = false
theorem Topo.nil {l : List TaskR} : Topo l [] := fun j i h => by simp at h
theorem Topo.snoc {l : List TaskR} {o : List Nat} {i : Nat} (h : Topo l o) (hi : nextR l (doneOf l.length o) = some i) : Topo l (o ++ [i]) := by
  intro j k hk
  rcases Nat.lt_or_ge j o.length with hj | hj
  · rw [List.getElem?_append_left hj] at hk
    rw [List.take_append_of_le_length (by omega)]
    exact h j k hk
  · rw [List.getElem?_append_right hj] at hk
    have hj0 : j - o.length = 0 := by
      rcases Nat.eq_zero_or_pos (j - o.length) with q | q
      · exact q
      · rw [List.getElem?_eq_none (by simpa using Nat.succ_le_of_lt q)] at hk; cases hk
    rw [hj0] at hk
    cases hk
    rw [show j = o.length by omega, List.take_left]
    exact next_some hi
theorem Topo.lt {l : List TaskR} {o : List Nat} (h : Topo l o) : ∀ i ∈ o, i < l.length := fun i hi => by
  obtain ⟨j, hj, e⟩ := List.getElem_of_mem hi
  exact (h j i (by rw [List.getElem?_eq_getElem hj, e])).1
theorem Topo.take {l : List TaskR} {o : List Nat} (h : Topo l o) (m : Nat) : Topo l (o.take m) := by
  intro j i hj
  have hjm : j < m := by
    rcases Nat.lt_or_ge j m with q | q
    · exact q
    · rw [List.getElem?_eq_none (by rw [List.length_take]; omega)] at hj; cases hj
  rw [List.getElem?_take, if_pos hjm] at hj
  rw [List.take_take, Nat.min_eq_left (by omega)]
  exact h j i hj
theorem Topo.cnt {l : List TaskR} {o : List Nat} (h : Topo l o) : cnt (doneOf l.length o) = o.length := by
  have : ∀ m, m ≤ o.length → Proofs.Ytoogicafefennaa.cnt (doneOf l.length (o.take m)) = m := by
    intro m
    induction m with
    | zero => intro _; exact cnt_rep _
    | succ m ih =>
      intro hm
      obtain ⟨h1, h2, h3⟩ := h m o[m] (List.getElem?_eq_getElem (by omega))
      rw [List.take_add_one, List.getElem?_eq_getElem (by omega)]
      show Proofs.Ytoogicafefennaa.cnt (doneOf l.length (o.take m ++ [o[m]])) = _
      rw [doneOf_snoc, cnt_set _ _ (by rw [doneOf_len]; exact h1) h2, ih (by omega)]
  have := this o.length (Nat.le_refl _)
  rwa [List.take_length] at this
theorem Topo.len {l : List TaskR} {o : List Nat} (h : Topo l o) : o.length ≤ l.length := by
  rw [← h.cnt]
  have := cnt_le (doneOf l.length o)
  rwa [doneOf_len] at this
theorem Topo.all {l : List TaskR} {o : List Nat} (h : Topo l o) (hn : l.length ≤ o.length) : ∀ i < l.length, i ∈ o := by
  intro i hi
  rw [← doneOf_gt h.lt]
  exact cnt_all (by rw [doneOf_len, h.cnt]; exact hn) i (by rw [doneOf_len]; exact hi)
/-- Along the order. -/
theorem Topo.ind {l : List TaskR} {o : List Nat} (h : Topo l o) {Q : Nat → Prop} (hs : ∀ (j i : Nat), o[j]? = some i → (∀ k ∈ aft l i, Q k.toNat) → Q i) : ∀ i ∈ o, Q i := by
  have : ∀ (m j : Nat), j < m → ∀ i : Nat, o[j]? = some i → Q i := by
    intro m
    induction m with
    | zero => intro j hj; omega
    | succ m ih =>
      intro j hj i hi
      refine hs j i hi fun k hk => ?_
      obtain ⟨h1, h2, h3⟩ := h j i hi
      have h4 := wt_false.1 h3 k hk
      rw [doneOf_gt (fun x hx => h.lt x (List.mem_of_mem_take hx))] at h4
      obtain ⟨q, hq, e⟩ := List.getElem_of_mem h4
      rw [List.length_take] at hq
      rw [List.getElem_take] at e
      exact ih q (by omega) _ (by rw [List.getElem?_eq_getElem (by omega), e])
  intro i hi
  obtain ⟨j, hj, e⟩ := List.getElem_of_mem hi
  exact this (j + 1) j (by omega) i (by rw [List.getElem?_eq_getElem hj, e])
/-! Closed marks. -/
def Closed (l : List TaskR) (d : Mk) : Prop := ∀ i < l.length, gt d i = true → wt l d i = false
theorem Topo.closed {l : List TaskR} {o : List Nat} (h : Topo l o) : Closed l (doneOf l.length o) := by
  intro i hi hd
  rw [doneOf_gt h.lt] at hd
  obtain ⟨j, hj, e⟩ := List.getElem_of_mem hd
  obtain ⟨h1, h2, h3⟩ := h j i (by rw [List.getElem?_eq_getElem hj, e])
  refine wt_mono (fun k hk => ?_) h3
  rw [doneOf_gt (fun x hx => h.lt x (List.mem_of_mem_take hx))] at hk
  rw [doneOf_gt h.lt]
  exact List.mem_of_mem_take hk
/-- All can be done from anywhere. -/
theorem none_all {l : List TaskR} {o : List Nat} (h : Topo l o) (hn : ∀ i < l.length, i ∈ o) {d : Mk} (hd : nextR l d = none) : ∀ i < l.length, gt d i = true := by
  intro i hi
  exact h.ind (Q := fun i => gt d i = true) (fun j i hj hk => next_none hd (h j i hj).1 (wt_false.2 hk)) i (hn i hi)
def orderP (l : List TaskR) : Nat → List Nat → List Nat
  | 0, o => o
  | f + 1, o => match nextR l (doneOf l.length o) with | none => o | some i => orderP l f (o ++ [i])
theorem orderP_topo {l : List TaskR} : ∀ (f : Nat) (o : List Nat), Topo l o → Topo l (orderP l f o)
  | 0, o, h => h
  | f + 1, o, h => by
    simp only [orderP]
    cases hn : nextR l (doneOf l.length o) with
    | none => exact h
    | some i => exact orderP_topo f _ (h.snoc hn)
def orderL (l : List TaskR) : List Nat := orderP l (l.length + 1) []
def orderR (l : List TaskR) : List Nat × Int := if tasksOk l then (if (orderL l).length < l.length then ([], 24) else (orderL l, 0)) else ([], 1)
/-! What is left. -/
def badB (l : List TaskR) (d : Mk) (i : Nat) : Bool := gt d i && wt l d i
def nextU (l : List TaskR) (d : Mk) : Option Nat := (List.range l.length).find? (badB l d)
def undoP (l : List TaskR) : Nat → Mk → Mk
  | 0, d => d
  | f + 1, d => match nextU l d with | none => d | some i => undoP l f (d.set i false)
theorem nextU_some {l : List TaskR} {d : Mk} {i : Nat} (h : nextU l d = some i) : i < l.length ∧ gt d i = true ∧ wt l d i = true := by
  have h1 := List.find?_some h
  have h2 := List.mem_of_find?_eq_some h
  rw [List.mem_range] at h2
  unfold badB at h1
  rw [Bool.and_eq_true] at h1
  exact ⟨h2, h1⟩
theorem nextU_none {l : List TaskR} {d : Mk} : nextU l d = none ↔ Closed l d := by
  unfold nextU
  rw [List.find?_eq_none]
  constructor
  · intro h i hi hd
    have := h i (List.mem_range.2 hi)
    unfold badB at this
    rw [hd] at this
    simpa using this
  · intro h i hi
    unfold badB
    cases hd : gt d i with
    | false => simp
    | true => rw [h i (List.mem_range.1 hi) hd]; simp
theorem undoP_spec {l : List TaskR} : ∀ (f : Nat) (d : Mk), cnt d < f → (undoP l f d).length = d.length ∧ Closed l (undoP l f d) ∧ Le (undoP l f d) d ∧ ∀ C, Closed l C → Le C d → Le C (undoP l f d)
  | 0, d, h => by omega
  | f + 1, d, h => by
    simp only [undoP]
    cases hn : nextU l d with
    | none => exact ⟨rfl, nextU_none.1 hn, fun k hk => hk, fun C _ hC => hC⟩
    | some i =>
      obtain ⟨h1, h2, h3⟩ := nextU_some hn
      have hil := gt_lt h2
      have hc := cnt_clear d i h2
      obtain ⟨q1, q2, q3, q4⟩ := undoP_spec f (d.set i false) (by omega)
      refine ⟨by rw [q1, List.length_set], q2, fun k hk => ?_, fun C hC hle => q4 C hC fun k hk => ?_⟩
      · have := q3 k hk
        rw [gt_set hil] at this
        split at this
        · cases this
        · exact this
      · rw [gt_set hil]
        by_cases hki : k = i
        · subst hki
          have := wt_mono hle (hC k h1 hk)
          rw [h3] at this; cases this
        · rw [if_neg hki]; exact hle k hk
/-! What can be done of some. -/
def stepD (want d : Mk) (i : Nat) : Mk := if gt want i then d.set i true else d
def roundD (l : List TaskR) (want d : Mk) : Mk := (readyR l d).foldl (stepD want) d
def doesP (l : List TaskR) (want : Mk) : Nat → Mk → Mk
  | 0, d => d
  | f + 1, d => doesP l want f (roundD l want d)
theorem fold_len {want : Mk} : ∀ (rs : List Nat) (d : Mk), (rs.foldl (stepD want) d).length = d.length
  | [], d => rfl
  | i :: r, d => by
    rw [List.foldl_cons, fold_len r]
    unfold stepD
    split
    · rw [List.length_set]
    · rfl
theorem fold_gt {want : Mk} {k : Nat} : ∀ (rs : List Nat) (d : Mk), (∀ i ∈ rs, i < d.length) → (gt (rs.foldl (stepD want) d) k = true ↔ gt d k = true ∨ (k ∈ rs ∧ gt want k = true))
  | [], d, _ => by simp
  | i :: r, d, h => by
    have hl : (stepD want d i).length = d.length := by unfold stepD; split <;> simp
    rw [List.foldl_cons, fold_gt r _ (fun j hj => by rw [hl]; exact h j (.tail _ hj))]
    have : gt (stepD want d i) k = true ↔ gt d k = true ∨ (k = i ∧ gt want k = true) := by
      unfold stepD
      by_cases hw : gt want i = true
      · rw [if_pos hw, gt_set (h i (.head _))]
        by_cases hk : k = i
        · subst hk; simp [hw]
        · rw [if_neg hk]; simp [hk]
      · rw [if_neg hw]
        constructor
        · exact .inl
        · rintro (q | ⟨rfl, q⟩)
          · exact q
          · exact absurd q hw
    rw [this, List.mem_cons]
    constructor
    · rintro ((q | ⟨q, q2⟩) | ⟨q, q2⟩)
      · exact .inl q
      · exact .inr ⟨.inl q, q2⟩
      · exact .inr ⟨.inr q, q2⟩
    · rintro (q | ⟨q | q, q2⟩)
      · exact .inl (.inl q)
      · exact .inl (.inr ⟨q, q2⟩)
      · exact .inr ⟨q, q2⟩
theorem round_gt {l : List TaskR} {want d : Mk} (hd : d.length = l.length) {k : Nat} : gt (roundD l want d) k = true ↔ gt d k = true ∨ (k < l.length ∧ wt l d k = false ∧ gt want k = true) := by
  unfold roundD
  rw [fold_gt _ _ (fun i hi => by rw [hd]; exact (ready_mem.1 hi).1), ready_mem]
  constructor
  · rintro (q | ⟨⟨q1, q2, q3⟩, q4⟩)
    · exact .inl q
    · exact .inr ⟨q1, q3, q4⟩
  · rintro (q | ⟨q1, q3, q4⟩)
    · exact .inl q
    · cases hg : gt d k with
      | true => exact .inl rfl
      | false => exact .inr ⟨⟨q1, rfl, q3⟩, q4⟩
theorem round_len {l : List TaskR} {want d : Mk} : (roundD l want d).length = d.length := fold_len _ _
theorem does_len {l : List TaskR} {want : Mk} : ∀ (f : Nat) (d : Mk), (doesP l want f d).length = d.length
  | 0, d => rfl
  | f + 1, d => by simp only [doesP]; rw [does_len f, round_len]
theorem does_spec {l : List TaskR} {want : Mk} : ∀ (f : Nat) (d : Mk), d.length = l.length → Closed l d → Le d want → Closed l (doesP l want f d) ∧ Le (doesP l want f d) want
  | 0, d, _, h1, h2 => ⟨h1, h2⟩
  | f + 1, d, hd, h1, h2 => by
    simp only [doesP]
    have hle : Le d (roundD l want d) := fun k hk => (round_gt hd).2 (.inl hk)
    refine does_spec f _ (by rw [round_len]; exact hd) (fun i hi hk => ?_) (fun k hk => ?_)
    · rcases (round_gt hd).1 hk with q | ⟨q1, q2, q3⟩
      · exact wt_mono hle (h1 i hi q)
      · exact wt_mono hle q2
    · rcases (round_gt hd).1 hk with q | ⟨q1, q2, q3⟩
      · exact h2 k q
      · exact q3
theorem does_more {l : List TaskR} {want C : Mk} {o : List Nat} (hT : Topo l o) (hC : Closed l C) (hw : Le C want) : ∀ (f m : Nat) (d : Mk), d.length = l.length → (∀ j i, o[j]? = some i → j < m → gt C i = true → gt d i = true) → ∀ j i, o[j]? = some i → j < m + f → gt C i = true → gt (doesP l want f d) i = true
  | 0, m, d, _, h => h
  | f + 1, m, d, hd, h => by
    simp only [doesP]
    intro j i hj hlt hc
    refine does_more hT hC hw f (m + 1) _ (by rw [round_len]; exact hd) (fun j i hj hlt hc => ?_) j i hj (by omega) hc
    rw [round_gt hd]
    rcases Nat.lt_or_ge j m with q | q
    · exact .inl (h j i hj q hc)
    · obtain ⟨h1, h2, h3⟩ := hT j i hj
      refine .inr ⟨h1, wt_false.2 fun k hk => ?_, hw i hc⟩
      have h4 := wt_false.1 h3 k hk
      rw [doneOf_gt (fun x hx => hT.lt x (List.mem_of_mem_take hx))] at h4
      obtain ⟨p, hp, e⟩ := List.getElem_of_mem h4
      rw [List.length_take] at hp
      rw [List.getElem_take] at e
      exact h p _ (by rw [List.getElem?_eq_getElem (by omega), e]) (by omega) (wt_false.1 (hC i h1 hc) k hk)
/-- What is left is what can be done. -/
theorem left_can {l : List TaskR} {o : List Nat} (hT : Topo l o) (hn : ∀ i < l.length, i ∈ o) (want : Mk) (hwl : want.length = l.length) {f : Nat} (hf : cnt want < f) : undoP l f want = doesP l want l.length (List.replicate l.length false) := by
  obtain ⟨u1, u2, u3, u4⟩ := undoP_spec (l := l) f want hf
  have hr : (List.replicate l.length false).length = l.length := List.length_replicate
  obtain ⟨c1, c2⟩ := does_spec (l := l) (want := want) l.length (List.replicate l.length false) hr (fun i _ h => by rw [gt_rep] at h; cases h) (fun k h => by rw [gt_rep] at h; cases h)
  refine mk_ext (by rw [u1, does_len, hr, hwl]) (fun k hk => ?_) (u4 _ c1 c2)
  have hkl : k < l.length := by rw [← hwl]; exact gt_lt (u3 k hk)
  obtain ⟨j, hj, e⟩ := List.getElem_of_mem (hn k hkl)
  have hol := hT.len
  exact does_more hT u2 u3 l.length 0 _ hr (fun j i _ h => by omega) j k (by rw [List.getElem?_eq_getElem hj, e]) (by omega) hk
/-! All again. -/
def againP (l : List TaskR) : Nat → Mk → Mk
  | 0, d => d
  | f + 1, d => match nextR l d with | none => d | some i => againP l f (d.set i true)
theorem again_all {l : List TaskR} {o : List Nat} (hT : Topo l o) (hn : ∀ i < l.length, i ∈ o) : ∀ (f : Nat) (d : Mk), d.length = l.length → l.length ≤ cnt d + f → ∀ i < l.length, gt (againP l f d) i = true
  | 0, d, hd, h => by
    intro i hi
    show gt d i = true
    exact cnt_all (by omega) i (by omega)
  | f + 1, d, hd, h => by
    simp only [againP]
    cases hx : nextR l d with
    | none => exact none_all hT hn hx
    | some i =>
      obtain ⟨h1, h2, h3⟩ := next_some hx
      have := cnt_set d i (by omega) h2
      exact again_all hT hn f _ (by rw [List.length_set]; exact hd) (by omega)
end Go.Proofs.Ytoogicafefennaa
