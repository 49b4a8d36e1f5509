/-
  Tasks in plain terms: what can be done next, an order, what is left when one is undone.
-/
import Derived.Test.YtoogicafefennaaQB1
import Derived.ScopeJumps
import Derived.Laws.StandIn
import Derived.Laws.Externs
import Derived.Lib.Builder
import Derived.Lib.UnsafeStr
import Derived.Lib.AppendZerosOnto
import Derived.Lib.Overlaps
import Derived.DeepKeys5
import Derived.RangeFuncOwn
import Derived.OrdersIn
import Derived.TacticsIn
import Derived.Scope
namespace Go.Proofs.Ytoogicafefennaa
set_option linter.unusedVariables false
open Go.RowKit Go.Sy
set_option linter.unusedVariables false
set_option linter.unusedSimpArgs false
structure TaskR where
  hours : Int
  skill : Int
  bay : Bool
  sl : Sl
  after : List Int
def TaskR.cells (t : TaskR) : Array Value := #[.int .i64 t.hours, .int .i64 t.skill, .bool t.bay, .slice t.sl.a t.sl.n t.sl.c]
def incr (n : Nat) : Int → List Int → Bool
  | _, [] => true
  | last, k :: r => !(decide (k ≤ last) || !decide (k < (n : Int))) && incr n k r
def taskOk (n : Nat) (t : TaskR) : Bool := !(((decide (t.hours < 1) || decide (1000 < t.hours)) || decide (t.skill < 0)) || !decide (t.skill < 8)) && incr n (-1) t.after
def tasksOk (l : List TaskR) : Bool := !decide ((40 : Int) < (l.length : Int)) && l.all (taskOk l.length)
theorem incr_in {n : Nat} : ∀ (ks : List Int) (last : Int), -1 ≤ last → incr n last ks = true → ∀ k ∈ ks, 0 ≤ k ∧ k < (n : Int)
  | [], _, _, _, k, hk => by cases hk
  | x :: r, last, h, hi, k, hk => by
    simp only [incr, Bool.and_eq_true, Bool.not_eq_true', Bool.or_eq_false_iff, decide_eq_false_iff_not, Bool.not_eq_false', decide_eq_true_eq] at hi
    rcases List.mem_cons.1 hk with rfl | hk
    · omega
    · exact incr_in r x (by omega) hi.2 k hk
structure TaskV (n : Nat) (t : TaskR) : Prop where
  hours : 1 ≤ t.hours ∧ t.hours ≤ 1000
  skill : 0 ≤ t.skill ∧ t.skill < 8
  after : ∀ k ∈ t.after, 0 ≤ k ∧ k < (n : Int)
theorem tasksOk_V {l : List TaskR} (h : tasksOk l = true) : l.length ≤ 40 ∧ ∀ t ∈ l, TaskV l.length t := by
  unfold tasksOk at h
  rw [Bool.and_eq_true, Bool.not_eq_true', decide_eq_false_iff_not, List.all_eq_true] at h
  obtain ⟨h1, h2⟩ := h
  refine ⟨by omega, fun t ht => ?_⟩
  have h3 := h2 t ht
  unfold taskOk at h3
  simp only [Bool.and_eq_true, Bool.not_eq_true', Bool.or_eq_false_iff, decide_eq_false_iff_not, Bool.not_eq_false', decide_eq_true_eq] at h3
  exact ⟨by omega, by omega, incr_in t.after (-1) (by omega) h3.2⟩
/-! Marks. -/
abbrev Mk := List Bool
def gt (d : Mk) (i : Nat) : Bool := d.getD i false
def cnt (d : Mk) : Nat := d.countP id
theorem gt_set {d : Mk} {i k : Nat} {b : Bool} (hi : i < d.length) : gt (d.set i b) k = if k = i then b else gt d k := by
  unfold gt
  rw [List.getD_eq_getElem?_getD, List.getD_eq_getElem?_getD, List.getElem?_set]
  by_cases h : i = k
  · subst h; simp [hi]
  · rw [if_neg h, if_neg (fun q => h q.symm)]
theorem gt_lt {d : Mk} {i : Nat} (h : gt d i = true) : i < d.length := by
  unfold gt at h
  rw [List.getD_eq_getElem?_getD] at h
  rcases Nat.lt_or_ge i d.length with q | q
  · exact q
  · rw [List.getElem?_eq_none q] at h; cases h
theorem gt_rep {n i : Nat} : gt (List.replicate n false) i = false := by
  unfold gt
  rw [List.getD_eq_getElem?_getD, List.getElem?_replicate]
  split <;> rfl
theorem cnt_le (d : Mk) : cnt d ≤ d.length := List.countP_le_length
theorem cnt_set : ∀ (d : Mk) (i : Nat), i < d.length → gt d i = false → cnt (d.set i true) = cnt d + 1
  | [], i, h, _ => by simp at h
  | b :: d, 0, _, h => by
    have : b = false := h
    subst this
    simp [cnt]
  | b :: d, i + 1, h, h2 => by
    have h3 : gt d i = false := h2
    have ih := cnt_set d i (by simpa using h) h3
    unfold cnt at *
    rw [List.set_cons_succ, List.countP_cons, List.countP_cons, ih]
    omega
theorem cnt_clear : ∀ (d : Mk) (i : Nat), gt d i = true → cnt (d.set i false) + 1 = cnt d
  | [], i, h => by simp [gt] at h
  | b :: d, 0, h => by
    have : b = true := h
    subst this
    simp [cnt]
  | b :: d, i + 1, h2 => by
    have h3 : gt d i = true := h2
    have ih := cnt_clear d i h3
    unfold cnt at *
    rw [List.set_cons_succ, List.countP_cons, List.countP_cons]
    omega
theorem cnt_all {d : Mk} (h : d.length ≤ cnt d) : ∀ i < d.length, gt d i = true := by
  have h1 := List.countP_eq_length.1 (Nat.le_antisymm (cnt_le d) h)
  intro i hi
  unfold gt
  rw [List.getD_eq_getElem?_getD, List.getElem?_eq_getElem hi]
  have := h1 d[i] (List.getElem_mem hi)
  simpa using this
theorem cnt_rep (n : Nat) : cnt (List.replicate n false) = 0 := by
  unfold cnt
  rw [List.countP_eq_zero]
  intro a ha
  rw [(List.mem_replicate.1 ha).2]; simp
def Le (d d' : Mk) : Prop := ∀ k, gt d k = true → gt d' k = true
theorem mk_ext {d d' : Mk} (hl : d.length = d'.length) (h1 : Le d d') (h2 : Le d' d) : d = d' := by
  apply List.ext_getElem hl
  intro i q1 q2
  have e1 : gt d i = d[i] := by unfold gt; rw [List.getD_eq_getElem?_getD, List.getElem?_eq_getElem q1]; rfl
  have e2 : gt d' i = d'[i] := by unfold gt; rw [List.getD_eq_getElem?_getD, List.getElem?_eq_getElem q2]; rfl
  rw [← e1, ← e2, Bool.eq_iff_iff]
  exact ⟨h1 i, h2 i⟩
/-! Waiting. -/
def wtB (d : Mk) (ks : List Int) : Bool := ks.any fun k => !gt d k.toNat
def aft (l : List TaskR) (i : Nat) : List Int := match l[i]? with | some t => t.after | none => []
def wt (l : List TaskR) (d : Mk) (i : Nat) : Bool := wtB d (aft l i)
theorem wt_false {l : List TaskR} {d : Mk} {i : Nat} : wt l d i = false ↔ ∀ k ∈ aft l i, gt d k.toNat = true := by
  unfold wt wtB
  rw [List.any_eq_false]
  simp
theorem wt_mono {l : List TaskR} {d d' : Mk} {i : Nat} (h : Le d d') (hw : wt l d i = false) : wt l d' i = false := by
  rw [wt_false] at *
  exact fun k hk => h _ (hw k hk)
def canB (l : List TaskR) (d : Mk) (i : Nat) : Bool := !gt d i && !wt l d i
def nextR (l : List TaskR) (d : Mk) : Option Nat := (List.range l.length).find? (canB l d)
def readyR (l : List TaskR) (d : Mk) : List Nat := (List.range l.length).filter (canB l d)
theorem next_some {l : List TaskR} {d : Mk} {i : Nat} (h : nextR l d = some i) : i < l.length ∧ gt d i = false ∧ wt l d i = false := by
  have h1 := List.find?_some h
  have h2 := List.mem_of_find?_eq_some h
  rw [List.mem_range] at h2
  unfold canB at h1
  rw [Bool.and_eq_true, Bool.not_eq_true', Bool.not_eq_true'] at h1
  exact ⟨h2, h1⟩
theorem next_none {l : List TaskR} {d : Mk} (h : nextR l d = none) {i : Nat} (hi : i < l.length) (hw : wt l d i = false) : gt d i = true := by
  have h1 := List.find?_eq_none.1 h i (List.mem_range.2 hi)
  unfold canB at h1
  rw [hw] at h1
  simpa using h1
theorem ready_mem {l : List TaskR} {d : Mk} {i : Nat} : i ∈ readyR l d ↔ i < l.length ∧ gt d i = false ∧ wt l d i = false := by
  unfold readyR canB
  rw [List.mem_filter, List.mem_range, Bool.and_eq_true, Bool.not_eq_true', Bool.not_eq_true']
theorem ready_head (l : List TaskR) (d : Mk) : (readyR l d).head? = nextR l d := by
  unfold readyR nextR
  rw [List.head?_filter]
/-! An order. -/
def doneOf (n : Nat) (o : List Nat) : Mk := o.foldl (fun d i => d.set i true) (List.replicate n false)
theorem doneOf_snoc (n : Nat) (o : List Nat) (i : Nat) : doneOf n (o ++ [i]) = (doneOf n o).set i true := by simp [doneOf]
theorem doneOf_len (n : Nat) (o : List Nat) : (doneOf n o).length = n := by
  unfold doneOf
  have : ∀ (o : List Nat) (d : Mk), (o.foldl (fun d i => d.set i true) d).length = d.length := by
    intro o
    induction o with
    | nil => intro d; rfl
    | cons i r ih => intro d; rw [List.foldl_cons, ih, List.length_set]
  rw [this, List.length_replicate]
theorem doneOf_gt {n : Nat} {o : List Nat} (ho : ∀ i ∈ o, i < n) (k : Nat) : gt (doneOf n o) k = true ↔ k ∈ o := by
  unfold doneOf
  have : ∀ (o : List Nat) (d : Mk), d.length = n → (∀ i ∈ o, i < n) → (gt (o.foldl (fun d i => d.set i true) d) k = true ↔ gt d k = true ∨ k ∈ o) := by
    intro o
    induction o with
    | nil => intro d _ _; simp
    | cons i r ih =>
      intro d hd hi
      rw [List.foldl_cons, ih _ (by rw [List.length_set]; exact hd) (fun j hj => hi j (.tail _ hj)), gt_set (by rw [hd]; exact hi i (.head _))]
      by_cases h : k = i
      · subst h; simp
      · rw [if_neg h]; simp [h]
  rw [this o _ List.length_replicate ho, gt_rep]
  simp
/-- Each task of the list can be done in its turn. -/
def Topo (l : List TaskR) (o : List Nat) : Prop := ∀ j i, o[j]? = some i → i < l.length ∧ gt (doneOf l.length (o.take j)) i = false ∧ wt l (doneOf l.length (o.take j)) i = false
theorem Topo.nil {l : List TaskR} : Topo l [] := fun j i h => by simp at h
theorem Topo.snoc {l : List TaskR} {o : List Nat} {i : Nat} (h : Topo l o) (hi : nextR l (doneOf l.length o) = some i) : Topo l (o ++ [i]) := by
  intro j k hk
  rcases Nat.lt_or_ge j o.length with hj | hj
  · rw [List.getElem?_append_left hj] at hk
    rw [List.take_append_of_le_length (by omega)]
    exact h j k hk
  · rw [List.getElem?_append_right hj] at hk
    have hj0 : j - o.length = 0 := by
      rcases Nat.eq_zero_or_pos (j - o.length) with q | q
      · exact q
      · rw [List.getElem?_eq_none (by simpa using Nat.succ_le_of_lt q)] at hk; cases hk
    rw [hj0] at hk
    cases hk
    rw [show j = o.length by omega, List.take_left]
    exact next_some hi
theorem Topo.lt {l : List TaskR} {o : List Nat} (h : Topo l o) : ∀ i ∈ o, i < l.length := fun i hi => by
  obtain ⟨j, hj, e⟩ := List.getElem_of_mem hi
  exact (h j i (by rw [List.getElem?_eq_getElem hj, e])).1
theorem Topo.take {l : List TaskR} {o : List Nat} (h : Topo l o) (m : Nat) : Topo l (o.take m) := by
  intro j i hj
  have hjm : j < m := by
    rcases Nat.lt_or_ge j m with q | q
    · exact q
    · rw [List.getElem?_eq_none (by rw [List.length_take]; omega)] at hj; cases hj
  rw [List.getElem?_take, if_pos hjm] at hj
  rw [List.take_take, Nat.min_eq_left (by omega)]
  exact h j i hj
theorem Topo.cnt {l : List TaskR} {o : List Nat} (h : Topo l o) : cnt (doneOf l.length o) = o.length := by
  have : ∀ m, m ≤ o.length → Proofs.Ytoogicafefennaa.cnt (doneOf l.length (o.take m)) = m := by
    intro m
    induction m with
    | zero => intro _; exact cnt_rep _
    | succ m ih =>
      intro hm
      obtain ⟨h1, h2, h3⟩ := h m o[m] (List.getElem?_eq_getElem (by omega))
      rw [List.take_add_one, List.getElem?_eq_getElem (by omega)]
      show Proofs.Ytoogicafefennaa.cnt (doneOf l.length (o.take m ++ [o[m]])) = _
      rw [doneOf_snoc, cnt_set _ _ (by rw [doneOf_len]; exact h1) h2, ih (by omega)]
  have := this o.length (Nat.le_refl _)
  rwa [List.take_length] at this
theorem Topo.len {l : List TaskR} {o : List Nat} (h : Topo l o) : o.length ≤ l.length := by
  rw [← h.cnt]
  have := cnt_le (doneOf l.length o)
  rwa [doneOf_len] at this
theorem Topo.all {l : List TaskR} {o : List Nat} (h : Topo l o) (hn : l.length ≤ o.length) : ∀ i < l.length, i ∈ o := by
  intro i hi
  rw [← doneOf_gt h.lt]
  exact cnt_all (by rw [doneOf_len, h.cnt]; exact hn) i (by rw [doneOf_len]; exact hi)
/-- Along the order. -/
theorem Topo.ind {l : List TaskR} {o : List Nat} (h : Topo l o) {Q : Nat → Prop} (hs : ∀ (j i : Nat), o[j]? = some i → (∀ k ∈ aft l i, Q k.toNat) → Q i) : ∀ i ∈ o, Q i := by
  have : ∀ (m j : Nat), j < m → ∀ i : Nat, o[j]? = some i → Q i := by
    intro m
    induction m with
    | zero => intro j hj; omega
    | succ m ih =>
      intro j hj i hi
      refine hs j i hi fun k hk => ?_
      obtain ⟨h1, h2, h3⟩ := h j i hi
      have h4 := wt_false.1 h3 k hk
      rw [doneOf_gt (fun x hx => h.lt x (List.mem_of_mem_take hx))] at h4
      obtain ⟨q, hq, e⟩ := List.getElem_of_mem h4
      rw [List.length_take] at hq
      rw [List.getElem_take] at e
      exact ih q (by omega) _ (by rw [List.getElem?_eq_getElem (by omega), e])
  intro i hi
  obtain ⟨j, hj, e⟩ := List.getElem_of_mem hi
  exact this (j + 1) j (by omega) i (by rw [List.getElem?_eq_getElem hj, e])
/-! Closed marks. -/
def Closed (l : List TaskR) (d : Mk) : Prop := ∀ i < l.length, gt d i = true → wt l d i = false
theorem Topo.closed {l : List TaskR} {o : List Nat} (h : Topo l o) : Closed l (doneOf l.length o) := by
  intro i hi hd
  rw [doneOf_gt h.lt] at hd
  obtain ⟨j, hj, e⟩ := List.getElem_of_mem hd
  obtain ⟨h1, h2, h3⟩ := h j i (by rw [List.getElem?_eq_getElem hj, e])
  refine wt_mono (fun k hk => ?_) h3
  rw [doneOf_gt (fun x hx => h.lt x (List.mem_of_mem_take hx))] at hk
  rw [doneOf_gt h.lt]
  exact List.mem_of_mem_take hk
/-- All can be done from anywhere. -/
theorem none_all {l : List TaskR} {o : List Nat} (h : Topo l o) (hn : ∀ i < l.length, i ∈ o) {d : Mk} (hd : nextR l d = none) : ∀ i < l.length, gt d i = true := by
  intro i hi
  exact h.ind (Q := fun i => gt d i = true) (fun j i hj hk => next_none hd (h j i hj).1 (wt_false.2 hk)) i (hn i hi)
def orderP (l : List TaskR) : Nat → List Nat → List Nat
  | 0, o => o
  | f + 1, o => match nextR l (doneOf l.length o) with | none => o | some i => orderP l f (o ++ [i])
theorem orderP_topo {l : List TaskR} : ∀ (f : Nat) (o : List Nat), Topo l o → Topo l (orderP l f o)
  | 0, o, h => h
  | f + 1, o, h => by
    simp only [orderP]
    cases hn : nextR l (doneOf l.length o) with
    | none => exact h
    | some i => exact orderP_topo f _ (h.snoc hn)
def orderL (l : List TaskR) : List Nat := orderP l (l.length + 1) []
def orderR (l : List TaskR) : List Nat × Int := if tasksOk l then (if (orderL l).length < l.length then ([], 24) else (orderL l, 0)) else ([], 1)
/-! What is left. -/
def badB (l : List TaskR) (d : Mk) (i : Nat) : Bool := gt d i && wt l d i
def nextU (l : List TaskR) (d : Mk) : Option Nat := (List.range l.length).find? (badB l d)
def undoP (l : List TaskR) : Nat → Mk → Mk
  | 0, d => d
  | f + 1, d => match nextU l d with | none => d | some i => undoP l f (d.set i false)
theorem nextU_some {l : List TaskR} {d : Mk} {i : Nat} (h : nextU l d = some i) : i < l.length ∧ gt d i = true ∧ wt l d i = true := by
  have h1 := List.find?_some h
  have h2 := List.mem_of_find?_eq_some h
  rw [List.mem_range] at h2
  unfold badB at h1
  rw [Bool.and_eq_true] at h1
  exact ⟨h2, h1⟩
theorem nextU_none {l : List TaskR} {d : Mk} : nextU l d = none ↔ Closed l d := by
  unfold nextU
  rw [List.find?_eq_none]
  constructor
  · intro h i hi hd
    have := h i (List.mem_range.2 hi)
    unfold badB at this
    rw [hd] at this
    simpa using this
  · intro h i hi
    unfold badB
    cases hd : gt d i with
    | false => simp
    | true => rw [h i (List.mem_range.1 hi) hd]; simp
theorem undoP_spec {l : List TaskR} : ∀ (f : Nat) (d : Mk), cnt d < f → (undoP l f d).length = d.length ∧ Closed l (undoP l f d) ∧ Le (undoP l f d) d ∧ ∀ C, Closed l C → Le C d → Le C (undoP l f d)
  | 0, d, h => by omega
  | f + 1, d, h => by
    simp only [undoP]
    cases hn : nextU l d with
    | none => exact ⟨rfl, nextU_none.1 hn, fun k hk => hk, fun C _ hC => hC⟩
    | some i =>
      obtain ⟨h1, h2, h3⟩ := nextU_some hn
      have hil := gt_lt h2
      have hc := cnt_clear d i h2
      obtain ⟨q1, q2, q3, q4⟩ := undoP_spec f (d.set i false) (by omega)
      refine ⟨by rw [q1, List.length_set], q2, fun k hk => ?_, fun C hC hle => q4 C hC fun k hk => ?_⟩
      · have := q3 k hk
        rw [gt_set hil] at this
        split at this
        · cases this
        · exact this
      · rw [gt_set hil]
        by_cases hki : k = i
        · subst hki
          have := wt_mono hle (hC k h1 hk)
          rw [h3] at this; cases this
        · rw [if_neg hki]; exact hle k hk
/-! What can be done of some. -/
def stepD (want d : Mk) (i : Nat) : Mk := if gt want i then d.set i true else d
def roundD (l : List TaskR) (want d : Mk) : Mk := (readyR l d).foldl (stepD want) d
def doesP (l : List TaskR) (want : Mk) : Nat → Mk → Mk
  | 0, d => d
  | f + 1, d => doesP l want f (roundD l want d)
theorem fold_len {want : Mk} : ∀ (rs : List Nat) (d : Mk), (rs.foldl (stepD want) d).length = d.length
  | [], d => rfl
  | i :: r, d => by
    rw [List.foldl_cons, fold_len r]
    unfold stepD
    split
    · rw [List.length_set]
    · rfl
theorem fold_gt {want : Mk} {k : Nat} : ∀ (rs : List Nat) (d : Mk), (∀ i ∈ rs, i < d.length) → (gt (rs.foldl (stepD want) d) k = true ↔ gt d k = true ∨ (k ∈ rs ∧ gt want k = true))
  | [], d, _ => by simp
  | i :: r, d, h => by
    have hl : (stepD want d i).length = d.length := by unfold stepD; split <;> simp
    rw [List.foldl_cons, fold_gt r _ (fun j hj => by rw [hl]; exact h j (.tail _ hj))]
    have : gt (stepD want d i) k = true ↔ gt d k = true ∨ (k = i ∧ gt want k = true) := by
      unfold stepD
      by_cases hw : gt want i = true
      · rw [if_pos hw, gt_set (h i (.head _))]
        by_cases hk : k = i
        · subst hk; simp [hw]
        · rw [if_neg hk]; simp [hk]
      · rw [if_neg hw]
        constructor
        · exact .inl
        · rintro (q | ⟨rfl, q⟩)
          · exact q
          · exact absurd q hw
    rw [this, List.mem_cons]
    constructor
    · rintro ((q | ⟨q, q2⟩) | ⟨q, q2⟩)
      · exact .inl q
      · exact .inr ⟨.inl q, q2⟩
      · exact .inr ⟨.inr q, q2⟩
    · rintro (q | ⟨q | q, q2⟩)
      · exact .inl (.inl q)
      · exact .inl (.inr ⟨q, q2⟩)
      · exact .inr ⟨q, q2⟩
theorem round_gt {l : List TaskR} {want d : Mk} (hd : d.length = l.length) {k : Nat} : gt (roundD l want d) k = true ↔ gt d k = true ∨ (k < l.length ∧ wt l d k = false ∧ gt want k = true) := by
  unfold roundD
  rw [fold_gt _ _ (fun i hi => by rw [hd]; exact (ready_mem.1 hi).1), ready_mem]
  constructor
  · rintro (q | ⟨⟨q1, q2, q3⟩, q4⟩)
    · exact .inl q
    · exact .inr ⟨q1, q3, q4⟩
  · rintro (q | ⟨q1, q3, q4⟩)
    · exact .inl q
    · cases hg : gt d k with
      | true => exact .inl rfl
      | false => exact .inr ⟨⟨q1, rfl, q3⟩, q4⟩
theorem round_len {l : List TaskR} {want d : Mk} : (roundD l want d).length = d.length := fold_len _ _
theorem does_len {l : List TaskR} {want : Mk} : ∀ (f : Nat) (d : Mk), (doesP l want f d).length = d.length
  | 0, d => rfl
  | f + 1, d => by simp only [doesP]; rw [does_len f, round_len]
theorem does_spec {l : List TaskR} {want : Mk} : ∀ (f : Nat) (d : Mk), d.length = l.length → Closed l d → Le d want → Closed l (doesP l want f d) ∧ Le (doesP l want f d) want
  | 0, d, _, h1, h2 => ⟨h1, h2⟩
  | f + 1, d, hd, h1, h2 => by
    simp only [doesP]
    have hle : Le d (roundD l want d) := fun k hk => (round_gt hd).2 (.inl hk)
    refine does_spec f _ (by rw [round_len]; exact hd) (fun i hi hk => ?_) (fun k hk => ?_)
    · rcases (round_gt hd).1 hk with q | ⟨q1, q2, q3⟩
      · exact wt_mono hle (h1 i hi q)
      · exact wt_mono hle q2
    · rcases (round_gt hd).1 hk with q | ⟨q1, q2, q3⟩
      · exact h2 k q
      · exact q3
theorem does_more {l : List TaskR} {want C : Mk} {o : List Nat} (hT : Topo l o) (hC : Closed l C) (hw : Le C want) : ∀ (f m : Nat) (d : Mk), d.length = l.length → (∀ j i, o[j]? = some i → j < m → gt C i = true → gt d i = true) → ∀ j i, o[j]? = some i → j < m + f → gt C i = true → gt (doesP l want f d) i = true
  | 0, m, d, _, h => h
  | f + 1, m, d, hd, h => by
    simp only [doesP]
    intro j i hj hlt hc
    refine does_more hT hC hw f (m + 1) _ (by rw [round_len]; exact hd) (fun j i hj hlt hc => ?_) j i hj (by omega) hc
    rw [round_gt hd]
    rcases Nat.lt_or_ge j m with q | q
    · exact .inl (h j i hj q hc)
    · obtain ⟨h1, h2, h3⟩ := hT j i hj
      refine .inr ⟨h1, wt_false.2 fun k hk => ?_, hw i hc⟩
      have h4 := wt_false.1 h3 k hk
      rw [doneOf_gt (fun x hx => hT.lt x (List.mem_of_mem_take hx))] at h4
      obtain ⟨p, hp, e⟩ := List.getElem_of_mem h4
      rw [List.length_take] at hp
      rw [List.getElem_take] at e
      exact h p _ (by rw [List.getElem?_eq_getElem (by omega), e]) (by omega) (wt_false.1 (hC i h1 hc) k hk)
/-- What is left is what can be done. -/
theorem left_can {l : List TaskR} {o : List Nat} (hT : Topo l o) (hn : ∀ i < l.length, i ∈ o) (want : Mk) (hwl : want.length = l.length) {f : Nat} (hf : cnt want < f) : undoP l f want = doesP l want l.length (List.replicate l.length false) := by
  obtain ⟨u1, u2, u3, u4⟩ := undoP_spec (l := l) f want hf
  have hr : (List.replicate l.length false).length = l.length := List.length_replicate
  obtain ⟨c1, c2⟩ := does_spec (l := l) (want := want) l.length (List.replicate l.length false) hr (fun i _ h => by rw [gt_rep] at h; cases h) (fun k h => by rw [gt_rep] at h; cases h)
  refine mk_ext (by rw [u1, does_len, hr, hwl]) (fun k hk => ?_) (u4 _ c1 c2)
  have hkl : k < l.length := by rw [← hwl]; exact gt_lt (u3 k hk)
  obtain ⟨j, hj, e⟩ := List.getElem_of_mem (hn k hkl)
  have hol := hT.len
  exact does_more hT u2 u3 l.length 0 _ hr (fun j i _ h => by omega) j k (by rw [List.getElem?_eq_getElem hj, e]) (by omega) hk
/-! All again. -/
def againP (l : List TaskR) : Nat → Mk → Mk
  | 0, d => d
  | f + 1, d => match nextR l d with | none => d | some i => againP l f (d.set i true)
theorem again_all {l : List TaskR} {o : List Nat} (hT : Topo l o) (hn : ∀ i < l.length, i ∈ o) : ∀ (f : Nat) (d : Mk), d.length = l.length → l.length ≤ cnt d + f → ∀ i < l.length, gt (againP l f d) i = true
  | 0, d, hd, h => by
    intro i hi
    show gt d i = true
    exact cnt_all (by omega) i (by omega)
  | f + 1, d, hd, h => by
    simp only [againP]
    cases hx : nextR l d with
    | none => exact none_all hT hn hx
    | some i =>
      obtain ⟨h1, h2, h3⟩ := next_some hx
      have := cnt_set d i (by omega) h2
      exact again_all hT hn f _ (by rw [List.length_set]; exact hd) (by omega)
end Go.Proofs.Ytoogicafefennaa
/-
  The layer 'Sy': a row that grows, nil or an own block: appended to by one rule, read as a slice.
-/
namespace Go.Sy
set_option linter.unusedVariables false
open Go.RowKit
set_option linter.unusedVariables false
set_option linter.unusedSimpArgs false
theorem Split.nilA {H : Heap} : Split H [] H := by unfold Split; simp
def RowS.fresh (r : RowS) (b : Nat) : Prop := ∀ g, r.g = some g → b ≤ g
theorem RowS.fresh_start {b : Nat} : RowS.start.fresh b := fun g h => by cases h
theorem RowS.ok_start {size : Nat} : RowS.start.ok size 0 [] := ⟨rfl, rfl, rfl⟩
theorem RowS.ok_some {g cap size n : Nat} {xs tail : List Value} (h1 : n ≤ cap) (h2 : (xs ++ tail).length = cap * size) (h3 : xs.length = n * size) : RowS.ok ⟨some g, cap, tail⟩ size n xs := ⟨h1, h2, h3⟩
theorem RowS.drop {r : RowS} {xs : List Value} {T : TypeId} {w : World} (h : r.fresh w.heap.size) : ∀ p ∈ r.hp xs T, w.heap.size ≤ p.1 := by
  rcases r with ⟨_ | g, cap, tail⟩
  · intro p hp; cases hp
  · intro p hp
    simp only [RowS.hp, List.mem_singleton] at hp
    subst hp
    exact h g rfl
theorem Spc.permP {P : Program} {N Be : Nat} {Q : Post} {e : Env} {w0 : World} {H H' : Heap} {c : Code} (hp : H.Perm H') (h : Spc P N Be c Q e w0 H') : Spc P N Be c Q e w0 H :=
  fun a w hf hh => h a w hf (hh.perm hp)
section
variable {P : Program} {N Be : Nat} {Q : Post} {e : Env} {w0 : World} {H : Heap} {ops : Array Oper} {rest : List Oper} {ty : TypeId} {pos : String} {after : Array Edge} {d : Nat}
theorem spl_append_row {t tx el size bytes : Nat} {z : Value} {x y : Operand} {r : RowS} {n m : Nat} {yv : Value} {xs news : List Value} {Hr : Heap} [ht : TSlice P t el] [hz : TZero P el z] [hs : TSize P el size] [hby : TBytes P el bytes]
    (hx : Ev true e x (r.val n)) (hy : Ev true e y yv) (hsp : Split H (r.hp xs el) Hr) (hok : r.ok size n xs) (hfr : r.fresh w0.heap.size) (hm : 0 < m)
    (hn : ∀ w, Hp Be w0 H w → SrcAt P size tx yv m news w) (hnl : news.length = m * size) (hb : (n + m) * bytes ≤ 140737488355328) (hpos : Nat.blt 0 bytes = true) (hp2 : Nat.blt 0 size = true) (hzs : Nat.beq z.cells.size size = true) (hN : Nat.blt d N = true)
    (k : ∀ r' : RowS, r'.ok size (n + m) (xs ++ news) → r'.fresh w0.heap.size → Spl P N Be ops Q rest ((d, true, r'.val (n + m)) :: e) w0 (r'.hp (xs ++ news) el ++ Hr)) :
    Spl P N Be ops Q (⟨some d, .call ⟨.builtin .append, #[x, y], #[t, tx]⟩, ty, pos, after, none⟩ :: rest) e w0 H := by
  refine Spl.perm hsp ?_
  have hn' : ∀ w, Hp Be w0 (r.hp xs el ++ Hr) w → SrcAt P size tx yv m news w := fun w hh => hn w (hh.perm (List.Perm.symm hsp))
  rcases r with ⟨_ | g, cap, tail⟩
  · obtain ⟨h1, h2, h3⟩ := hok
    have h2' : cap = 0 := h2
    subst h1 h2' h3
    have hz0 : (0 : Nat) * size = 0 := Nat.zero_mul _
    refine spl_append_grow (olds := []) (news := news) (m := m) hx hy (fun w' hh => CellsAt.nil) (by rw [hz0]; rfl) hn' (by omega) hb hpos hp2 hzs hN (fun g' cap' tail' h4 h5 h6 => ?_)
    exact k ⟨some g', cap', tail'⟩ (RowS.ok_some h5 h6 (by simpa using hnl)) (fun g h => by cases h; exact h4)
  · obtain ⟨h1, h2, h3⟩ := hok
    refine spl_append_own (xs := xs) (tail := tail) (news := news) (m := m) hx hy (Rem.here (o := .cells (xs ++ tail).toArray el (0, 0))) (hfr g rfl) h3 h2 h1 hn' hnl hb hpos hp2 hzs hN (fun g' cap' tail' h4 h5 h6 => ?_)
    exact k ⟨some g', cap', tail'⟩ (RowS.ok_some h5 h6 (by rw [List.length_append, h3, hnl, Nat.add_mul])) (fun g h => by cases h; exact h4)
end
/-- What stands in a row, read as a slice. -/
theorem RdS.ofRowS {α : Type} {w0 w : World} {Be sz : Nat} {C : α → Array Value} {n : Nat} {xs : List α} {r : RowS} {T : TypeId} {H Hr : Heap} (hh : Hp Be w0 H w) (hsp : Split H (r.hp (xs.flatMap fun x => (C x).toList) T) Hr) (hl : xs.length = n) (hn : n ≤ 9223372036854775807) (hs : ∀ x ∈ xs, (C x).size = sz)
    (hok : r.ok sz n (xs.flatMap fun x => (C x).toList)) : RdS w w.heap.size sz C (r.g.map fun g => ⟨g, 0, none⟩) n xs := by
  have hh' := hh.perm hsp
  rcases r with ⟨_ | g, cap, tail⟩
  · obtain ⟨h1, -, -⟩ := hok
    subst h1
    obtain rfl := List.eq_nil_of_length_eq_zero hl
    exact RdS.none_
  · exact RdS.ofRow (hh'.own _ (.head _)) (hh'.lt (.head _)) hl hn hs
end Go.Sy
/-
  The layer 'Sy': jumps back to a label.
-/
namespace Go.Sy
set_option linter.unusedVariables false
open Go.RowKit
set_option linter.unusedVariables false
set_option linter.unusedSimpArgs false
section
variable {P : Program} {N Be : Nat} {Q : Post} {e : Env} {w0 : World} {H : Heap} {K : Env → World → Heap → Prop}
def jumpQ (l : Nat) (K : Env → World → Heap → Prop) (Q : Post) : Post := fun x e w H => match x with | .goto l' => l' = l ∧ K e w H | x => Q x e w H
theorem sp_goto {l : Nat} (h : Q (.goto l) e w0 H) : Spc P N Be (.goto l) Q e w0 H := fun a w hf hh => wp_goto ⟨e, w0, H, hf, hh, h⟩
theorem then_g {l : Nat} (h : Q (.goto l) e w0 H) : thenQ K Q (.goto l) e w0 H := h
theorem block_g {id l : Nat} (h : Q (.goto l) e w0 H) : blockQ id Q (.goto l) e w0 H := h
theorem jump_n {l : Nat} (h : Q .normal e w0 H) : jumpQ l K Q .normal e w0 H := h
theorem jump_r {l : Nat} (h : Q .ret e w0 H) : jumpQ l K Q .ret e w0 H := h
theorem jump_e {l id : Nat} (h : Q (.exit id) e w0 H) : jumpQ l K Q (.exit id) e w0 H := h
theorem jump_g {l : Nat} (h : K e w0 H) : jumpQ l K Q (.goto l) e w0 H := ⟨rfl, h⟩
/-- What holds at a jump: a state of the family. -/
def jumpK {X : Type} (E : X → Env) (W : X → World) (HH : X → Heap) (I : X → Prop) (e' : Env) (w' : World) (H' : Heap) : Prop := ∃ x, I x ∧ ESub (E x) e' ∧ W x = w' ∧ HKeep w' (HH x) H'
def jumpM {X : Type} (E : X → Env) (W : X → World) (HH : X → Heap) (I : X → Prop) (m : X → Nat) (n : Nat) (e' : Env) (w' : World) (H' : Heap) : Prop := ∃ x, I x ∧ m x < n ∧ ESub (E x) e' ∧ W x = w' ∧ HKeep w' (HH x) H'
theorem sp_jumps {c rest : Code} {X : Type} (l : Nat) (E : X → Env) (W : X → World) (HH : X → Heap) (I : X → Prop) (m : X → Nat) (hf : findLabel c l = some (.seq .skip rest))
    (pass : ∀ x, I x → Spc P N Be rest (jumpQ l (jumpM E W HH I m (m x)) Q) (E x) (W x) (HH x))
    (first : (∀ x e H, I x → ESub (E x) e → HKeep (W x) (HH x) H → Spc P N Be rest (jumpQ l (jumpK E W HH I) Q) e (W x) H) → Spc P N Be c (jumpQ l (jumpK E W HH I) Q) e w0 H) : Spc P N Be (.scope c) Q e w0 H := by
  have first' := first (fun x e H hI he hH => by
    refine ((pass x hI).weaken he hH).mono fun ex e' w' H' hq => ?_
    cases ex <;> first | exact hq | skip
    obtain ⟨h1, x', h2, _, h3⟩ := hq
    exact ⟨h1, x', h2, h3⟩)
  intro a w hfr hh b k cs
  have hg : gotoIn l (.inScope c :: k) = some (.code (.seq .skip rest) :: .inScope c :: k) := by simp [gotoIn, hf]
  have key : ∀ (n : Nat) (x : X) (a : Act) (w : World), m x = n → I x → Fr N (E x) a → Hp Be (W x) (HH x) w →
      ∃ e a' w', lift N Be Q e a' w' ∧ Arrives P (lone (b.at a (.code (.seq .skip rest) :: .inScope c :: k)) cs w) b k cs e a' w' := by
    intro n
    induction n using Nat.strongRecOn with
    | _ n ih =>
      intro x a w hn hI hfr hh
      have hs : Spc P N Be (.seq .skip rest) (jumpQ l (jumpM E W HH I m (m x)) Q) (E x) (W x) (HH x) := sp_seq (sp_skip (pass x hI))
      obtain ⟨ex, a₁, w₁, hq, harr⟩ := hs a w hfr hh b (.inScope c :: k) cs
      obtain ⟨e', w', H', q1, q2, q3⟩ := hq
      cases ex with
      | normal => exact ⟨.normal, a₁, w₁, ⟨e', w', H', q1, q2, q3⟩, Steps.trans harr (.one step_inScope)⟩
      | exit id => exact ⟨.exit id, a₁, w₁, ⟨e', w', H', q1, q2, q3⟩, fun k' hk => harr k' (by simp [exitTo, hk])⟩
      | goto l' =>
        obtain ⟨rfl, x', h1, h2, h3, h4, h5⟩ := q3
        subst h4
        obtain ⟨e₂, a₂, w₂, hq₂, harr₂⟩ := ih (m x') (by omega) x' a₁ w₁ rfl h1 (q1.sub h3) (q2.sub h5)
        exact ⟨e₂, a₂, w₂, hq₂, .of_steps (harr _ hg) harr₂⟩
      | ret => exact ⟨_, a₁, w₁, ⟨e', w', H', q1, q2, q3⟩, harr⟩
      | panic ch => exact ⟨_, a₁, w₁, ⟨e', w', H', q1, q2, q3⟩, harr⟩
      | outgrown => exact ⟨_, a₁, w₁, ⟨e', w', H', q1, q2, q3⟩, harr⟩
  obtain ⟨ex, a₁, w₁, hq, harr⟩ := first' a w hfr hh b (.inScope c :: k) cs
  obtain ⟨e', w', H', q1, q2, q3⟩ := hq
  cases ex with
  | normal => exact ⟨.normal, a₁, w₁, ⟨e', w', H', q1, q2, q3⟩, .head step_scope (Steps.trans harr (.one step_inScope))⟩
  | exit id => exact ⟨.exit id, a₁, w₁, ⟨e', w', H', q1, q2, q3⟩, fun k' hk => .head step_scope (harr k' (by simp [exitTo, hk]))⟩
  | goto l' =>
    obtain ⟨rfl, x', h1, h3, h4, h5⟩ := q3
    subst h4
    obtain ⟨e₂, a₂, w₂, hq₂, harr₂⟩ := key _ x' a₁ w₁ rfl h1 (q1.sub h3) (q2.sub h5)
    exact ⟨e₂, a₂, w₂, hq₂, .of_steps (.head step_scope (harr _ hg)) harr₂⟩
  | ret => exact ⟨_, a₁, w₁, ⟨e', w', H', q1, q2, q3⟩, .of_steps (.one step_scope) harr⟩
  | panic ch => exact ⟨_, a₁, w₁, ⟨e', w', H', q1, q2, q3⟩, .of_steps (.one step_scope) harr⟩
  | outgrown => exact ⟨_, a₁, w₁, ⟨e', w', H', q1, q2, q3⟩, .of_steps (.one step_scope) harr⟩
theorem sp_straight {c : Code} (h : Spc P N Be c (jumpQ 0 (fun _ _ _ => False) Q) e w0 H) : Spc P N Be (.scope c) Q e w0 H := by
  intro a w hf hh
  refine wp_scope_straight (wp_mono (h a w hf hh) ?_)
  rintro x a w ⟨e, w0, H, h1, h2, h3⟩
  cases x <;> first | exact ⟨e, w0, H, h1, h2, h3⟩ | skip
  exact h3.2.elim
end
end Go.Sy
/-
  Contracts of package task: Valid, waits.
-/
namespace Go.Proofs.Ytoogicafefennaa
set_option linter.unusedVariables false
open Go.RowKit Go.Sy
set_option linter.unusedVariables false
set_option linter.unusedSimpArgs false
def intC (k : Int) : Array Value := #[.int .i64 k]
def boolC (b : Bool) : Array Value := #[.bool b]
instance TaskR.one (t : TaskR) : Ones t.cells := ⟨by intro v hv; simp [TaskR.cells] at hv; rcases hv with h | h | h | h <;> subst h <;> rfl⟩
/-- Tasks in memory. -/
def RdTasks (w : World) (Be : Nat) (s : Sl) (l : List TaskR) : Prop := RdS w Be 4 TaskR.cells s.a s.n l ∧ ∀ t ∈ l, RdS w Be 1 intC t.sl.a t.sl.n t.after
theorem RdTasks.hp {w0 w : World} {Be : Nat} {H : Heap} {s : Sl} {l : List TaskR} (h : RdTasks w0 Be s l) (hh : Hp Be w0 H w) : RdTasks w w.heap.size s l := ⟨h.1.hp' hh, fun x hx => (h.2 x hx).hp' hh⟩
theorem RdTasks.to {w w' : World} {s : Sl} {l : List TaskR} (h : RdTasks w w.heap.size s l) (hb : Below w.heap.size w w') : RdTasks w' w'.heap.size s l := ⟨h.1.to hb, fun x hx => (h.2 x hx).to hb⟩
theorem drop_all {α : Type} {p : α → Bool} {xs : List α} {i : Nat} {x : α} (h : xs[i]? = some x) : (xs.drop i).all p = (p x && (xs.drop (i + 1)).all p) := by
  obtain ⟨h1, h2⟩ := List.getElem?_eq_some_iff.1 h
  rw [← List.getElem_cons_drop h1, h2, List.all_cons]
theorem drop_all_end {α : Type} {p : α → Bool} {xs : List α} {i : Nat} (h : xs.length ≤ i) : (xs.drop i).all p = true := by rw [List.drop_eq_nil_of_le h]; rfl
theorem incr_at {n : Nat} {last k : Int} {xs : List Int} {j : Nat} (h : xs[j]? = some k) : incr n last (xs.drop j) = (!(decide (k ≤ last) || !decide (k < (n : Int))) && incr n k (xs.drop (j + 1))) := by
  obtain ⟨h1, h2⟩ := List.getElem?_eq_some_iff.1 h
  rw [← List.getElem_cons_drop h1, h2]
  all_goals rfl
attribute [local irreducible] Calls thenQ blockQ retQ jumpQ Spc Spl Spq Ex Ev Evs Gd Upd ESub HKeep Res Res1 wlk effQ Rem SrcAt Split
set_option maxRecDepth 100000 in
set_option maxHeartbeats 4000000 in
theorem valid_c {w : World} {s : Sl} {l : List TaskR} (h : RdTasks w w.heap.size s l) : Calls Try.prog 24 #[.slice s.a s.n s.c] w (Ret w (.bool (tasksOk l))) := by
  obtain ⟨A, n, c⟩ := s
  obtain ⟨h, h2⟩ := h
  dsimp only at h
  have hbd : n ≤ 9223372036854775807 := h.bound
  have hlen : l.length = n := h.len
  refine sp_enter (vs := [_]) Try.func24 rfl Try.ntmps24 rfl ?_
  unfold tasksOk
  by_cases hbig : (40 : Int) < (n : Int)
  · rw [hlen, decide_eq_true hbig]
    repeat (first|(apply sp_cond_t;(·exact eT rfl);(·exact decide_eq_true hbig))|apply then_n|apply sp_seq|apply sp_region|apply spl_nil|apply then_r|apply sp_ret|((apply spl_pure rfl);(·(((first|apply ex_move|apply ex_assign|apply ex_gtr|apply ex_len)<;>(first|exact eT rfl|exact eC))))))
    (apply ret_ok rfl;(·((apply Res.ofOne;((apply Res1.tmp;(·rfl))))))); rfl
  · rw [hlen, decide_eq_false hbig]
    repeat (first|(apply sp_cond_f;(·exact eT rfl);(·exact decide_eq_false hbig))|apply then_n|apply sp_seq|apply sp_region|apply spl_nil|apply sp_skip|apply sp_block|((apply spl_pure rfl);(·(((first|apply ex_move|apply ex_assign|apply ex_gtr|apply ex_len)<;>(first|exact eT rfl|exact eC))))))
    refine sp_loop (X := Nat) (fun i => [(13, true, .int .i64 (i : Int)), (12, true, .int .i64 (n : Int)), (11, true, .slice A n c), (0, true, .slice A n c)]) (fun _ => w) (fun _ => []) (fun i => i ≤ n ∧ l.all (taskOk n) = (l.drop i).all (taskOk n)) (fun i => n - i) 0 ⟨Nat.zero_le _, rfl⟩ (by (repeat (first|exact ESub.nil|apply ESub.cons rfl))) rfl (by (repeat (exact HKeep.refl))) ?_
    rintro i ⟨hi, hinv⟩
    by_cases hlt : i < n
    · obtain ⟨ad, x, hA, hb, hx, hsz, hc⟩ := h.at_ hlt
      have hsl := h2 x (List.mem_of_getElem? hx)
      have hbd2 := hsl.bound
      have hlen2 : x.after.length = x.sl.n := hsl.len
      rw [drop_all hx] at hinv
      obtain ⟨hd, hhd⟩ : ∃ b, b = (((decide (x.hours < 1) || decide (1000 < x.hours)) || decide (x.skill < 0)) || !decide (x.skill < 8)) := ⟨_, rfl⟩
      have hcond : (((decide (x.hours < 1) || decide (1000 < x.hours)) || decide (x.skill < 0)) || decide (8 ≤ x.skill)) = hd := by
        rw [hhd, show decide (8 ≤ x.skill) = !decide (x.skill < 8) by rw [Bool.eq_iff_iff]; simp]
      have hfk : taskOk n x = (!hd && incr n (-1) x.after) := by unfold taskOk; rw [hhd]
      rw [hfk] at hinv
      cases hd with
      | true =>
        rw [show (!true && incr n (-1) x.after) = false from rfl, Bool.false_and] at hinv
        rw [hinv]
        repeat (first|(apply sp_cond_t;(·exact eT rfl);(·exact hcond))|apply then_n|apply sp_seq|apply sp_region|apply spl_nil|apply then_r|apply block_r|((apply sp_cond_t);(·exact eT rfl);(·(exact decide_eq_true (by omega))))|apply sp_skip|apply sp_ret|apply sp_block|((first|apply spl_pure rfl|(apply spl_pure_g rfl;(·exact Gd.tf rfl rfl)));(·(first|(apply ex_loadelem;(·exact eT rfl);(·exact h);(·exact hA);(·exact hx))|((first|apply ex_move|apply ex_assign|apply ex_fieldAddr'|apply ex_lss|apply ex_gtr|apply ex_geq)<;>(first|exact eT rfl|exact eC|exact eG rfl))|((apply ex_orT)<;>(first|exact eT rfl|exact eG rfl))|((first|apply ex_loadown|apply ex_indexAddr)<;>(first|exact eT rfl|exact eG rfl|exact Bk.own InH.mem|rfl|assumption)))))|(apply spl_alloc rfl;intro _ _)|(apply spl_stores;(·exact eT rfl);(·exact eT rfl);(·(repeat (exact Upd.here)));(·(rfl));(·(rfl));(·exact Ones.one)))
        (apply ret_ok rfl;(·((apply Res.ofOne;((apply Res1.tmp;(·rfl))))))); rfl
      | false =>
        rw [show (!false && incr n (-1) x.after) = incr n (-1) x.after from rfl] at hinv
        repeat (first|(apply sp_cond_f;(·exact eT rfl);(·exact hcond))|apply then_n|apply sp_seq|apply sp_region|apply spl_nil|((apply sp_cond_t);(·exact eT rfl);(·(exact decide_eq_true (by omega))))|apply sp_skip|apply sp_block|((first|apply spl_pure rfl|(apply spl_pure_g rfl;(·exact Gd.tf rfl rfl)));(·(first|(apply ex_loadelem;(·exact eT rfl);(·exact h);(·exact hA);(·exact hx))|((first|apply ex_move|apply ex_assign|apply ex_fieldAddr'|apply ex_lss|apply ex_gtr|apply ex_geq|apply ex_len)<;>(first|exact eT rfl|exact eC|exact eG rfl))|((apply ex_orT)<;>(first|exact eT rfl|exact eG rfl))|((first|apply ex_loadown|apply ex_indexAddr)<;>(first|exact eT rfl|exact eG rfl|exact Bk.own InH.mem|rfl|assumption)))))|(apply spl_alloc rfl;intro _ _)|(apply spl_stores;(·exact eT rfl);(·exact eT rfl);(·(repeat (exact Upd.here)));(·(rfl));(·(rfl));(·exact Ones.one)))
        rename_i g4 hg4
        refine sp_loop (X := Nat × Int) (fun y => [(38, true, .int .i64 (y.1 : Int)), (5, true, .int .i64 y.2), (37, true, .int .i64 (x.sl.n : Int)), (36, true, .slice x.sl.a x.sl.n x.sl.c), (13, true, .int .i64 (i : Int)), (12, true, .int .i64 (n : Int)), (11, true, .slice A n c), (0, true, .slice A n c)]) (fun _ => w) (fun _ => []) (fun y => y.1 ≤ x.sl.n ∧ incr n (-1) x.after = incr n y.2 (x.after.drop y.1)) (fun y => x.sl.n - y.1) (0, -1) ⟨Nat.zero_le _, rfl⟩ (by (repeat (first|exact ESub.nil|apply ESub.cons rfl))) rfl (by (repeat (first|exact HKeep.refl|apply HKeep.drop (by first|assumption|omega)))) ?_
        rintro ⟨j, last⟩ ⟨hj, hinv2⟩
        replace hj : j ≤ x.sl.n := hj
        replace hinv2 : incr n (-1) x.after = incr n last (x.after.drop j) := hinv2
        dsimp only
        by_cases hlt2 : j < x.sl.n
        · obtain ⟨ad2, k, hA2, hb2, hk, hsz2, hc2⟩ := hsl.at_ hlt2
          rw [incr_at hk] at hinv2
          obtain ⟨hd2, hhd2⟩ : ∃ b, b = (decide (k ≤ last) || !decide (k < (n : Int))) := ⟨_, rfl⟩
          have hcond2 : (decide (k ≤ last) || decide ((n : Int) ≤ k)) = hd2 := by
            rw [hhd2, show decide ((n : Int) ≤ k) = !decide (k < (n : Int)) by rw [Bool.eq_iff_iff]; simp]
          rw [← hhd2] at hinv2
          cases hd2 with
          | true =>
            rw [show (!true && incr n k (x.after.drop (j + 1))) = false from rfl] at hinv2
            rw [hinv2, Bool.false_and] at hinv
            rw [hinv]
            repeat (first|(apply sp_cond_t;(·exact eT rfl);(·exact hcond2))|apply then_n|apply sp_seq|apply sp_region|apply spl_nil|apply then_r|apply block_r|((apply sp_cond_t);(·exact eT rfl);(·(exact decide_eq_true (by omega))))|apply sp_skip|apply sp_ret|apply sp_block|((first|apply spl_pure rfl|(apply spl_pure_g rfl;(·exact Gd.tf rfl rfl)));(·(first|(apply ex_loadfield (ad:=ad2) (i:=j) (k:=0);(·exact eT rfl);(·exact hsl);(·exact hA2);(·exact hk);(·rfl))|((first|apply ex_move|apply ex_assign|apply ex_lss|apply ex_leq|apply ex_geq|apply ex_len)<;>(first|exact eT rfl|exact eC|exact eG rfl))|((apply ex_orT)<;>(first|exact eT rfl|exact eG rfl))|((apply ex_indexAddr)<;>(first|exact eT rfl|assumption))))))
            (apply ret_ok rfl;(·((apply Res.ofOne;((apply Res1.tmp;(·rfl))))))); rfl
          | false =>
            rw [show (!false && incr n k (x.after.drop (j + 1))) = incr n k (x.after.drop (j + 1)) from rfl] at hinv2
            repeat (first|(apply sp_cond_f;(·exact eT rfl);(·exact hcond2))|apply then_n|apply block_n|apply sp_seq|apply sp_region|apply spl_nil|((apply sp_cond_t);(·exact eT rfl);(·(exact decide_eq_true (by omega))))|apply sp_skip|apply sp_block|((first|apply spl_pure rfl|(apply spl_pure_g rfl;(·exact Gd.tf rfl rfl)));(·(first|(apply ex_loadfield (ad:=ad2) (i:=j) (k:=0);(·exact eT rfl);(·exact hsl);(·exact hA2);(·exact hk);(·rfl))|((first|apply ex_move|apply ex_assign|apply ex_lss|apply ex_leq|apply ex_geq|apply ex_len)<;>(first|exact eT rfl|exact eG rfl))|((apply ex_orT)<;>(first|exact eT rfl|exact eG rfl))|(apply ex_addn<;>(first|exact eT rfl|exact eC|(constructor<;>omega)))|((apply ex_indexAddr)<;>(first|exact eT rfl|assumption))))))
            exact ⟨(j + 1, k), ⟨hlt2, hinv2⟩, by (show x.sl.n - (j + 1) < x.sl.n - j; omega), (by (repeat (first|exact ESub.nil|apply ESub.cons rfl))), rfl, (by (repeat (exact HKeep.refl)))⟩
        · rw [List.drop_eq_nil_of_le (by omega)] at hinv2
          rw [hinv2, show incr n last [] = true from rfl, Bool.true_and] at hinv
          repeat (first|apply then_n|apply block_n|apply sp_seq|apply sp_region|apply spl_nil|apply then_e|apply block_here|(apply sp_cond_f;(·exact eT rfl);(·(exact decide_eq_false (by omega))))|apply sp_exit|((apply spl_pure rfl);(·(first|((first|apply ex_move|apply ex_lss)<;>(exact eT rfl))|(apply ex_addn<;>(first|exact eT rfl|exact eC|(constructor<;>omega)))))))
          exact ⟨i + 1, ⟨hlt, hinv⟩, by (show n - (i + 1) < n - i; omega), (by (repeat (first|exact ESub.nil|apply ESub.cons rfl))), rfl, (by (repeat (exact HKeep.refl)))⟩
    · rw [drop_all_end (by omega)] at hinv
      rw [hinv]
      repeat (first|apply then_n|apply sp_seq|apply sp_region|apply spl_nil|apply then_e|apply block_here|(apply sp_cond_f;(·exact eT rfl);(·(exact decide_eq_false (by omega))))|apply sp_ret|apply sp_exit|((apply spl_pure rfl);(·(((first|apply ex_assign|apply ex_lss)<;>(first|exact eT rfl|exact eC))))))
      (apply ret_ok rfl;(·((apply Res.ofOne;((apply Res1.tmp;(·rfl))))))); rfl
/-! Functions handed in. -/
set_option maxRecDepth 100000 in
set_option maxHeartbeats 4000000 in
theorem idxf_c {w : World} {A : Option Addr} {n c : Nat} {xs : List Int} {f : Nat} [TFn Try.prog f] {cap : List Value} {p : Int → Bool} (h : RdS w w.heap.size 1 intC A n xs)
    (hf : ∀ w', Below w.heap.size w w' → ∀ k ∈ xs, Calls Try.prog f (Value.int .i64 k :: cap).toArray w' (Ret w' (.bool (p k)))) :
    Calls Try.prog 59 #[.slice A n c, .func (.func f) #[] cap.toArray] w (Ret w (.int .i64 (idx xs p))) := by
  have hbd := h.bound
  refine sp_enter (vs := [_, _]) Try.func59 rfl Try.ntmps59 rfl ?_
  repeat (first|apply then_n|apply sp_seq|apply sp_region|apply spl_nil|apply sp_block|((apply spl_pure rfl);(·(((first|apply ex_move|apply ex_assign|apply ex_len)<;>(first|exact eT rfl|exact eC))))))
  refine sp_loop (X := Nat) (fun k => [(8, true, .int .i64 k), (7, true, .int .i64 n), (0, true, .slice A n c), (1, true, .func (.func f) #[] cap.toArray)]) (fun _ => w) (fun _ => []) (fun k => k ≤ n ∧ (xs.take k).any p = false) (fun k => n - k) 0 ⟨Nat.zero_le _, rfl⟩ (by (repeat (first|exact ESub.nil|apply ESub.cons rfl))) rfl (by (repeat (exact HKeep.refl))) ?_
  rintro k ⟨hk, hno⟩
  by_cases hlt : k < n
  · obtain ⟨ad, x, hA, hb, hx, hsz, hc⟩ := h.at_ hlt
    have hfx := fun w' (hh : Below w.heap.size w w') => hf w' hh x (List.mem_of_getElem? hx)
    cases hp : p x with
    | true =>
      rw [hp] at hfx
      repeat (first|(apply spl_callv (f:=f) (first:=[]) (cap:=cap) rfl;(·exact eT rfl);(·(repeat (first|exact eN|(apply eS;(·exact eT rfl)))));(·exact fun w' hh => hfx w' hh.belowBe))|apply then_n|apply sp_seq|apply sp_region|apply spl_nil|apply then_r|apply block_r|((apply sp_cond_t);(·exact eT rfl);(·(first|exact decide_eq_true (by omega)|rfl)))|apply sp_skip|apply sp_ret|apply sp_block|((apply spl_pure rfl);(·(first|(apply ex_loadfield (ad:=ad) (i:=k) (k:=0);(·exact eT rfl);(·exact h);(·exact hA);(·exact hx);(·rfl))|((first|apply ex_move|apply ex_assign|apply ex_lss)<;>(exact eT rfl))|((apply ex_indexAddr)<;>(first|exact eT rfl|assumption))))))
      (apply ret_ok rfl;(·((apply Res.ofOne;((apply Res1.tmp;(·rfl))))))); rw [idx_hit hno hx hp]
    | false =>
      rw [hp] at hfx
      repeat (first|(apply spl_callv (f:=f) (first:=[]) (cap:=cap) rfl;(·exact eT rfl);(·(repeat (first|exact eN|(apply eS;(·exact eT rfl)))));(·exact fun w' hh => hfx w' hh.belowBe))|apply then_n|apply block_n|apply sp_seq|apply sp_region|apply spl_nil|((apply sp_cond_t);(·exact eT rfl);(·(exact decide_eq_true (by omega))))|(apply sp_cond_f;(·exact eT rfl);(·(rfl)))|apply sp_skip|apply sp_block|((apply spl_pure rfl);(·(first|(apply ex_loadfield (ad:=ad) (i:=k) (k:=0);(·exact eT rfl);(·exact h);(·exact hA);(·exact hx);(·rfl))|((first|apply ex_move|apply ex_assign|apply ex_lss)<;>(exact eT rfl))|(apply ex_addn<;>(first|exact eT rfl|exact eC|(constructor<;>omega)))|((apply ex_indexAddr)<;>(first|exact eT rfl|assumption))))))
      exact ⟨k + 1, ⟨hlt, any_miss hno hx hp⟩, by (show n - (k + 1) < n - k; omega), (by (repeat (first|exact ESub.nil|apply ESub.cons rfl))), rfl, (by (repeat (exact HKeep.refl)))⟩
  ·
    repeat (first|apply then_n|apply sp_seq|apply sp_region|apply spl_nil|apply then_e|apply block_here|(apply sp_cond_f;(·exact eT rfl);(·(exact decide_eq_false (by omega))))|apply sp_ret|apply sp_exit|((apply spl_pure rfl);(·(((first|apply ex_assign|apply ex_lss)<;>(first|exact eT rfl|exact eC))))))
    (apply ret_ok rfl;(·((apply Res.ofOne;((apply Res1.tmp;(·rfl))))))); rw [idx_none hno (by rw [h.len]; omega)]
theorem idx_nonneg {α : Type} (xs : List α) (p : α → Bool) : decide ((0 : Int) ≤ idx xs p) = xs.any p := by
  rcases idx_cases xs p with ⟨h1, h2⟩ | ⟨k, x, h1, h2, h3, h4⟩
  · rw [h2]
    have : xs.any p = false := by
      rw [List.any_eq_false]
      intro x hx
      simpa using List.find?_eq_none.1 h1 x hx
    rw [this]; rfl
  · rw [h2]
    have := List.find?_some h1
    rw [any_hit h3 this]
    simp
set_option maxRecDepth 100000 in
set_option maxHeartbeats 4000000 in
theorem anyf_c {w : World} {A : Option Addr} {n c : Nat} {xs : List Int} {f : Nat} [TFn Try.prog f] {cap : List Value} {p : Int → Bool} (h : RdS w w.heap.size 1 intC A n xs)
    (hf : ∀ w', Below w.heap.size w w' → ∀ k ∈ xs, Calls Try.prog f (Value.int .i64 k :: cap).toArray w' (Ret w' (.bool (p k)))) :
    Calls Try.prog 31 #[.slice A n c, .func (.func f) #[] cap.toArray] w (Ret w (.bool (xs.any p))) := by
  refine sp_enter (vs := [_, _]) Try.func31 rfl Try.ntmps31 rfl ?_
  repeat (first|(apply spl_callp rfl;(·(repeat (first|exact eN|(apply eS;(·exact eT rfl)))));(·exact fun w' hh => idxf_c (h.hp' hh) (fun w2 hb => hf w2 (hh.belowBe.trans (hb.mono (Nat.le_trans hh.be hh.size))))))|apply then_n|apply sp_seq|apply sp_region|apply spl_nil|apply sp_ret|((apply spl_pure rfl);(·(((first|apply ex_move|apply ex_assign|apply ex_geq)<;>(first|exact eT rfl|exact eC))))))
  (apply ret_ok rfl;(·((apply Res.ofOne;((apply Res1.tmp;(·rfl))))))); rw [← idx_nonneg]
set_option maxRecDepth 100000 in
set_option maxHeartbeats 4000000 in
theorem waits1_c {w : World} {A : Option Addr} {n c g : Nat} {d : Mk} {T : TypeId} {k : Int} (hg : w.heap[g]? = some (.cells #[.slice A n c] T (0, 0))) (hd : RdS w w.heap.size 1 boolC A n d) (hk : 0 ≤ k ∧ k < (n : Int)) :
    Calls Try.prog 56 #[.int .i64 k, .pointer (some ⟨g, 0, none⟩)] w (Ret w (.bool (!gt d k.toNat))) := by
  obtain ⟨j, rfl⟩ := Int.eq_ofNat_of_zero_le hk.1
  have hlt : j < n := by omega
  have hbd := hd.bound
  obtain ⟨ad, x, hA, hb, hx, hsz, hc⟩ := hd.at_ hlt
  have hgt : gt d j = x := by unfold gt; rw [List.getD_eq_getElem?_getD, hx]; rfl
  rw [Int.toNat_natCast, hgt]
  refine sp_enter (vs := [_, _]) Try.func56 rfl Try.ntmps56 rfl ?_
  repeat (first|apply then_n|apply sp_seq|apply sp_region|apply spl_nil|apply sp_ret|((apply spl_pure rfl);(·(first|(apply ex_indexAddr;(·exact eT rfl);(·exact eT rfl);(·exact hA);(·exact hlt))|(apply ex_loadfield (ad:=ad) (i:=j) (k:=0);(·exact eT rfl);(·exact hd);(·exact hA);(·exact hx);(·rfl))|((first|apply ex_move|apply ex_assign|apply ex_not)<;>(first|exact eT rfl|exact eC))|((apply ex_loadown)<;>(first|exact eT rfl|exact Bk.old (by assumption) (Nat.le_refl _)|rfl))))))
  (apply ret_ok rfl;(·((apply Res.ofOne;((apply Res1.tmp;(·rfl))))))); rfl
set_option maxRecDepth 100000 in
set_option maxHeartbeats 4000000 in
theorem waits_c {w : World} {t : TaskR} {A : Option Addr} {n c : Nat} {d : Mk} (ht : RdS w w.heap.size 1 intC t.sl.a t.sl.n t.after) (hd : RdS w w.heap.size 1 boolC A n d) (hk : ∀ k ∈ t.after, 0 ≤ k ∧ k < (n : Int)) :
    Calls Try.prog 25 #[.agg t.cells, .slice A n c] w (Ret w (.bool (wtB d t.after))) := by
  refine sp_enter (vs := [_, _]) Try.func25 rfl Try.ntmps25 rfl ?_
  repeat (first|(apply spl_callp rfl;(·(repeat (first|exact eN|(apply eS;(·exact eT rfl)))));(·exact fun w' hh => anyf_c (p := fun k => !gt d k.toNat) (cap := [_]) (ht.hp' hh) (fun w2 hb k hm => waits1_c (n := n) (old_block hh.ownI hb) ((hd.hp' hh).to hb) (hk k hm))))|apply then_n|apply sp_seq|apply sp_region|apply spl_nil|apply sp_ret|((apply spl_pure rfl);(·(first|((first|apply ex_assign|apply ex_fieldAddr')<;>(first|exact eT rfl|exact eC))|(apply ex_loadown<;>(first|exact eT rfl|exact Bk.own InH.mem|rfl))|(apply ex_makeFunc<;>(((repeat (first|exact eN|(apply eS;(·exact eT rfl))));done))))))|(apply spl_box;(·exact eT rfl);(·rfl);intro _ _))
  (apply ret_ok rfl;(·((apply Res.ofOne;((apply Res1.tmp;(·rfl))))))); rfl
end Go.Proofs.Ytoogicafefennaa
/-
  Further operations: functions without a Go body, pointers compared and turned, arrays indexed, a row's bytes frozen into a string.
-/
namespace Go.Sy
set_option linter.unusedVariables false
open Go.RowKit
set_option linter.unusedVariables false
set_option linter.unusedSimpArgs false

theorem bi_sd {ats : Array TypeId} {ty : TypeId} {cs : Array Bool} {args : Array Value} : builtin .unsafeSliceData ats ty cs args = (do pure (.value (← Builtin.unsafeSliceData_ ats ty args))) := rfl
theorem bi_us {ats : Array TypeId} {ty : TypeId} {cs : Array Bool} {args : Array Value} : builtin .unsafeString ats ty cs args = (do pure (.value (← Builtin.unsafeString_ ats ty args))) := rfl
section
variable {P : Program} {Be : Nat} {w0 : World} {H : Heap} {G : Bool} {e : Env} {ty : TypeId}
/-- A function without a Go body: its result at once. -/
theorem ex_extern {f : FuncId} {xs : List Operand} {ts : Array TypeId} {vs : List Value} {v : Value} (h : Evs G e xs vs) (hr : ∀ w, (callFunc f vs.toArray).run P w = .ok (.value v) w) : Ex P Be w0 H G e (.call ⟨.value (.func f), xs.toArray, ts⟩) ty v := by
  intro N a w o ho _ hf hh hG
  have h1 := h N a hf hG
  have hc : a.eval (.func f) = .func (.func f) #[] #[] := rfl
  simp only [execOp, ho, resolve, Deferred.ofValue, hc, Sem.run_bind, Sem.run_pure, Result.andThen_ok, invoke]
  have h2 : Array.map a.eval xs.toArray = vs.toArray := by simp [h1]
  rw [h2]
  have h3 := hr w
  simpa using h3
/-- A pointer held against itself. -/
theorem ex_pneqS {t t' el n : TypeId} {x y : Operand} {p : Addr} (h1 : Ev G e x (.pointer (some p))) (h2 : Ev G e y (.pointer (some p))) [ht : TPtr P t el] [hs : TSize P el n] : Ex P Be w0 H G e (.binOp .neq t x y t') ty (.bool false) := by
  intro N a w o ho _ hf hh hG
  obtain ⟨i, hi⟩ : ∃ i, P.info? el = some i := by
    have := hs.size
    cases h : P.info? el with
    | none => rw [h] at this; cases this
    | some i => exact ⟨i, rfl⟩
  simp only [execOp, ho, h1 N a hf hG, h2 N a hf hG, Sem.run_bind]
  have : (eqGuard .neq t x y (.pointer (some p)) (.pointer (some p))).run P w = .ok () w := by unfold eqGuard; simp
  rw [this]
  simp only [Result.andThen_ok, Lib.run_neq_ptr_same w p ht.ptr hi]
  rfl
/-- To unsafe.Pointer and back. -/
theorem ex_toUnsafe {t t' el n : TypeId} {x : Operand} {g k : Nat} {cs : Array Value} {T : TypeId} {f : Nat × Nat} (h : Ev G e x (.pointer (some ⟨g, k, none⟩))) (hm : Bk Be w0 H g (.cells cs T f)) (hk : Nat.blt k cs.size = true) [ht : TPtr P t el] [hs : TSize P el n] (hn : Nat.beq n 0 = false) (hd : P.underlying t' = some .unsafePointer) :
    Ex P Be w0 H G e (.convert t t' x) ty (.pointer (some ⟨g, k, none⟩)) := by
  intro N a w o ho _ hf hh hG
  obtain ⟨i, hi⟩ : ∃ i, P.info? el = some i := by
    have := hs.size
    cases h : P.info? el with
    | none => rw [h] at this; cases this
    | some i => exact ⟨i, rfl⟩
  have his : i.size = n := by have := hs.size; rw [hi] at this; simpa using this
  have hw := hm w hh
  have := Lib.run_to_unsafe (P := P) w (src := t) (dst := t') (e := T) (cells := cs.size) ⟨g, k, none⟩ ht.ptr hd hi (by rw [his]; intro h0; subst h0; cases hn) (by simp [World.shape?, hw]) (by simpa [Nat.blt_eq] using hk)
  simp only [execOp, ho, h N a hf hG, Sem.run_bind, this, Result.andThen_ok, Sem.run_pure]
theorem ex_fromUnsafe {t t' el n : TypeId} {x : Operand} {g k : Nat} {cs : Array Value} {T : TypeId} {f : Nat × Nat} (h : Ev G e x (.pointer (some ⟨g, k, none⟩))) (hm : Bk Be w0 H g (.cells cs T f)) [ht : TPtr P t' el] [hs : TSize P el n] (hd : P.underlying t = some .unsafePointer)
    (hl : liesAt P P.depth T (cs.size / P.cellsOf T) k el 1 = true) : Ex P Be w0 H G e (.convert t t' x) ty (.pointer (some ⟨g, k, none⟩)) := by
  intro N a w o ho _ hf hh hG
  obtain ⟨i, hi⟩ : ∃ i, P.info? el = some i := by
    have := hs.size
    cases h : P.info? el with
    | none => rw [h] at this; cases this
    | some i => exact ⟨i, rfl⟩
  have hw := hm w hh
  have := Lib.run_from_unsafe (P := P) w (src := t) (dst := t') (e := T) (cells := cs.size) ⟨g, k, none⟩ hd ht.ptr hi (by simp [World.shape?, hw]) hl
  simp only [execOp, ho, h N a hf hG, Sem.run_bind, this, Result.andThen_ok, Sem.run_pure]
/-- 'a[i]' of an array in a block. -/
theorem ex_indexAddrA {t el : TypeId} {x y : Operand} {k : IntKind} {g off n sz : Nat} {i : Nat} (h : Ev G e x (.pointer (some ⟨g, off, none⟩))) (h2 : Ev G e y (.int k (i : Int))) (hi : i < n) [ht : TArray P t n el] [hs : TSize P el sz] : Ex P Be w0 H G e (.indexAddr t x y) ty (.pointer (some ⟨g, off + i * sz, none⟩)) := by
  intro N a w o ho _ hf hh hG
  simp [execOp, ho, h N a hf hG, h2 N a hf hG, Instr.indexAt, Instr.sureAddr, asIntOf, run_underlying ht.array, hs.run w, hi, addr_add]
theorem ex_indexAddrJ {t el : TypeId} {x y : Operand} {k : IntKind} {g off n sz : Nat} {i j : Nat} (hj : off + i * sz = j) (h : Ev G e x (.pointer (some ⟨g, off, none⟩))) (h2 : Ev G e y (.int k (i : Int))) (hi : i < n) [ht : TArray P t n el] [hs : TSize P el sz] : Ex P Be w0 H G e (.indexAddr t x y) ty (.pointer (some ⟨g, j, none⟩)) := by
  subst hj
  exact ex_indexAddrA h h2 hi
/-- unsafe.SliceData of a slice with room, of nil. -/
theorem ex_sliceData {x : Operand} {ts : Array TypeId} {p : Addr} {n c : Nat} (h : Ev G e x (.slice (some p) n c)) (hc : 0 < c) : Ex P Be w0 H G e (.call ⟨.builtin .unsafeSliceData, #[x], ts⟩) ty (.pointer (some p)) := by
  intro N a w o ho _ hf hh hG
  have := Lib.run_unsafeSliceData_row (P := P) w ts o.type p n c (by omega)
  simp only [execOp, ho, resolve, invoke, Sem.run_bind, Sem.run_pure, Result.andThen_ok, List.map_toArray, List.map_cons, List.map_nil, h N a hf hG, bi_sd, this, Sem.run_bind, Sem.run_pure, Result.andThen_ok]
theorem ex_sliceDataN {x : Operand} {ts : Array TypeId} {n c : Nat} (h : Ev G e x (.slice none n c)) : Ex P Be w0 H G e (.call ⟨.builtin .unsafeSliceData, #[x], ts⟩) ty (.pointer none) := by
  intro N a w o ho _ hf hh hG
  have := Lib.run_unsafeSliceData_nil (P := P) w ts o.type n c
  simp only [execOp, ho, resolve, invoke, Sem.run_bind, Sem.run_pure, Result.andThen_ok, List.map_toArray, List.map_cons, List.map_nil, h N a hf hG, bi_sd, this, Sem.run_bind, Sem.run_pure, Result.andThen_ok]
theorem ex_unsafeStringN {x y : Operand} {pt it : TypeId} {p : Option Addr} (h : Ev G e x (.pointer p)) (h2 : Ev G e y (.int .i64 0)) : Ex P Be w0 H G e (.call ⟨.builtin .unsafeString, #[x, y], #[pt, it]⟩) ty (.string .empty) := by
  intro N a w o ho _ hf hh hG
  have := Lib.run_unsafeString_none (P := P) w pt it o.type p
  simp only [execOp, ho, resolve, invoke, Sem.run_bind, Sem.run_pure, Result.andThen_ok, List.map_toArray, List.map_cons, List.map_nil, h N a hf hG, h2 N a hf hG, bi_us, this, Sem.run_bind, Sem.run_pure, Result.andThen_ok]
end

theorem Hp.freeze {Be : Nat} {w0 w : World} {H : Heap} {g n : Nat} (h : Hp Be w0 H w) (hg : ∀ p ∈ H, p.1 ≠ g) (hfr : w0.heap.size ≤ g) : Hp Be w0 H (w.freeze ⟨g, 0, none⟩ n) := by
  unfold World.freeze
  split
  · exact h
  · refine ⟨h.os, h.tape, h.output, by simpa using h.size, h.be, fun k hk hn => ?_, fun p hp => ?_, h.dist, h.low⟩
    · simp only [Array.getElem?_modify]
      rw [if_neg (by omega)]
      exact h.old k hk hn
    · simp only [Array.getElem?_modify]
      rw [if_neg (fun e => hg p hp e.symm)]
      exact h.own p hp

section
variable {P : Program} {N Be : Nat} {Q : Post} {e : Env} {w0 : World} {H : Heap} {ops : Array Oper} {rest : List Oper} {ty : TypeId} {pos : String} {after : Array Edge} {d : Nat}
/-- unsafe.String over the head of an own row: the row is forgotten. -/
theorem spl_unsafeString {x y : Operand} {pt it T : TypeId} {g : Nat} {s : ByteArray} {cs : Array Value} {Hr : Heap} (hN : Nat.blt d N = true) (hx : Ev true e x (.pointer (some ⟨g, 0, none⟩))) (hy : Ev true e y (.int .i64 (s.size : Int))) (hrem : Rem H g (.cells cs T (0, 0)) Hr) (hfr : w0.heap.size ≤ g)
    [hp : TPtr P pt T] (hc : P.cellsOf T = 1) (h0 : 0 < s.size) (hn : s.size ≤ cs.size) (h63 : s.size ≤ 9223372036854775807) (hcell : ∀ (j : Nat) (v : Value), (byteCells s)[j]? = some v → cs[j]? = some v)
    (k : Spl P N Be ops Q rest ((d, true, .string s) :: e) w0 Hr) :
    Spl P N Be ops Q (⟨some d, .call ⟨.builtin .unsafeString, #[x, y], #[pt, it]⟩, ty, pos, after, none⟩ :: rest) e w0 H := by
  intro a w hf hh
  have hd : d < N := by simpa [Nat.blt_eq] using hN
  refine wpList_plain rfl fun K hK => ?_
  have hh1 := hh.perm hrem.perm
  have hg : w.heap[g]? = some (.cells cs T (0, 0)) := hh1.own _ (.head _)
  have hlen : s.data.toList.length = s.size := by simp
  have hr := Lib.run_unsafeString_row (P := P) w pt it ty T hp.ptr hc g cs.size (by simp [World.shape?, hg]) s.data.toList (by intro h; rw [h] at hlen; simp at hlen; omega) (by rw [hlen]; exact hn) (by rw [hlen]; exact h63)
    (fun j b hb => by
      have h1 : (byteCells s)[j]? = some (.int .u8 b.toNat) := by simp only [byteCells, List.getElem?_map, hb, Option.map_some]
      have h2 := hcell j _ h1
      rw [addr_add]
      simp [World.cell?, hg, h2])
  rw [hlen] at hr
  have hs : (⟨s.data.toList.toArray⟩ : ByteArray) = s := by simp
  rw [hs] at hr
  have hr' : (execOp a.eval ⟨some d, .call ⟨.builtin .unsafeString, #[x, y], #[pt, it]⟩, ty, pos, after, none⟩).run P w = .ok (.value (.string s)) (w.freeze ⟨g, 0, none⟩ s.size) := by
    simp only [execOp, resolve, invoke, Sem.run_bind, Sem.run_pure, Result.andThen_ok, List.map_toArray, List.map_cons, List.map_nil, hx N a hf rfl, hy N a hf rfl, bi_us, hr, Sem.run_bind, Sem.run_pure, Result.andThen_ok]
  unfold Oper.wp
  rw [hr', Oper.upon_value]
  have hd1 := hh1.dist
  rw [List.map_cons, List.nodup_cons] at hd1
  refine hK _ _ (k _ _ (hf.puttrue hd) (Hp.freeze (hh1.sub (HKeep.drop hfr HKeep.refl)) (fun p hp e => hd1.1 ?_) hfr))
  rw [← e]
  exact List.mem_map.2 ⟨p, hp, rfl⟩
end
end Go.Sy
/-
  Further operations: elements of one cell, copies between rows, room made by append, capacities, arrays by value, maps with an entry less.
-/
namespace Go.Sy
set_option linter.unusedVariables false
open Go.RowKit
set_option linter.unusedVariables false
set_option linter.unusedSimpArgs false
theorem HKeep.dropAll {w0 : World} {A : Heap} (hA : ∀ p ∈ A, w0.heap.size ≤ p.1) : HKeep w0 [] A := by
  have := HKeep.dropA hA (HKeep.nil (w0 := w0))
  rwa [List.append_nil] at this
theorem RowS.fresh_of {r : RowS} {xs : List Value} {T : TypeId} {b : Nat} (h : ∀ p ∈ r.hp xs T, b ≤ p.1) : r.fresh b := by
  rcases r with ⟨_ | g, cap, tail⟩
  · intro g hg; cases hg
  · intro g' hg
    cases hg
    exact h (g, .cells (xs ++ tail).toArray T (0, 0)) (List.mem_singleton.2 rfl)
section
variable {P : Program} {Be : Nat} {w0 : World} {H : Heap} {G : Bool} {e : Env} {ty : TypeId}
/-- The address of an element of one cell. -/
theorem ex_indexAddr1 {t el : TypeId} {x y : Operand} {k : IntKind} {i : Nat} {g off n c : Nat} (h : Ev G e x (.slice (some ⟨g, off, none⟩) n c)) (h2 : Ev G e y (.int k i)) (hi : i < n) [ht : TSlice P t el] [hs : TSize P el 1] :
    Ex P Be w0 H G e (.indexAddr t x y) ty (.pointer (some ⟨g, off + i, none⟩)) := by
  have := ex_indexAddrO (P := P) (Be := Be) (w0 := w0) (H := H) (ty := ty) (t := t) (sz := 1) h h2 hi
  rwa [Nat.mul_one] at this
theorem ex_indexAddr0 {t el : TypeId} {x y : Operand} {k : IntKind} {i : Nat} {g n c : Nat} (h : Ev G e x (.slice (some ⟨g, 0, none⟩) n c)) (h2 : Ev G e y (.int k i)) (hi : i < n) [ht : TSlice P t el] [hs : TSize P el 1] :
    Ex P Be w0 H G e (.indexAddr t x y) ty (.pointer (some ⟨g, i, none⟩)) := by
  have := ex_indexAddr1 (P := P) (Be := Be) (w0 := w0) (H := H) (ty := ty) (t := t) h h2 hi
  rwa [Nat.zero_add] at this
theorem ex_cap {x : Operand} {A : Option Addr} {n c : Nat} {t el : TypeId} (h : Ev G e x (.slice A n c)) [ht : TSlice P t el] : Ex P Be w0 H G e (.call ⟨.builtin .cap, #[x], #[t]⟩) ty (.int .i64 c) := by
  intro N a w o ho _ hf hh hG
  simp [execOp, ho, h N a hf hG, resolve, invoke, builtin, Builtin.cap_, run_underlying ht.slice, goInt]
end
section
variable {P : Program} {N Be : Nat} {Q : Post} {e : Env} {w0 : World} {H : Heap} {ops : Array Oper} {rest : List Oper} {ty : TypeId} {pos : String} {after : Array Edge} {d : Nat}
/-- A store of one cell, told. -/
theorem spl_store1E {t : TypeId} {x y : Operand} {g i : Nat} {cs cs' : Array Value} {T : TypeId} {v : Value} {H' : Heap} (hcs : cs.setIfInBounds i v = cs') (hx : Ev true e x (.pointer (some ⟨g, i, none⟩))) (hy : Ev true e y v) (hv : v.oneCell' = true) [hs : TSize P t 1]
    (hu : Upd H g (.cells cs T (0, 0)) (.cells cs' T (0, 0)) H') (hi : i < cs.size) (k : Spl P N Be ops Q rest e w0 H') :
    Spl P N Be ops Q (⟨none, .store t x y, ty, pos, after, none⟩ :: rest) e w0 H := by
  subst hcs
  exact spl_store1 hx hy hv hu (by simpa [Nat.blt_eq] using hi) k
/-- 'copy(a, b)' of elements of one cell into an own row. -/
theorem spl_copyC {dT sT el : TypeId} {x y : Operand} {g off n c m c2 : Nat} {A : Option Addr} {cs cs' : Array Value} {T : TypeId} {vs : List Value} {H' : Heap} [ht : TSlice P dT el] [hz : TSize P el 1] (hN : Nat.blt d N = true) (hx : Ev true e x (.slice (some ⟨g, off, none⟩) n c)) (hy : Ev true e y (.slice A m c2))
    (hsrc : ∀ w, Hp Be w0 H w → CellsAt w A vs) (hl : vs.length = Nat.min m n) (hpos : 0 < vs.length) (h1 : ∀ v ∈ vs, v.oneCell' = true) (hcs : setL cs off vs = cs') (hu : Upd H g (.cells cs T (0, 0)) (.cells cs' T (0, 0)) H') (hfit : off + vs.length ≤ cs.size)
    (k : Spl P N Be ops Q rest ((d, true, .int .i64 vs.length) :: e) w0 H') :
    Spl P N Be ops Q (⟨some d, .call ⟨.builtin .copy, #[x, y], #[dT, sT]⟩, ty, pos, after, none⟩ :: rest) e w0 H := by
  subst hcs
  intro a w hf hh
  have hd : d < N := by simpa [Nat.blt_eq] using hN
  refine wpList_plain rfl fun K hK => ?_
  have hg : w.heap[g]? = some (.cells cs T (0, 0)) := hh.own _ hu.mem
  have hs := hsrc w hh
  obtain ⟨b, rfl⟩ : ∃ b, A = some b := by
    obtain ⟨b, hb, _⟩ := hs 0 vs[0] (List.getElem?_eq_getElem hpos)
    exact ⟨b, hb⟩
  have hr0 := run_copy_cells (P := P) w dT sT ty el g off n c b m c2 vs ht.slice hz.size hl (fun j v hj => by obtain ⟨b', hb', hc⟩ := hs j v hj; cases hb'; exact hc)
    (fun j hj => by simp only [World.cell?, hg]; simp; omega) (fun j hj => by simp [World.frozen?, hg]) h1
  have hr : (execOp a.eval ⟨some d, .call ⟨.builtin .copy, #[x, y], #[dT, sT]⟩, ty, pos, after, none⟩).run P w = .ok (.value (.int .i64 vs.length)) (w.setCells g off vs) := by
    simp only [execOp, resolve, invoke, builtin, hx N a hf rfl, hy N a hf rfl, hr0, Sem.run_bind, Sem.run_pure, Result.andThen_ok, List.map_toArray, List.map_cons, List.map_nil]
    rfl
  unfold Oper.wp
  rw [hr, Oper.upon_value]
  exact hK _ _ (k _ _ (hf.puttrue hd) (Hp.setCells vs off cs w H H' hh hu))
end
section
variable {P : Program} {Be : Nat} {w0 : World} {H : Heap} {G : Bool} {e : Env} {ty t t' : TypeId} {x y z : Operand} {k : IntKind} {m n : Int}
/-! Tests whose answer is known. -/
theorem ex_eqlF (h : m ≠ n) (h1 : Ev G e x (.int k m)) (h2 : Ev G e y (.int k n)) : Ex P Be w0 H G e (.binOp .eql t x y t') ty (.bool false) := by
  have := ex_eql (P := P) (Be := Be) (w0 := w0) (H := H) (ty := ty) (t := t) (t' := t') h1 h2
  rwa [decide_eq_false h] at this
theorem ex_eqlT (h : m = n) (h1 : Ev G e x (.int k m)) (h2 : Ev G e y (.int k n)) : Ex P Be w0 H G e (.binOp .eql t x y t') ty (.bool true) := by
  have := ex_eql (P := P) (Be := Be) (w0 := w0) (H := H) (ty := ty) (t := t) (t' := t') h1 h2
  rwa [decide_eq_true h] at this
theorem ex_neqT (h : m ≠ n) (h1 : Ev G e x (.int k m)) (h2 : Ev G e y (.int k n)) : Ex P Be w0 H G e (.binOp .neq t x y t') ty (.bool true) := by
  have := ex_neq (P := P) (Be := Be) (w0 := w0) (H := H) (ty := ty) (t := t) (t' := t') h1 h2
  rwa [decide_eq_false h] at this
theorem ex_neqF (h : m = n) (h1 : Ev G e x (.int k m)) (h2 : Ev G e y (.int k n)) : Ex P Be w0 H G e (.binOp .neq t x y t') ty (.bool false) := by
  have := ex_neq (P := P) (Be := Be) (w0 := w0) (H := H) (ty := ty) (t := t) (t' := t') h1 h2
  rwa [decide_eq_true h] at this
theorem ex_geqT (h : n ≤ m) (h1 : Ev G e x (.int k m)) (h2 : Ev G e y (.int k n)) : Ex P Be w0 H G e (.binOp .geq t x y t') ty (.bool true) := by
  have := ex_geq (P := P) (Be := Be) (w0 := w0) (H := H) (ty := ty) (t := t) (t' := t') h1 h2
  rwa [decide_eq_true h] at this
theorem ex_geqF (h : ¬ n ≤ m) (h1 : Ev G e x (.int k m)) (h2 : Ev G e y (.int k n)) : Ex P Be w0 H G e (.binOp .geq t x y t') ty (.bool false) := by
  have := ex_geq (P := P) (Be := Be) (w0 := w0) (H := H) (ty := ty) (t := t) (t' := t') h1 h2
  rwa [decide_eq_false h] at this
theorem ex_gtrT (h : n < m) (h1 : Ev G e x (.int k m)) (h2 : Ev G e y (.int k n)) : Ex P Be w0 H G e (.binOp .gtr t x y t') ty (.bool true) := by
  have := ex_gtr (P := P) (Be := Be) (w0 := w0) (H := H) (ty := ty) (t := t) (t' := t') h1 h2
  rwa [decide_eq_true h] at this
theorem ex_gtrF (h : ¬ n < m) (h1 : Ev G e x (.int k m)) (h2 : Ev G e y (.int k n)) : Ex P Be w0 H G e (.binOp .gtr t x y t') ty (.bool false) := by
  have := ex_gtr (P := P) (Be := Be) (w0 := w0) (H := H) (ty := ty) (t := t) (t' := t') h1 h2
  rwa [decide_eq_false h] at this
theorem ex_lssT (h : m < n) (h1 : Ev G e x (.int k m)) (h2 : Ev G e y (.int k n)) : Ex P Be w0 H G e (.binOp .lss t x y t') ty (.bool true) := by
  have := ex_lss (P := P) (Be := Be) (w0 := w0) (H := H) (ty := ty) (t := t) (t' := t') h1 h2
  rwa [decide_eq_true h] at this
theorem ex_lssF (h : ¬ m < n) (h1 : Ev G e x (.int k m)) (h2 : Ev G e y (.int k n)) : Ex P Be w0 H G e (.binOp .lss t x y t') ty (.bool false) := by
  have := ex_lss (P := P) (Be := Be) (w0 := w0) (H := H) (ty := ty) (t := t) (t' := t') h1 h2
  rwa [decide_eq_false h] at this
theorem ex_notE {b c : Bool} (hb : (!b) = c) (h : Ev G e x (.bool b)) : Ex P Be w0 H G e (.unOp .not t x) ty (.bool c) := by
  subst hb
  exact ex_not h
theorem ex_off {op : Op} (hG : G = false) : Ex P Be w0 H G e op ty (.bool false) := by
  intro N a w o _ _ _ _ h
  rw [hG] at h; cases h
theorem ex_buildE {z : Value} {pl : List (Nat × Nat)} {ps : List (Nat × Operand)} {vs : List Value} {r : Array Value} [hz : TZero P t z] [hp : TPlaces P t pl] (h : Evs G e (ps.map (·.2)) vs) (hok : fillOk pl z.cells.toList.length (zipI ps vs) = true) (hr : (fillL pl z.cells.toList (zipI ps vs)).toArray = r) :
    Ex P Be w0 H G e (.build t ps.toArray) ty (.agg r) := by
  subst hr
  exact ex_build h hok
theorem ex_addK {r : Int} (hr : m + n = r) (h1 : Ev G e x (.int .i64 m)) (h2 : Ev G e y (.int .i64 n)) (hb : -9223372036854775808 ≤ r ∧ r < 9223372036854775808) : Ex P Be w0 H G e (.binOp .add t x y t') ty (.int .i64 r) := ex_addE hr h1 h2 hb
theorem ex_subE {r : Int} (hr : m - n = r) (h1 : Ev G e x (.int .i64 m)) (h2 : Ev G e y (.int .i64 n)) (hb : -9223372036854775808 ≤ r ∧ r < 9223372036854775808) : Ex P Be w0 H G e (.binOp .sub t x y t') ty (.int .i64 r) := by
  subst hr
  exact ex_subn h1 h2 hb
theorem ex_remE {a b q : Nat} (hq : a % b = q) (hn : b ≠ 0) (h1 : Ev G e x (.int k (a : Int))) (h2 : Ev G e y (.int k (b : Int))) : Ex P Be w0 H G e (.binOp .rem t x y t') ty (.int k (q : Int)) := by
  have := ex_rem (P := P) (Be := Be) (w0 := w0) (H := H) (ty := ty) (t := t) (t' := t') h1 h2 (by omega)
  rwa [show (a : Int).tmod (b : Int) = (q : Int) from by rw [← hq]; rfl] at this
/-- Half of a natural number, by a shift. -/
theorem ex_half {a q : Nat} (hq : a / 2 = q) (h1 : Ev G e x (.int .u64 (a : Int))) (h2 : Ev G e y (.int .u64 1)) : Ex P Be w0 H G e (.binOp .shr t x y t') ty (.int .u64 (q : Int)) :=
  ex_int h1 h2 fun w => by
    rw [binOp_shr, shift_shr .u64 .u64 _ _ (by decide) (by decide), ← hq]
    all_goals rfl
/-- An element of an array that is held by value. -/
theorem ex_indexArr {el sz : Nat} {cs : Array Value} {i : Nat} {v : Value} (h1 : Ev G e x (.agg cs)) (h2 : Ev G e y (.int k (i : Int))) [ht : TArray P t sz el] [hs : TSize P el 1] [hc : TCell P el] (hi : i < sz) (hv : cs[i]? = some v) : Ex P Be w0 H G e (.index t x y) ty v := by
  intro N a w o ho _ hf hh hG
  have hp : (part el cs (i * 1)).run P w = .ok v w := by
    simp [part, TCell.run w (P := P) (t := el), hv]
  have hin : 0 ≤ (i : Int) ∧ (i : Int) < (sz : Int) := by omega
  simp only [execOp, ho, h1 N a hf hG, h2 N a hf hG, Instr.index, asIntOf, Sem.run_bind, Sem.run_pure, Result.andThen_ok, run_underlying ht.array, Sem.run_ite, if_pos hin, hs.run w, Int.toNat_natCast, hp]
end
section
variable {P : Program} {Be : Nat} {w0 : World} {H : Heap} {G : Bool} {e : Env} {ty : TypeId} {α : Type} {sz : Nat} {C : α → Array Value}
theorem ex_loadelemH {t : TypeId} {x : Operand} {ad : Addr} {i n : Nat} {xs : List α} {y : α} (h : Ev G e x (.pointer (some (ad.add (i * sz))))) {A : Option Addr} (hr : ∀ w, Hp Be w0 H w → RdS w w.heap.size sz C A n xs) (hA : A = some ad) (hsz : (C y).size = sz) (hy : xs[i]? = some y) [TAgg P t] [hs : TSize P t sz] : Ex P Be w0 H G e (.load t x) ty (.agg (C y)) := by
  subst hA
  refine ex_loadn h hsz fun w hh j v hj => ?_
  obtain ⟨ad', e', hb, hsz, hc⟩ := (hr w hh).elems i y hy
  cases e'
  exact hc j v hj
theorem ex_loadfieldH {t : TypeId} {x : Operand} {ad : Addr} {i k n : Nat} {xs : List α} {y : α} {v : Value} (h : Ev G e x (.pointer (some ((ad.add (i * sz)).add k)))) {A : Option Addr} (hr : ∀ w, Hp Be w0 H w → RdS w w.heap.size sz C A n xs) (hA : A = some ad) (hy : xs[i]? = some y) (hv : (C y)[k]? = some v) [TCell P t] : Ex P Be w0 H G e (.load t x) ty v := by
  subst hA
  refine ex_load1 h fun w hh => ?_
  obtain ⟨ad', e', hb, hsz, hc⟩ := (hr w hh).elems i y hy
  cases e'
  exact hc k v hv
/-- 's[l:]' of an own row of elements of one cell, 's[:h]'. -/
theorem ex_slice_l1 {t el : TypeId} {x y : Operand} {g off n c l : Nat} {k : IntKind} (h1 : Ev G e x (.slice (some ⟨g, off, none⟩) n c)) (h2 : Ev G e y (.int k (l : Int))) (hb : l ≤ n ∧ n ≤ c) (hc : l < c) [ht : TSlice P t el] [hs : TSize P el 1] :
    Ex P Be w0 H G e (.slice t x (some y) none none) ty (.slice (some ⟨g, off + l, none⟩) (n - l) (c - l)) := by
  intro N a w o ho _ hf hh hG
  have he : P.elem t = el := by simp [Program.elem, ht.slice]
  simp only [execOp, ho, h1 N a hf hG, Option.map_none, Option.map_some, h2 N a hf hG, Instr.sliceAt, Sem.run_bind, run_underlying ht.slice, Result.andThen_ok]
  rw [run_slice_l w t _ n c (by rw [he]; exact ht.slice) k l (by omega) (by omega), he, hs.run w]
  have h4 : ¬ c = l := by omega
  simp [sliced, h4, addr_add]
theorem ex_slice_l0 {t el : TypeId} {x y : Operand} {A : Option Addr} {n c l : Nat} {k : IntKind} (h1 : Ev G e x (.slice A n c)) (h2 : Ev G e y (.int k (l : Int))) (hb : l ≤ n ∧ n ≤ c) (hc : c = l) [ht : TSlice P t el] [hs : TSize P el 1] :
    Ex P Be w0 H G e (.slice t x (some y) none none) ty (.slice A (n - l) (c - l)) := by
  intro N a w o ho _ hf hh hG
  have he : P.elem t = el := by simp [Program.elem, ht.slice]
  simp only [execOp, ho, h1 N a hf hG, Option.map_none, Option.map_some, h2 N a hf hG, Instr.sliceAt, Sem.run_bind, run_underlying ht.slice, Result.andThen_ok]
  rw [run_slice_l w t _ n c (by rw [he]; exact ht.slice) k l (by omega) (by omega), he, hs.run w]
  simp [sliced, hc]
/-- A function without a Go body: its result at once, in the worlds of the class. -/
theorem ex_externH {f : FuncId} {xs : List Operand} {ts : Array TypeId} {vs : List Value} {v : Value} (h : Evs G e xs vs) (hr : ∀ w, Hp Be w0 H w → (callFunc f vs.toArray).run P w = .ok (.value v) w) : Ex P Be w0 H G e (.call ⟨.value (.func f), xs.toArray, ts⟩) ty v := by
  intro N a w o ho _ hf hh hG
  have h1 := h N a hf hG
  have hc : a.eval (.func f) = .func (.func f) #[] #[] := rfl
  simp only [execOp, ho, resolve, Deferred.ofValue, hc, Sem.run_bind, Sem.run_pure, Result.andThen_ok, invoke]
  have h2 : Array.map a.eval xs.toArray = vs.toArray := by simp [h1]
  rw [h2]
  have h3 := hr w hh
  simpa using h3
end
section
variable {P : Program} {N Be : Nat} {Q : Post} {e : Env} {w0 : World} {H : Heap} {ops : Array Oper} {rest : List Oper} {ty : TypeId} {pos : String} {after : Array Edge} {d : Nat} {K : Type} [DecidableEq K]
theorem run_deleteM {t tk te tk2 ty : TypeId} {kv : K → Value} {g c : Nat} {es : List (K × Value × Nat)} (k : K) {w : World} [ht : TMap P t tk te] [hk : TKey P tk kv] (hb : w.heap[g]? = some (mobj kv es c)) :
    (Builtin.delete_ #[t, tk2] ty #[.map (some g), kv k]).run P w = .ok (.tuple #[]) { w with heap := w.heap.setIfInBounds g (mobj kv (delL k es) c) } := by
  have h1 := hk.find k es w
  have h2 := hk.check (es.map (ent kv)).toArray.isEmpty k w
  have hb' : w.heap[g]? = some (.map (es.map (ent kv)).toArray c) := hb
  have hq := findL_spec k (.bool true) c es 0
  have hd : (Builtin.delete_ #[t, tk2] ty #[.map (some g), kv k]).run P w = ((match findL k es 0 with | some (i, _) => setObj g (.map ((es.map (ent kv)).toArray.eraseIdxIfInBounds i) c) | none => setObj g (.map (es.map (ent kv)).toArray c)).run P w).andThen fun _ w' => .ok (.tuple #[]) w' := by
    simp only [Builtin.delete_, List.getElem?_toArray, List.getElem?_cons_zero, List.getElem?_cons_succ, Sem.run_bind, run_underlying ht.map, Result.andThen_ok, MapKept.run_getObj_map hb', h2, h1]
    cases findL k es 0 <;> simp only [Sem.run_bind, Sem.run_pure]
  rw [hd]
  rcases hq with ⟨q1, -, -, q4⟩ | ⟨j, e', q1, qj, -, -, -, q4⟩
  · rw [q1, q4]
    simp only
    rw [MapKept.run_setObj_map _ hb', Result.andThen_ok]
    all_goals rfl
  · rw [q1, q4]
    simp only [Nat.zero_add]
    rw [MapKept.run_setObj_map _ hb', Result.andThen_ok]
    have hj : j < es.length := (List.getElem?_eq_some_iff.1 qj).1
    have : (es.map (ent kv)).toArray.eraseIdxIfInBounds j = ((es.eraseIdx j).map (ent kv)).toArray := by
      apply Array.ext'
      have hj' : j < (es.map (ent kv)).toArray.size := by simpa using hj
      unfold Array.eraseIdxIfInBounds
      rw [dif_pos hj', Array.toList_eraseIdx]
      simp only [List.eraseIdx_eq_take_drop_succ, List.map_append, List.map_take, List.map_drop]
    rw [this]
    all_goals rfl
theorem spl_delete {t tk te tk2 : TypeId} {x y : Operand} {kv : K → Value} {g c : Nat} {es : List (K × Value × Nat)} {k : K} {H' : Heap} [ht : TMap P t tk te] [hk : TKey P tk kv] (h : Ev true e x (.map (some g))) (h2 : Ev true e y (kv k))
    (hu : Upd H g (mobj kv es c) (mobj kv (delL k es) c) H') (kk : Spl P N Be ops Q rest e w0 H') :
    Spl P N Be ops Q (⟨none, .call ⟨.builtin .delete, #[x, y], #[t, tk2]⟩, ty, pos, after, none⟩ :: rest) e w0 H := by
  intro a w hf hh
  refine wpList_plain rfl fun K hK => ?_
  have hr : (execOp a.eval ⟨none, .call ⟨.builtin .delete, #[x, y], #[t, tk2]⟩, ty, pos, after, none⟩).run P w = .ok (.value (.tuple #[])) { w with heap := w.heap.setIfInBounds g (mobj kv (delL k es) c) } := by
    simp only [execOp, resolve, invoke, builtin, h N a hf rfl, h2 N a hf rfl, run_deleteM (ht := ht) (hk := hk) k (hh.own _ hu.mem), Sem.run_bind, Sem.run_pure, Result.andThen_ok, List.map_toArray, List.map_cons, List.map_nil]
  unfold Oper.wp
  rw [hr, Oper.upon_value]
  exact hK _ _ (kk _ _ hf.putnone (hh.setObj hu))
end
/-- 'append(s, make([]T, m)...)' where there is no room. -/
theorem spl_append_zeros {P : Program} {N Be : Nat} {Q : Post} {e : Env} {w0 : World} {H : Heap} {ops : Array Oper} {rest : List Oper} {ty : TypeId} {pos : String} {after : Array Edge} {d : Nat} {t tx el bytes : Nat} {kn kq : IntKind} {z : Value} {x y : Operand} {g off n cap m : Nat} {olds : List Value} [ht : TSlice P t el] [htx : TInt P tx kn] [hz : TZero P el z] [hs : TSize P el 1] [hby : TBytes P el bytes]
    (hx : Ev true e x (.slice (some ⟨g, off, none⟩) n cap)) (hy : Ev true e y (.int kq (m : Int))) (ho : ∀ w, Hp Be w0 H w → CellsAt w (some ⟨g, off, none⟩) olds) (hol : olds.length = n) (h0 : 0 < m)
    (hg : cap < n + m) (hb : (n + m) * bytes ≤ 140737488355328) (hpos : Nat.blt 0 bytes = true) (hzs : z.cells = #[z]) (hN : Nat.blt d N = true)
    (k : ∀ g' cap' tail, w0.heap.size ≤ g' → n + m ≤ cap' → (olds ++ List.replicate m z ++ tail).length = cap' → Spl P N Be ops Q rest ((d, true, .slice (some ⟨g', 0, none⟩) (n + m) cap') :: e) w0 ((g', .cells (olds ++ List.replicate m z ++ tail).toArray el (0, 0)) :: H)) :
    Spl P N Be ops Q (⟨some d, .call ⟨.builtin .append, #[x, y], #[t, tx]⟩, ty, pos, after, none⟩ :: rest) e w0 H := by
  intro a w hf hh
  have hd : d < N := by simpa [Nat.blt_eq] using hN
  have hpos' : 0 < bytes := by simpa [Nat.blt_eq] using hpos
  refine wpList_plain rfl fun K hK => ?_
  obtain ⟨i, hi⟩ : ∃ i, P.info? el = some i := by
    have := hs.size
    cases h : P.info? el with
    | none => rw [h] at this; cases this
    | some i => exact ⟨i, rfl⟩
  have hiz : i.zero = some z := by have := hz.zero; rw [hi] at this; exact this
  have his : i.size = 1 := by have := hs.size; rw [hi] at this; simpa using this
  have hib : i.bytes = bytes := by have := hby.bytes; rw [hi] at this; simpa using this
  have hle : n + m ≤ (n + m) * bytes := Nat.le_mul_of_pos_right _ hpos'
  have hmle : m * bytes ≤ (n + m) * bytes := Nat.mul_le_mul_right _ (by omega)
  have hold : (Builtin.firstCells i.size n (.slice (some ⟨g, off, none⟩) n cap)).run P w.drew = .ok olds.toArray w.drew := by
    rw [his]
    have hc := ho w hh
    exact run_firstCells_some w.drew 1 n ⟨g, off, none⟩ n cap olds (by omega) (fun j u hj => by obtain ⟨b', hb', hcell⟩ := hc j u hj; cases hb'; simpa using hcell)
  have hr := Lib.run_append_grow_zeros (P := P) w t tx ty el i z kq kn ht.slice htx.int hi hiz (some ⟨g, off, none⟩) n cap olds hold m h0 (by omega) hg (by omega) (by rw [hib]; omega) (by rw [hib]; exact fits_of hg hb)
  have hzc : ∀ q : Nat, (Builtin.zeroCells z.cells q).toList = List.replicate q z := by
    intro q
    rw [hzs, List.eq_replicate_iff]
    refine ⟨by rw [Array.length_toList, size_zeroCells]; simp, fun b hb => ?_⟩
    obtain ⟨j, hj, rfl⟩ := List.getElem_of_mem hb
    simp [Builtin.zeroCells, Nat.mod_one]
  have hcs : olds.toArray ++ Builtin.zeroCells z.cells m ++ Builtin.zeroCells z.cells (grownCap w (n + m) cap el - (n + m)) = (olds ++ List.replicate m z ++ (Builtin.zeroCells z.cells (grownCap w (n + m) cap el - (n + m))).toList).toArray := by
    apply Array.ext'; simp [hzc]
  rw [hcs] at hr
  unfold Oper.wp
  simp only [execOp, resolve, invoke, builtin, hx N a hf rfl, hy N a hf rfl, hr, Sem.run_bind, Sem.run_pure, Result.andThen_ok, List.map_toArray, List.map_cons, List.map_nil]
  have hge := grownCap_ge w (n + m) cap el
  have hsum : (olds ++ List.replicate m z ++ (Builtin.zeroCells z.cells (grownCap w (n + m) cap el - (n + m))).toList).length = grownCap w (n + m) cap el := by
    rw [hzc]
    simp only [List.length_append, List.length_replicate, hol]
    omega
  exact hK _ _ (k _ _ _ hh.size hge hsum _ _ (hf.puttrue hd) (hh.drew.alloc _))
end Go.Sy
/-
  Contracts of package task: Order.
-/
namespace Go.Proofs.Ytoogicafefennaa
set_option linter.unusedVariables false
open Go.RowKit Go.Sy
set_option linter.unusedVariables false
set_option linter.unusedSimpArgs false
def iv (i : Nat) : Value := .int .i64 (i : Int)
def bv (b : Bool) : Value := .bool b
def mk (d : Mk) : Array Value := (d.map bv).toArray
theorem mk_get {d : Mk} {i : Nat} (h : i < d.length) : (mk d)[i]? = some (.bool (gt d i)) := by
  unfold mk gt
  rw [List.getElem?_toArray, List.getElem?_map, List.getD_eq_getElem?_getD, List.getElem?_eq_getElem h]
  all_goals rfl
theorem mk_size (d : Mk) : (mk d).size = d.length := by simp [mk]
theorem mk_set (d : Mk) (i : Nat) (b : Bool) : (mk d).setIfInBounds i (.bool b) = mk (d.set i b) := by
  apply Array.ext'
  simp only [mk, Array.toList_setIfInBounds, List.map_set]
  rfl
theorem mk_rep (n : Nat) : (List.replicate n (Value.bool false)).toArray = mk (List.replicate n false) := by
  unfold mk
  rw [List.map_replicate]; rfl
theorem mk_flat (d : Mk) : (mk d).toList = d.flatMap fun x => (boolC x).toList := by
  unfold mk
  induction d with
  | nil => rfl
  | cons b r ih => simp only [List.map_cons, List.flatMap_cons] at *; rw [← ih]; rfl
/-- Marks in a block, read as a slice. -/
theorem mk_rd {w : World} {g n : Nat} {d : Mk} {T : TypeId} (hg : w.heap[g]? = some (.cells (mk d) T (0, 0))) (hl : d.length = n) (hn : n ≤ 9223372036854775807) : RdS w w.heap.size 1 boolC (some ⟨g, 0, none⟩) n d :=
  RdS.ofFlat hg (Array.getElem?_eq_some_iff.1 hg).1 hl hn (fun _ _ => rfl) (mk_flat d)
theorem find_range {n : Nat} {p : Nat → Bool} {i : Nat} (hi : i < n) (hp : p i = true) (hno : ∀ j < i, p j = false) : (List.range n).find? p = some i := by
  rw [List.find?_eq_some_iff_getElem]
  refine ⟨hp, i, by simpa using hi, by simp, fun j hj => ?_⟩
  simp [hno j hj]
theorem find_range_none {n : Nat} {p : Nat → Bool} (hno : ∀ j < n, p j = false) : (List.range n).find? p = none := by
  rw [List.find?_eq_none]
  intro j hj
  rw [hno j (List.mem_range.1 hj)]; simp
theorem aft_at {l : List TaskR} {i : Nat} {x : TaskR} (h : l[i]? = some x) : aft l i = x.after := by unfold aft; rw [h]
theorem canB_at {l : List TaskR} {d : Mk} {i : Nat} {x : TaskR} (h : l[i]? = some x) : canB l d i = (!gt d i && !wtB d x.after) := by unfold canB wt; rw [aft_at h]
theorem badB_at {l : List TaskR} {d : Mk} {i : Nat} {x : TaskR} (h : l[i]? = some x) : badB l d i = (gt d i && wtB d x.after) := by unfold badB wt; rw [aft_at h]
theorem no_less {p : Nat → Bool} {i : Nat} (h : ∀ j < i, p j = false) (hp : p i = false) : ∀ j < i + 1, p j = false := fun j hj => by
  rcases Nat.lt_or_ge j i with q | q
  · exact h j q
  · rw [show j = i by omega]; exact hp
attribute [local irreducible] Calls thenQ blockQ retQ jumpQ Spc Spl Spq Ex Ev Evs Gd Upd ESub HKeep Res Res1 wlk effQ Rem SrcAt Split mk
def orderI (l : List TaskR) (w : World) (x : Nat × List Nat × RowS) : Prop := w.heap.size ≤ x.1 ∧ Topo l x.2.1 ∧ x.2.2.ok 1 x.2.1.length (x.2.1.map iv) ∧ x.2.2.fresh w.heap.size ∧ orderL l = orderP l (l.length + 1 - x.2.1.length) x.2.1
set_option maxRecDepth 100000 in
set_option maxHeartbeats 4000000 in
theorem order_c {w : World} {s : Sl} {l : List TaskR} (h : RdTasks w w.heap.size s l) : Calls Try.prog 8 #[.slice s.a s.n s.c] w
    (RetH w (fun r : RowS => .tuple #[r.val (orderR l).1.length, .int .i64 (orderR l).2]) (fun r => r.hp ((orderR l).1.map iv) 3) (fun r => r.ok 1 (orderR l).1.length ((orderR l).1.map iv))) := by
  have hT := h
  obtain ⟨A, n, c⟩ := s
  obtain ⟨h, h2⟩ := h
  dsimp only at h
  have hbd : n ≤ 9223372036854775807 := h.bound
  have hlen : l.length = n := h.len
  have hval := fun w' (hh : Hp w.heap.size w [] w') => valid_c (hT.hp hh)
  show Calls _ _ #[.slice A n c] _ _
  refine sp_enter (vs := [_]) Try.func8 rfl Try.ntmps8 rfl ?_
  cases hok : tasksOk l with
  | false =>
    have hR : orderR l = ([], 1) := by unfold orderR; rw [hok]; rfl
    rw [hok] at hval
    rw [hR]
    repeat (first|apply jump_r|(apply sp_straight)|(apply spl_callp rfl;(·(repeat (first|exact eN|(apply eS;(·exact eT rfl)))));(·exact hval))|apply then_n|apply sp_seq|apply sp_region|apply spl_nil|apply then_r|((apply sp_cond_t);(·exact eT rfl);(·(rfl)))|apply sp_ret|((apply spl_pure rfl);(·(((first|apply ex_move|apply ex_assign|apply ex_not)<;>(first|exact eT rfl|exact eC))))))
    (apply retH_ok rfl;(·((apply Res.ofTwo<;>((apply Res1.tmp;(·rfl)))))))
    exact ⟨RowS.start, rfl, RowS.ok_start, by (repeat (exact HKeep.refl))⟩
  | true =>
    rw [hok] at hval
    obtain ⟨hsm, hV⟩ := tasksOk_V hok
    have hn40 : n ≤ 40 := by omega
    refine sp_seq ?_
    repeat (first|apply then_n|apply sp_region|apply spl_nil|((apply spl_pure rfl);(·(((apply ex_assign)<;>(exact eC))))))
    refine sp_jumps 0 (fun x : Nat × List Nat × RowS => [(5, true, .slice (some ⟨x.1, 0, none⟩) n n), (4, true, x.2.2.val x.2.1.length), (0, true, .slice A n c)]) (fun _ => w) (fun x => (x.1, .cells (mk (doneOf n x.2.1)) 4 (0, 0)) :: x.2.2.hp (x.2.1.map iv) 3) (orderI l w) (fun x => l.length + 1 - x.2.1.length) rfl ?_ ?_
    · rintro ⟨gd, o, r⟩ ⟨hgd, hTo, hr, hfr, hord⟩
      replace hgd : w.heap.size ≤ gd := hgd
      replace hTo : Topo l o := hTo
      replace hr : r.ok 1 o.length (o.map iv) := hr
      replace hfr : r.fresh w.heap.size := hfr
      replace hord : orderL l = orderP l (l.length + 1 - o.length) o := hord
      have hlo := hTo.len
      have hrow := RowS.drop (xs := o.map iv) (T := 3) hfr
      have hdl : (doneOf n o).length = n := doneOf_len n o
      obtain ⟨d, hd⟩ : ∃ d, d = doneOf n o := ⟨_, rfl⟩
      have hR : orderR l = if (orderL l).length < n then ([], 24) else (orderL l, 0) := by unfold orderR; rw [hok, hlen]; rfl
      dsimp only
      rw [← hd] at hdl ⊢
      repeat (first|apply then_n|apply sp_seq|apply sp_region|apply spl_nil|apply sp_block|((apply spl_pure rfl);(·(((first|apply ex_move|apply ex_len)<;>(first|exact eT rfl|exact eC))))))
      refine sp_loop (X := Nat) (fun i => [(16, true, .int .i64 (i : Int)), (15, true, .int .i64 (n : Int)), (14, true, .slice A n c), (5, true, .slice (some ⟨gd, 0, none⟩) n n), (4, true, r.val o.length), (0, true, .slice A n c)]) (fun _ => w) (fun _ => (gd, .cells (mk d) 4 (0, 0)) :: r.hp (o.map iv) 3) (fun i => i ≤ n ∧ ∀ j < i, canB l d j = false) (fun i => n - i) 0 ⟨Nat.zero_le _, fun j hj => by omega⟩ (by (repeat (first|exact ESub.nil|apply ESub.cons rfl))) rfl (by (repeat (exact HKeep.refl))) ?_
      rintro i ⟨hi, hno⟩
      by_cases hlt : i < n
      · obtain ⟨ad, x, hA, hb, hx, hsz, hc⟩ := h.at_ hlt
        have hsl := h2 x (List.mem_of_getElem? hx)
        have hvx := (hV x (List.mem_of_getElem? hx)).after
        rw [hlen] at hvx
        have hdi := mk_get (d := d) (i := i) (by omega)
        have hms : i < (mk d).size := by rw [mk_size]; omega
        have hmw : ∀ w' : World, Hp w.heap.size w [] w' → RdS w' w'.heap.size 1 intC x.sl.a x.sl.n x.after := fun w' hh => hsl.hp' hh
        cases hcan : canB l d i with
        | false =>
          have hcond := (canB_at (d := d) hx).symm.trans hcan
          repeat (first|(apply sp_cond_f;(·exact eT rfl);(·exact hcond))|(apply spl_callp_g rfl;(·exact Gd.tt rfl rfl);(·(repeat (first|exact eN|(apply eS;(·exact eG rfl)))));(·exact fun _ w' hh => waits_c (n := n) (hsl.hp' hh) (mk_rd hh.ownI hdl hbd) hvx))|apply then_n|apply block_n|apply sp_seq|apply sp_region|apply spl_nil|((apply sp_cond_t);(·exact eT rfl);(·(exact decide_eq_true (by omega))))|apply sp_skip|apply sp_block|((first|apply spl_pure rfl|(apply spl_pure_g rfl;(·exact Gd.tt rfl rfl)));(·(first|(apply ex_indexAddr0;(·exact eT rfl);(·exact eT rfl);(·assumption))|(apply ex_loadelem;(·exact eT rfl);(·exact h);(·exact hA);(·exact hx))|((first|apply ex_move|apply ex_assign|apply ex_not|apply ex_lss|apply ex_andT)<;>(first|exact eT rfl|exact eG rfl))|(apply ex_addn<;>(first|exact eT rfl|exact eC|(constructor<;>omega)))|((first|apply ex_loadown|apply ex_indexAddr)<;>(first|exact eT rfl|exact Bk.own InH.mem|assumption))|((apply ex_loadowns)<;>(first|exact eT rfl|exact Bk.own InH.mem|(rfl))))))|(apply spl_alloc rfl;intro _ _)|(apply spl_stores;(·exact eT rfl);(·exact eT rfl);(·(repeat (exact Upd.here)));(·(rfl));(·(rfl));(·exact Ones.one)))
          exact ⟨i + 1, ⟨hlt, no_less hno hcan⟩, by (show n - (i + 1) < n - i; omega), (by (repeat (first|exact ESub.nil|apply ESub.cons rfl))), rfl, (by (repeat (first|exact HKeep.refl|(apply HKeep.pick;(·(repeat (first|exact Rem.here|apply Rem.there))))|apply HKeep.drop (by first|assumption|omega))))⟩
        | true =>
          have hcond := (canB_at (d := d) hx).symm.trans hcan
          have hnext : nextR l (doneOf l.length o) = some i := by rw [hlen, ← hd]; exact find_range (by omega) hcan hno
          have hTo2 := hTo.snoc hnext
          have hlo2 := hTo2.len
          rw [List.length_append, List.length_singleton] at hlo2
          repeat (first|apply sp_goto|apply then_g|apply block_g|(apply sp_cond_t;(·exact eT rfl);(·exact hcond))|(apply spl_callp_g rfl;(·exact Gd.tt rfl rfl);(·(repeat (first|exact eN|(apply eS;(·exact eG rfl)))));(·exact fun _ w' hh => waits_c (n := n) (hsl.hp' hh) (mk_rd hh.ownI hdl hbd) hvx))|(apply spl_store1E (mk_set d i true);(·exact eT rfl);(·exact eC);(·rfl);(·(repeat (first|exact Upd.here|apply Upd.there)));(·exact hms))|apply then_n|apply sp_seq|apply sp_region|apply spl_nil|((apply sp_cond_t);(·exact eT rfl);(·(exact decide_eq_true (by omega))))|apply sp_skip|apply sp_block|((first|apply spl_pure rfl|(apply spl_pure_g rfl;(·exact Gd.tt rfl rfl)));(·(first|(apply ex_indexAddr0;(·exact eT rfl);(·exact eT rfl);(·assumption))|(apply ex_loadelem;(·exact eT rfl);(·exact h);(·exact hA);(·exact hx))|((first|apply ex_move|apply ex_assign|apply ex_not|apply ex_lss|apply ex_andT)<;>(first|exact eT rfl|exact eG rfl))|((first|apply ex_loadown|apply ex_indexAddr)<;>(first|exact eT rfl|exact Bk.own InH.mem|assumption))|((apply ex_loadowns)<;>(first|exact eT rfl|exact Bk.own InH.mem|(rfl))))))|(apply spl_alloc rfl;intro _ _)|(apply spl_stores;(·exact eT rfl);(·exact eT rfl);(·(repeat (exact Upd.here)));(·(rfl));(·(rfl));(·exact Ones.one))|(apply spl_buildSlice rfl;(·rfl);(·(repeat (first|exact eN|(apply eS;(·exact eT rfl)))));(·rfl);(·rfl);(·rfl);intro _ _)|(refine spl_append_row (r := r) (n := o.length) (xs := o.map iv) (news := [iv i]) (m := 1) (by (exact eT rfl)) (by (exact eT rfl)) (by (repeat (first|exact Split.all|apply Split.cons))) hr hfr (by omega) (fun w' hh => SrcAt.slice (CellsAt.own hh.ownI (fun j u hj => by rw [List.getElem?_toArray]; exact hj)) rfl rfl (fun v hv => by simp [iv] at hv; subst hv; rfl)) rfl (by omega) rfl rfl rfl rfl ?_;intro r2 hr2 hfr2;have hrow2 := RowS.drop (xs := o.map iv ++ [iv i]) (T := 3) hfr2))
          refine jump_g ⟨(gd, o ++ [i], r2), ⟨hgd, hTo2, ?_, hfr2, ?_⟩, ?_, ?_, rfl, ?_⟩
          · rw [List.length_append, List.map_append]; exact hr2
          · show orderL l = orderP l (l.length + 1 - (o ++ [i]).length) (o ++ [i])
            rw [hord, List.length_append, List.length_singleton, show l.length + 1 - o.length = (l.length + 1 - (o.length + 1)) + 1 by omega]
            rw [orderP, hnext]
          · show l.length + 1 - (o ++ [i]).length < _
            rw [List.length_append, List.length_singleton]; omega
          · show ESub [(5, true, .slice (some ⟨gd, 0, none⟩) n n), (4, true, r2.val (o ++ [i]).length), (0, true, .slice A n c)] _
            rw [List.length_append, List.length_singleton]
            (repeat (first|exact ESub.nil|apply ESub.cons rfl))
          · show HKeep w ((gd, .cells (mk (doneOf n (o ++ [i]))) 4 (0, 0)) :: r2.hp ((o ++ [i]).map iv) 3) _
            rw [doneOf_snoc, ← hd, List.map_append]
            rw [← List.append_nil (r2.hp _ _)]
            show HKeep w ((gd, .cells (mk (d.set i true)) 4 (0, 0)) :: (r2.hp (o.map iv ++ [iv i]) 3 ++ [])) _
            (repeat (first|exact HKeep.refl|(apply HKeep.app;(·(repeat (exact Split.here))))|(apply HKeep.pick;(·(repeat (first|exact Rem.here|apply Rem.there|apply Rem.app))))|apply HKeep.drop (by first|assumption|omega)))
      · have hnone : nextR l (doneOf l.length o) = none := by rw [hlen, ← hd]; exact find_range_none (fun j hj => hno j (by omega))
        have hL : orderL l = o := by
          rw [hord, show l.length + 1 - o.length = (l.length - o.length) + 1 by omega]
          simp only [orderP]
          rw [hnone]
        by_cases hcyc : o.length < n
        · rw [hR, hL, if_pos hcyc]
          have hc1 : (o.length : Int) < (n : Int) := by omega
          repeat (first|apply jump_r|(apply sp_cond_t;(·exact eT rfl);(·exact decide_eq_true hc1))|apply then_n|apply sp_seq|apply sp_region|apply spl_nil|apply then_r|apply then_e|apply block_here|(apply sp_cond_f;(·exact eT rfl);(·(exact decide_eq_false (by omega))))|apply sp_ret|apply sp_exit|((apply spl_pure rfl);(·(((first|apply ex_move|apply ex_assign|apply ex_lss|apply ex_len)<;>(first|exact eT rfl|exact eC))))))
          (apply retH_ok rfl;(·((apply Res.ofTwo<;>((apply Res1.tmp;(·rfl)))))))
          exact ⟨RowS.start, rfl, RowS.ok_start, by (repeat (apply HKeep.drop (by first|assumption|omega))); exact HKeep.dropAll hrow⟩
        · rw [hR, hL, if_neg hcyc]
          have hc1 : ¬ (o.length : Int) < (n : Int) := by omega
          repeat (first|apply jump_r|(apply sp_cond_f;(·exact eT rfl);(·exact decide_eq_false hc1))|apply then_n|apply sp_seq|apply sp_region|apply spl_nil|apply then_e|apply block_here|(apply sp_cond_f;(·exact eT rfl);(·(exact decide_eq_false (by omega))))|apply sp_skip|apply sp_ret|apply sp_exit|((apply spl_pure rfl);(·(((first|apply ex_move|apply ex_assign|apply ex_lss|apply ex_len)<;>(first|exact eT rfl|exact eC))))))
          (apply retH_ok rfl;(·((apply Res.ofTwo<;>((apply Res1.tmp;(·rfl)))))))
          exact ⟨r, rfl, hr, by (repeat (first|exact HKeep.refl|apply HKeep.drop (by first|assumption|omega)))⟩
    · intro go
      repeat (first|apply sp_label|(refine go (gd, [], RowS.start) _ _ ?_ ?_ ?_)|(apply spl_callp rfl;(·(repeat (first|exact eN|(apply eS;(·exact eT rfl)))));(·exact hval))|(apply spl_makeSlice rfl;(·exact eT rfl);(·exact eT rfl);(·rfl);(·omega);(·omega);intro gd hgd)|apply then_n|apply sp_seq|apply sp_region|apply spl_nil|(apply sp_cond_f;(·exact eT rfl);(·(rfl)))|apply sp_skip|((apply spl_pure rfl);(·(((first|apply ex_move|apply ex_assign|apply ex_not|apply ex_len)<;>(first|exact eT rfl|exact eC))))))
      · exact ⟨hgd, Topo.nil, RowS.ok_start, RowS.fresh_start, rfl⟩
      · (repeat (first|exact ESub.nil|apply ESub.cons rfl))
      · rw [mk_rep]
        show HKeep w [(gd, _)] _
        (repeat (exact HKeep.refl))
end Go.Proofs.Ytoogicafefennaa
/-
  Records of whole numbers and bools as keys of maps.
-/
namespace Go.Proofs.Ytoogicafefennaa
set_option linter.unusedVariables false
open Go.RowKit Go.Sy
set_option linter.unusedVariables false
set_option linter.unusedSimpArgs false
def W64 (n : Int) : Prop := (Lit.int .i64 n).wf = true
theorem W64.of {n : Int} (h1 : -9223372036854775808 ≤ n) (h2 : n < 9223372036854775808) : W64 n := by
  unfold W64
  simp [Lit.wf, IntKind.min, IntKind.max, IntKind.signed, IntKind.bits]
  omega
theorem W64.bd {n : Int} (h : W64 n) : -9223372036854775808 ≤ n ∧ n < 9223372036854775808 := by
  unfold W64 at h
  simp [Lit.wf, IntKind.min, IntKind.max, IntKind.signed, IntKind.bits] at h
  omega
theorem TKey.wide {P : Program} {t : TypeId} {K : Type} [DecidableEq K] (kv : K → Value) (keyLaid : laidOutB P = true) (size_small : P.types.size + 2 ≤ 10000) (hrow : t < P.types.size) (hkt : P.keyType t = true)
    (hwide : (match P.underlying t with | some (.array _ _) | some (.struct _) => true | _ => false) = true) (inj : ∀ a b, kv a = kv b → a = b) (hk : ∀ k, ∃ l, keyOf P t (kv k) = some l) (hs : ∀ k, Instr.sameBits 10000 (kv k) (kv k) = true) : TKey P t kv where
  check b k w := by
    obtain ⟨l, h⟩ := hk k
    exact (deep_law_gate keyLaid size_small hrow hkt hwide).check w b h
  find k es w := by
    rw [run_findKey_eq (P := P) (w := w) (k := t) hwide (kv k) _]
    have heq : ∀ e : K, (Op.equal t (kv k) (kv e)).run P w = .ok (decide (k = e)) w := fun e => by
      obtain ⟨l1, h1⟩ := hk k
      obtain ⟨l2, h2⟩ := hk e
      obtain ⟨r, hr, hi⟩ := run_equal_deep (P := P) w (m := P.types.size + 1) (Nat.le_trans (Nat.le_succ _) size_small) hkt hwide h1 h2
      rw [hr]
      congr 1
      rw [Bool.eq_iff_iff, hi, decide_eq_true_iff]
      constructor
      · intro h
        rw [h] at h1
        exact inj _ _ ((deep_law_gate keyLaid size_small hrow hkt hwide).inj h1 h2)
      · intro h
        rw [h] at h1
        exact Option.some.inj (h1.symm.trans h2)
    have : ∀ i, (Instr.findAsking t (kv k) (es.map (ent kv)) i).run P w = .ok (findL k es i) w := by
      induction es with
      | nil => intro i; rfl
      | cons e es ih =>
        intro i
        simp only [List.map_cons, Instr.findAsking, ent, findL, Sem.run_bind, heq, Result.andThen_ok]
        by_cases h : k = e.1
        · simp [h]
        · simp only [h, decide_false, if_false]
          exact ih (i + 1)
    exact this 0
  same k := hs k
/-! What a record's cells are told as. -/
section
variable {P : Program} {t e : TypeId} {d : Nat}
theorem kl_int (hu : P.underlying t = some (.int .i64)) {n : Int} (h : W64 n) : P.keyLits (d + 1) t [.int .i64 n] = some [.int .i64 n] := by
  unfold W64 at h
  simp [Program.keyLits, hu, h]
theorem kl_bool (hu : P.underlying t = some .bool) {b : Bool} : P.keyLits (d + 1) t [.bool b] = some [.bool b] := by
  simp [Program.keyLits, hu]
theorem kl_arr6 {l0 l1 l2 l3 l4 l5 : Lit} {a0 a1 a2 a3 a4 a5 : Value} (hu : P.underlying t = some (.array 6 e)) (hc : P.cellsOf t = 6) (he : P.cellsOf e = 1)
    (h0 : P.keyLits d e [a0] = some [l0]) (h1 : P.keyLits d e [a1] = some [l1]) (h2 : P.keyLits d e [a2] = some [l2]) (h3 : P.keyLits d e [a3] = some [l3]) (h4 : P.keyLits d e [a4] = some [l4]) (h5 : P.keyLits d e [a5] = some [l5]) :
    P.keyLits (d + 1) t [a0, a1, a2, a3, a4, a5] = some [l0, l1, l2, l3, l4, l5] := by
  unfold Program.keyLits
  simp only [hu, hc, he]
  simp [List.range, List.range.loop, h0, h1, h2, h3, h4, h5]
end
def natV (l : List Nat) : List Value := l.map iv
structure GS where
  turn : Nat
  starts : List Nat
  failed : List Bool
  budget : Nat
instance : DecidableEq GS := fun s t => decidable_of_iff (s.turn = t.turn ∧ s.starts = t.starts ∧ s.failed = t.failed ∧ s.budget = t.budget) (by cases s; cases t; simp)
def GS.L (s : GS) : List Value := iv s.turn :: (s.starts.map iv ++ (s.failed.map bv ++ [iv s.budget]))
def GS.C (s : GS) : Array Value := s.L.toArray
structure GS.Ok (s : GS) : Prop where
  t : s.turn < 4611686018427387904
  b : s.budget < 4611686018427387904
  l1 : s.starts.length = 6
  l2 : s.failed.length = 6
  sb : ∀ x ∈ s.starts, x < 4611686018427387904
def GK : Type := { s : GS // s.Ok }
instance : DecidableEq GK := inferInstanceAs (DecidableEq { s : GS // s.Ok })
def gkV (k : GK) : Value := .agg k.1.C
theorem iv_w {n : Nat} (h : n < 4611686018427387904) : W64 (n : Int) := W64.of (by omega) (by omega)
set_option maxRecDepth 100000 in
theorem gk_key (k : GK) : ∃ l, keyOf Try.prog 82 (gkV k) = some l := by
  obtain ⟨⟨t, st, fl, b⟩, h1, h2, h3, h4, h5⟩ := k
  dsimp only at h1 h2 h3 h4 h5
  match st, h3 with
  | [a0, a1, a2, a3, a4, a5], _ =>
    match fl, h4 with
    | [f0, f1, f2, f3, f4, f5], _ =>
      have w0 := iv_w h1
      have w1 := iv_w h2
      have v0 := iv_w (h5 a0 (by simp))
      have v1 := iv_w (h5 a1 (by simp))
      have v2 := iv_w (h5 a2 (by simp))
      have v3 := iv_w (h5 a3 (by simp))
      have v4 := iv_w (h5 a4 (by simp))
      have v5 := iv_w (h5 a5 (by simp))
      have hs : Try.prog.types.size + 1 = 183 + 1 + 1 + 1 + 1 := by kernel_rfl
      have hc : Try.prog.cellsOf 82 = 14 := by kernel_rfl
      have hc1 : Try.prog.cellsOf 79 = 6 := by kernel_rfl
      have hc2 : Try.prog.cellsOf 80 = 6 := by kernel_rfl
      have hc3 : Try.prog.cellsOf 3 = 1 := by kernel_rfl
      have hc4 : Try.prog.cellsOf 4 = 1 := by kernel_rfl
      have hkt : Try.prog.keyType 82 = true := by kernel_rfl
      have ki := fun (n : Int) (h : W64 n) => kl_int (P := Try.prog) (d := 184) Try.underlying3 h
      have ki2 := fun (n : Int) (h : W64 n) => kl_int (P := Try.prog) (d := 185) Try.underlying3 h
      have kb := fun (b : Bool) => kl_bool (P := Try.prog) (d := 184) Try.underlying4 (b := b)
      have k1 := kl_arr6 (P := Try.prog) Try.underlying79 hc1 hc3 (ki _ v0) (ki _ v1) (ki _ v2) (ki _ v3) (ki _ v4) (ki _ v5)
      have k2 := kl_arr6 (P := Try.prog) Try.underlying80 hc2 hc4 (kb f0) (kb f1) (kb f2) (kb f3) (kb f4) (kb f5)
      have q0 := ki2 _ w0
      have q3 := ki2 _ w1
      have hfm : (gkV ⟨⟨t, [a0, a1, a2, a3, a4, a5], [f0, f1, f2, f3, f4, f5], b⟩, ⟨h1, h2, rfl, rfl, h5⟩⟩).formed Try.prog 82 = true := by
        unfold gkV Value.formed
        rw [Try.underlying82]
        simp only [hc]
        rfl
      have hkl : Try.prog.keyLits (Try.prog.types.size + 1) 82 [.int .i64 (t : Int), .int .i64 (a0 : Int), .int .i64 (a1 : Int), .int .i64 (a2 : Int), .int .i64 (a3 : Int), .int .i64 (a4 : Int), .int .i64 (a5 : Int), .bool f0, .bool f1, .bool f2, .bool f3, .bool f4, .bool f5, .int .i64 (b : Int)] = some [.int .i64 (t : Int), .int .i64 (a0 : Int), .int .i64 (a1 : Int), .int .i64 (a2 : Int), .int .i64 (a3 : Int), .int .i64 (a4 : Int), .int .i64 (a5 : Int), .bool f0, .bool f1, .bool f2, .bool f3, .bool f4, .bool f5, .int .i64 (b : Int)] := by
        rw [hs]
        unfold Program.keyLits
        simp only [Try.underlying82, hc]
        rw [if_pos ⟨rfl, by kernel_rfl⟩]
        simp only [List.mapM_cons, List.mapM_nil, hc1, hc2, hc3, List.drop, List.take, q0, q3, k1, k2]
        rfl
      unfold keyOf
      rw [Try.underlying82]
      simp only [hkt, hfm, Bool.and_self, if_true]
      exact ⟨_, congrArg (Option.map fun ls => Lit.string (keyBytes ls)) hkl⟩
end Go.Proofs.Ytoogicafefennaa
/-
  The records that are keys of maps in the games.
-/
namespace Go.Proofs.Ytoogicafefennaa
set_option linter.unusedVariables false
open Go.RowKit Go.Sy
set_option linter.unusedVariables false
set_option linter.unusedSimpArgs false
def zv (n : Int) : Value := .int .i64 n
theorem same_all : ∀ (l : List Value), (∀ v ∈ l, Instr.sameBits 9999 v v = true) → (l.zip l).all (fun p => Instr.sameBits 9999 p.1 p.2) = true
  | [], _ => rfl
  | v :: r, h => by
    rw [List.zip_cons_cons, List.all_cons, h v (.head _), same_all r fun x hx => h x (.tail _ hx)]; rfl
theorem same_agg (l : List Value) (h : ∀ v ∈ l, Instr.sameBits 9999 v v = true) : Instr.sameBits 10000 (.agg l.toArray) (.agg l.toArray) = true := by
  show (l.toArray.size == l.toArray.size && (l.toArray.toList.zip l.toArray.toList).all fun (x, y) => Instr.sameBits 9999 x y) = true
  rw [beq_self_eq_true, Bool.true_and]
  exact same_all l h
theorem same_iv (n : Nat) : Instr.sameBits 9999 (iv n) (iv n) = true := by simp [Instr.sameBits, iv]
theorem same_zv (n : Int) : Instr.sameBits 9999 (zv n) (zv n) = true := by simp [Instr.sameBits, zv]
theorem same_bv (b : Bool) : Instr.sameBits 9999 (bv b) (bv b) = true := by simp [Instr.sameBits, bv]
theorem iv_inj {a b : Nat} (h : iv a = iv b) : a = b := by unfold iv at h; injection h with _ h; omega
theorem zv_inj {a b : Int} (h : zv a = zv b) : a = b := by unfold zv at h; injection h
theorem bv_inj {a b : Bool} (h : bv a = bv b) : a = b := by unfold bv at h; injection h
theorem map_inj {α : Type} {f : α → Value} (hf : ∀ a b, f a = f b → a = b) : ∀ {l m : List α}, l.map f = m.map f → l = m
  | [], [], _ => rfl
  | [], _ :: _, h => by cases h
  | _ :: _, [], h => by cases h
  | a :: l, b :: m, h => by
    rw [List.map_cons, List.map_cons] at h
    injection h with h1 h2
    rw [hf a b h1, map_inj hf h2]
theorem seg_inj {α : Type} {f : α → Value} (hf : ∀ a b, f a = f b → a = b) {l m : List α} {r s : List Value} (hl : l.length = 6) (hm : m.length = 6) (h : l.map f ++ r = m.map f ++ s) : l = m ∧ r = s := by
  obtain ⟨h1, h2⟩ := List.append_inj h (by rw [List.length_map, List.length_map, hl, hm])
  exact ⟨map_inj hf h1, h2⟩

theorem gk_inj (a b : GK) (h : gkV a = gkV b) : a = b := by
  obtain ⟨⟨turn, starts, failed, budget⟩, ha⟩ := a
  obtain ⟨⟨turn', starts', failed', budget'⟩, hb⟩ := b
  unfold gkV GS.C GS.L at h
  injection h with h'
  have h0 := congrArg Array.toList h'
  clear h'
  dsimp only at h0
  obtain ⟨e0, h1⟩ := List.cons.inj h0
  clear h0
  obtain rfl := iv_inj e0
  obtain ⟨e1, h2⟩ := seg_inj (fun _ _ => iv_inj) ha.l1 hb.l1 h1
  clear h1
  subst e1
  obtain ⟨e2, h3⟩ := seg_inj (fun _ _ => bv_inj) ha.l2 hb.l2 h2
  clear h2
  subst e2
  obtain ⟨e3, h4⟩ := List.cons.inj h3
  clear h3
  obtain rfl := iv_inj e3
  rfl
theorem gk_same (k : GK) : Instr.sameBits 10000 (gkV k) (gkV k) = true := by
  refine same_agg k.1.L fun v hv => ?_
  unfold GS.L at hv
  simp only [List.mem_cons, List.mem_append, List.mem_map, List.not_mem_nil, or_false] at hv
  rcases hv with rfl | ⟨x, _, rfl⟩ | ⟨x, _, rfl⟩ | rfl
  · exact same_iv _
  · exact same_iv _
  · exact same_bv _
  · exact same_iv _
set_option maxRecDepth 100000 in
instance gkKey : TKey Try.prog 82 (K := GK) gkV := TKey.wide gkV (by kernel_rfl) (of_decide_eq_true (by kernel_rfl)) (of_decide_eq_true (by kernel_rfl)) (by kernel_rfl) (by rw [Try.underlying82]) gk_inj gk_key gk_same
structure PK where
  turn : Int
  stock : Int
  budget : Int
  starts : List Int
  failed : List Bool
instance : DecidableEq PK := fun s t => decidable_of_iff (s.turn = t.turn ∧ s.stock = t.stock ∧ s.budget = t.budget ∧ s.starts = t.starts ∧ s.failed = t.failed) (by cases s; cases t; simp)
def PK.L (s : PK) : List Value := zv s.turn :: zv s.stock :: zv s.budget :: (s.starts.map zv ++ ((s.failed.map bv ++ ([]))))
def PK.C (s : PK) : Array Value := s.L.toArray
structure PK.Ok (s : PK) : Prop where
  w_turn : W64 s.turn
  w_stock : W64 s.stock
  w_budget : W64 s.budget
  l_starts : s.starts.length = 6
  w_starts : ∀ x ∈ s.starts, W64 x
  l_failed : s.failed.length = 6
def PKs : Type := { s : PK // s.Ok }
instance : DecidableEq PKs := inferInstanceAs (DecidableEq { s : PK // s.Ok })
def pkV (k : PKs) : Value := .agg k.1.C
set_option maxRecDepth 100000 in
theorem pk_key (k : PKs) : ∃ l, keyOf Try.prog 132 (pkV k) = some l := by
  obtain ⟨⟨turn, stock, budget, starts, failed⟩, hok⟩ := k
  have hok' := hok
  obtain ⟨b_turn, b_stock, b_budget, l_starts, b_starts, l_failed⟩ := hok
  dsimp only at b_turn b_stock b_budget l_starts b_starts l_failed
  match starts, l_starts with
  | [starts0, starts1, starts2, starts3, starts4, starts5], _ =>
    match failed, l_failed with
    | [failed0, failed1, failed2, failed3, failed4, failed5], _ =>
      have hs : Try.prog.types.size + 1 = 183 + 1 + 1 + 1 + 1 := by kernel_rfl
      have hc : Try.prog.cellsOf 132 = 15 := by kernel_rfl
      have hc1 : Try.prog.cellsOf 79 = 6 := by kernel_rfl
      have hc2 : Try.prog.cellsOf 80 = 6 := by kernel_rfl
      have hc3 : Try.prog.cellsOf 3 = 1 := by kernel_rfl
      have hc4 : Try.prog.cellsOf 4 = 1 := by kernel_rfl
      have hkt : Try.prog.keyType 132 = true := by kernel_rfl
      have ki := fun (n : Int) (h : W64 n) => kl_int (P := Try.prog) (d := 184) Try.underlying3 h
      have ki2 := fun (n : Int) (h : W64 n) => kl_int (P := Try.prog) (d := 185) Try.underlying3 h
      have kb := fun (b : Bool) => kl_bool (P := Try.prog) (d := 184) Try.underlying4 (b := b)
      have q_turn := ki2 _ b_turn
      have q_stock := ki2 _ b_stock
      have q_budget := ki2 _ b_budget
      have q_starts := kl_arr6 (P := Try.prog) Try.underlying79 hc1 hc3 (ki _ (b_starts starts0 (by simp))) (ki _ (b_starts starts1 (by simp))) (ki _ (b_starts starts2 (by simp))) (ki _ (b_starts starts3 (by simp))) (ki _ (b_starts starts4 (by simp))) (ki _ (b_starts starts5 (by simp)))
      have q_failed := kl_arr6 (P := Try.prog) Try.underlying80 hc2 hc4 (kb failed0) (kb failed1) (kb failed2) (kb failed3) (kb failed4) (kb failed5)
      have hfm : (pkV ⟨⟨turn, stock, budget, [starts0, starts1, starts2, starts3, starts4, starts5], [failed0, failed1, failed2, failed3, failed4, failed5]⟩, hok'⟩).formed Try.prog 132 = true := by
        unfold pkV Value.formed
        rw [Try.underlying132]
        simp only [hc]
        rfl
      have hkl : Try.prog.keyLits (Try.prog.types.size + 1) 132 [.int .i64 (turn : Int), .int .i64 (stock : Int), .int .i64 (budget : Int), .int .i64 (starts0 : Int), .int .i64 (starts1 : Int), .int .i64 (starts2 : Int), .int .i64 (starts3 : Int), .int .i64 (starts4 : Int), .int .i64 (starts5 : Int), .bool failed0, .bool failed1, .bool failed2, .bool failed3, .bool failed4, .bool failed5] = some [.int .i64 (turn : Int), .int .i64 (stock : Int), .int .i64 (budget : Int), .int .i64 (starts0 : Int), .int .i64 (starts1 : Int), .int .i64 (starts2 : Int), .int .i64 (starts3 : Int), .int .i64 (starts4 : Int), .int .i64 (starts5 : Int), .bool failed0, .bool failed1, .bool failed2, .bool failed3, .bool failed4, .bool failed5] := by
        rw [hs]
        unfold Program.keyLits
        simp only [Try.underlying132, hc]
        rw [if_pos ⟨rfl, by kernel_rfl⟩]
        simp only [List.mapM_cons, List.mapM_nil, hc1, hc2, hc3, List.drop, List.take, q_turn, q_stock, q_budget, q_starts, q_failed]
        rfl
      unfold keyOf
      rw [Try.underlying132]
      simp only [hkt, hfm, Bool.and_self, if_true]
      exact ⟨_, congrArg (Option.map fun ls => Lit.string (keyBytes ls)) hkl⟩
theorem pk_inj (a b : PKs) (h : pkV a = pkV b) : a = b := by
  obtain ⟨⟨turn, stock, budget, starts, failed⟩, ha⟩ := a
  obtain ⟨⟨turn', stock', budget', starts', failed'⟩, hb⟩ := b
  unfold pkV PK.C PK.L at h
  injection h with h'
  have h0 := congrArg Array.toList h'
  clear h'
  dsimp only at h0
  obtain ⟨e0, h1⟩ := List.cons.inj h0
  clear h0
  obtain rfl := zv_inj e0
  obtain ⟨e1, h2⟩ := List.cons.inj h1
  clear h1
  obtain rfl := zv_inj e1
  obtain ⟨e2, h3⟩ := List.cons.inj h2
  clear h2
  obtain rfl := zv_inj e2
  obtain ⟨e3, h4⟩ := seg_inj (fun _ _ => zv_inj) ha.l_starts hb.l_starts h3
  clear h3
  subst e3
  obtain ⟨e4, h5⟩ := seg_inj (fun _ _ => bv_inj) ha.l_failed hb.l_failed h4
  clear h4
  subst e4
  rfl
theorem pk_same (k : PKs) : Instr.sameBits 10000 (pkV k) (pkV k) = true := by
  refine same_agg k.1.L fun v hv => ?_
  unfold PK.L at hv
  simp only [List.mem_cons, List.mem_append, List.mem_map, List.not_mem_nil, or_false] at hv
  rcases hv with rfl | rfl | rfl | ⟨x, _, rfl⟩ | ⟨x, _, rfl⟩
  · exact same_zv _
  · exact same_zv _
  · exact same_zv _
  · exact same_zv _
  · exact same_bv _
set_option maxRecDepth 100000 in
instance pkKey : TKey Try.prog 132 (K := PKs) pkV := TKey.wide pkV (by kernel_rfl) (of_decide_eq_true (by kernel_rfl)) (of_decide_eq_true (by kernel_rfl)) (by kernel_rfl) (by rw [Try.underlying132]) pk_inj pk_key pk_same
structure JK where
  turn : Int
  budget : Int
  stock : Int
  starts : List Int
  failed : Int
instance : DecidableEq JK := fun s t => decidable_of_iff (s.turn = t.turn ∧ s.budget = t.budget ∧ s.stock = t.stock ∧ s.starts = t.starts ∧ s.failed = t.failed) (by cases s; cases t; simp)
def JK.L (s : JK) : List Value := zv s.turn :: zv s.budget :: zv s.stock :: (s.starts.map zv ++ (zv s.failed :: []))
def JK.C (s : JK) : Array Value := s.L.toArray
structure JK.Ok (s : JK) : Prop where
  w_turn : W64 s.turn
  w_budget : W64 s.budget
  w_stock : W64 s.stock
  l_starts : s.starts.length = 6
  w_starts : ∀ x ∈ s.starts, W64 x
  w_failed : W64 s.failed
def JKs : Type := { s : JK // s.Ok }
instance : DecidableEq JKs := inferInstanceAs (DecidableEq { s : JK // s.Ok })
def jkV (k : JKs) : Value := .agg k.1.C
set_option maxRecDepth 100000 in
theorem jk_key (k : JKs) : ∃ l, keyOf Try.prog 102 (jkV k) = some l := by
  obtain ⟨⟨turn, budget, stock, starts, failed⟩, hok⟩ := k
  have hok' := hok
  obtain ⟨b_turn, b_budget, b_stock, l_starts, b_starts, b_failed⟩ := hok
  dsimp only at b_turn b_budget b_stock l_starts b_starts b_failed
  match starts, l_starts with
  | [starts0, starts1, starts2, starts3, starts4, starts5], _ =>
    have hs : Try.prog.types.size + 1 = 183 + 1 + 1 + 1 + 1 := by kernel_rfl
    have hc : Try.prog.cellsOf 102 = 10 := by kernel_rfl
    have hc1 : Try.prog.cellsOf 79 = 6 := by kernel_rfl
    have hc2 : Try.prog.cellsOf 80 = 6 := by kernel_rfl
    have hc3 : Try.prog.cellsOf 3 = 1 := by kernel_rfl
    have hc4 : Try.prog.cellsOf 4 = 1 := by kernel_rfl
    have hkt : Try.prog.keyType 102 = true := by kernel_rfl
    have ki := fun (n : Int) (h : W64 n) => kl_int (P := Try.prog) (d := 184) Try.underlying3 h
    have ki2 := fun (n : Int) (h : W64 n) => kl_int (P := Try.prog) (d := 185) Try.underlying3 h
    have kb := fun (b : Bool) => kl_bool (P := Try.prog) (d := 184) Try.underlying4 (b := b)
    have q_turn := ki2 _ b_turn
    have q_budget := ki2 _ b_budget
    have q_stock := ki2 _ b_stock
    have q_starts := kl_arr6 (P := Try.prog) Try.underlying79 hc1 hc3 (ki _ (b_starts starts0 (by simp))) (ki _ (b_starts starts1 (by simp))) (ki _ (b_starts starts2 (by simp))) (ki _ (b_starts starts3 (by simp))) (ki _ (b_starts starts4 (by simp))) (ki _ (b_starts starts5 (by simp)))
    have q_failed := ki2 _ b_failed
    have hfm : (jkV ⟨⟨turn, budget, stock, [starts0, starts1, starts2, starts3, starts4, starts5], failed⟩, hok'⟩).formed Try.prog 102 = true := by
      unfold jkV Value.formed
      rw [Try.underlying102]
      simp only [hc]
      rfl
    have hkl : Try.prog.keyLits (Try.prog.types.size + 1) 102 [.int .i64 (turn : Int), .int .i64 (budget : Int), .int .i64 (stock : Int), .int .i64 (starts0 : Int), .int .i64 (starts1 : Int), .int .i64 (starts2 : Int), .int .i64 (starts3 : Int), .int .i64 (starts4 : Int), .int .i64 (starts5 : Int), .int .i64 (failed : Int)] = some [.int .i64 (turn : Int), .int .i64 (budget : Int), .int .i64 (stock : Int), .int .i64 (starts0 : Int), .int .i64 (starts1 : Int), .int .i64 (starts2 : Int), .int .i64 (starts3 : Int), .int .i64 (starts4 : Int), .int .i64 (starts5 : Int), .int .i64 (failed : Int)] := by
      rw [hs]
      unfold Program.keyLits
      simp only [Try.underlying102, hc]
      rw [if_pos ⟨rfl, by kernel_rfl⟩]
      simp only [List.mapM_cons, List.mapM_nil, hc1, hc2, hc3, List.drop, List.take, q_turn, q_budget, q_stock, q_starts, q_failed]
      rfl
    unfold keyOf
    rw [Try.underlying102]
    simp only [hkt, hfm, Bool.and_self, if_true]
    exact ⟨_, congrArg (Option.map fun ls => Lit.string (keyBytes ls)) hkl⟩
theorem jk_inj (a b : JKs) (h : jkV a = jkV b) : a = b := by
  obtain ⟨⟨turn, budget, stock, starts, failed⟩, ha⟩ := a
  obtain ⟨⟨turn', budget', stock', starts', failed'⟩, hb⟩ := b
  unfold jkV JK.C JK.L at h
  injection h with h'
  have h0 := congrArg Array.toList h'
  clear h'
  dsimp only at h0
  obtain ⟨e0, h1⟩ := List.cons.inj h0
  clear h0
  obtain rfl := zv_inj e0
  obtain ⟨e1, h2⟩ := List.cons.inj h1
  clear h1
  obtain rfl := zv_inj e1
  obtain ⟨e2, h3⟩ := List.cons.inj h2
  clear h2
  obtain rfl := zv_inj e2
  obtain ⟨e3, h4⟩ := seg_inj (fun _ _ => zv_inj) ha.l_starts hb.l_starts h3
  clear h3
  subst e3
  obtain ⟨e4, h5⟩ := List.cons.inj h4
  clear h4
  obtain rfl := zv_inj e4
  rfl
theorem jk_same (k : JKs) : Instr.sameBits 10000 (jkV k) (jkV k) = true := by
  refine same_agg k.1.L fun v hv => ?_
  unfold JK.L at hv
  simp only [List.mem_cons, List.mem_append, List.mem_map, List.not_mem_nil, or_false] at hv
  rcases hv with rfl | rfl | rfl | ⟨x, _, rfl⟩ | rfl
  · exact same_zv _
  · exact same_zv _
  · exact same_zv _
  · exact same_zv _
  · exact same_zv _
set_option maxRecDepth 100000 in
instance jkKey : TKey Try.prog 102 (K := JKs) jkV := TKey.wide jkV (by kernel_rfl) (of_decide_eq_true (by kernel_rfl)) (of_decide_eq_true (by kernel_rfl)) (by kernel_rfl) (by rw [Try.underlying102]) jk_inj jk_key jk_same
end Go.Proofs.Ytoogicafefennaa
/-
  Contracts of package task: Ready, Undo.
-/
namespace Go.Proofs.Ytoogicafefennaa
set_option linter.unusedVariables false
open Go.RowKit Go.Sy
set_option linter.unusedVariables false
set_option linter.unusedSimpArgs false
theorem filter_snoc_t {p : Nat → Bool} {i : Nat} (h : p i = true) : (List.range (i + 1)).filter p = (List.range i).filter p ++ [i] := by
  rw [List.range_succ, List.filter_append]; simp [h]
theorem filter_snoc_f {p : Nat → Bool} {i : Nat} (h : p i = false) : (List.range (i + 1)).filter p = (List.range i).filter p := by
  rw [List.range_succ, List.filter_append]; simp [h]
theorem filter_len (p : Nat → Bool) (i : Nat) : ((List.range i).filter p).length ≤ i := by
  have := List.length_filter_le p (List.range i)
  rwa [List.length_range] at this
theorem gt_of {d : Mk} {i : Nat} {x : Bool} (h : d[i]? = some x) : gt d i = x := by unfold gt; rw [List.getD_eq_getElem?_getD, h]; rfl
attribute [local irreducible] Calls thenQ blockQ retQ jumpQ Spc Spl Spq Ex Ev Evs Gd Upd ESub HKeep Res Res1 wlk effQ Rem SrcAt Split mk
set_option maxRecDepth 100000 in
set_option maxHeartbeats 4000000 in
theorem ready_c {w : World} {s u : Sl} {l : List TaskR} {d : Mk} (h : RdTasks w w.heap.size s l) (hdn : RdS w w.heap.size 1 boolC u.a u.n d) (hok : tasksOk l = true) (hdl : d.length = l.length) : Calls Try.prog 10 #[.slice s.a s.n s.c, .slice u.a u.n u.c] w
    (RetH w (fun r : RowS => r.val (readyR l d).length) (fun r => r.hp ((readyR l d).map iv) 3) (fun r => r.ok 1 (readyR l d).length ((readyR l d).map iv))) := by
  have hT := h
  obtain ⟨A, n, c⟩ := s
  obtain ⟨A', n', c'⟩ := u
  obtain ⟨h, h2⟩ := h
  dsimp only at h hdn
  have hbd : n ≤ 9223372036854775807 := h.bound
  have hlen : l.length = n := h.len
  have hlen' : d.length = n' := hdn.len
  have hnn : n' = n := by omega
  subst hnn
  have hval := fun w' (hh : Hp w.heap.size w [] w') => hok ▸ valid_c (hT.hp hh)
  obtain ⟨hsm, hV⟩ := tasksOk_V hok
  have hn40 : n' ≤ 40 := by omega
  show Calls _ _ #[.slice A n' c, .slice A' n' c'] _ _
  refine sp_enter (vs := [_, _]) Try.func10 rfl Try.ntmps10 rfl ?_
  have hne : (!decide ((n' : Int) = (n' : Int))) = false := by simp
  repeat (first|(apply sp_cond_f;(·exact eT rfl);(·(simp;done)))|(apply spl_callp rfl;(·(repeat (first|exact eN|(apply eS;(·exact eT rfl)))));(·exact hval))|apply then_n|apply sp_seq|apply sp_region|apply spl_nil|apply sp_skip|apply sp_block|((first|apply spl_pure rfl|(apply spl_pure_g rfl;(·exact Gd.tf rfl rfl)));(·(first|((first|apply ex_move|apply ex_assign|apply ex_not|apply ex_sneq|apply ex_len)<;>(first|exact eT rfl|exact eC))|((first|apply ex_neq|apply ex_orT)<;>(exact eT rfl))))))
  refine sp_loop (X := Nat × RowS) (fun y => [(20, true, .int .i64 (y.1 : Int)), (19, true, .int .i64 (n' : Int)), (18, true, .slice A n' c), (5, true, y.2.val ((List.range y.1).filter (canB l d)).length), (1, true, .slice A' n' c')]) (fun _ => w) (fun y => y.2.hp (((List.range y.1).filter (canB l d)).map iv) 3 ++ [])
    (fun y => y.1 ≤ n' ∧ y.2.ok 1 ((List.range y.1).filter (canB l d)).length (((List.range y.1).filter (canB l d)).map iv) ∧ y.2.fresh w.heap.size) (fun y => n' - y.1) (0, RowS.start) ⟨Nat.zero_le _, RowS.ok_start, RowS.fresh_start⟩ (by (repeat (first|exact ESub.nil|apply ESub.cons rfl))) rfl (by show HKeep w [] _; (repeat (exact HKeep.refl))) ?_
  rintro ⟨i, r⟩ ⟨hi, hr, hfr⟩
  replace hi : i ≤ n' := hi
  replace hr : r.ok 1 ((List.range i).filter (canB l d)).length (((List.range i).filter (canB l d)).map iv) := hr
  replace hfr : r.fresh w.heap.size := hfr
  dsimp only
  have hfl := filter_len (canB l d) i
  have hrow := RowS.drop (xs := ((List.range i).filter (canB l d)).map iv) (T := 3) hfr
  by_cases hlt : i < n'
  · obtain ⟨ad, x, hA, hb, hx, hsz, hc⟩ := h.at_ hlt
    obtain ⟨ad2, y, hA2, hb2, hy, hsz2, hc2⟩ := hdn.at_ hlt
    have hsl := h2 x (List.mem_of_getElem? hx)
    have hvx := (hV x (List.mem_of_getElem? hx)).after
    rw [hlen] at hvx
    cases hcan : canB l d i with
    | false =>
      have hcond := (canB_at (d := d) hx).symm.trans hcan
      rw [gt_of hy] at hcond
      have hfil := filter_snoc_f hcan
      repeat (first|(apply sp_cond_f;(·exact eT rfl);(·exact hcond))|(apply spl_callp_g rfl;(·exact Gd.tt rfl rfl);(·(repeat (first|exact eN|(apply eS;(·exact eG rfl)))));(·exact fun _ w' hh => waits_c (n := n') (hsl.hp' hh) (hdn.hp' hh) hvx))|apply then_n|apply block_n|apply sp_seq|apply sp_region|apply spl_nil|((apply sp_cond_t);(·exact eT rfl);(·(exact decide_eq_true (by omega))))|apply sp_skip|apply sp_block|((first|apply spl_pure rfl|(apply spl_pure_g rfl;(·exact Gd.tt rfl rfl)));(·(first|(apply ex_loadelem;(·exact eT rfl);(·exact h);(·exact hA);(·exact hx))|(apply ex_loadfield (ad:=ad2) (i:=i) (k:=0);(·exact eT rfl);(·exact hdn);(·exact hA2);(·exact hy);(·rfl))|((first|apply ex_move|apply ex_assign|apply ex_not|apply ex_lss|apply ex_andT)<;>(first|exact eT rfl|exact eG rfl))|(apply ex_addn<;>(first|exact eT rfl|exact eC|(constructor<;>omega)))|((apply ex_indexAddr)<;>(first|exact eT rfl|assumption))|((apply ex_loadowns)<;>(first|exact eT rfl|exact Bk.own InH.mem|(rfl))))))|(apply spl_alloc rfl;intro _ _)|(apply spl_stores;(·exact eT rfl);(·exact eT rfl);(·(repeat (exact Upd.here)));(·(rfl));(·(rfl));(·exact Ones.one)))
      exact ⟨(i + 1, r), ⟨hlt, by show r.ok 1 _ _; rw [hfil]; exact hr, hfr⟩, by (show n' - (i + 1) < n' - i; omega), (by dsimp only; rw [hfil]; (repeat (first|exact ESub.nil|apply ESub.cons rfl))), rfl, (by dsimp only; rw [hfil]; (repeat (first|exact HKeep.refl|(apply HKeep.app;(·(repeat (first|exact Split.here|apply Split.cons))))|apply HKeep.drop (by first|assumption|omega))))⟩
    | true =>
      have hcond := (canB_at (d := d) hx).symm.trans hcan
      rw [gt_of hy] at hcond
      have hfil := filter_snoc_t hcan
      repeat (first|(apply sp_cond_t;(·exact eT rfl);(·exact hcond))|(apply spl_callp_g rfl;(·exact Gd.tt rfl rfl);(·(repeat (first|exact eN|(apply eS;(·exact eG rfl)))));(·exact fun _ w' hh => waits_c (n := n') (hsl.hp' hh) (hdn.hp' hh) hvx))|apply then_n|apply block_n|apply sp_seq|apply sp_region|apply spl_nil|((apply sp_cond_t);(·exact eT rfl);(·(exact decide_eq_true (by omega))))|apply sp_skip|apply sp_block|((first|apply spl_pure rfl|(apply spl_pure_g rfl;(·exact Gd.tt rfl rfl)));(·(first|(apply ex_loadelem;(·exact eT rfl);(·exact h);(·exact hA);(·exact hx))|(apply ex_loadfield (ad:=ad2) (i:=i) (k:=0);(·exact eT rfl);(·exact hdn);(·exact hA2);(·exact hy);(·rfl))|((first|apply ex_move|apply ex_assign|apply ex_not|apply ex_lss|apply ex_andT)<;>(first|exact eT rfl|exact eG rfl))|(apply ex_addn<;>(first|exact eT rfl|exact eC|(constructor<;>omega)))|((apply ex_indexAddr)<;>(first|exact eT rfl|assumption))|((apply ex_loadowns)<;>(first|exact eT rfl|exact Bk.own InH.mem|(rfl))))))|(apply spl_alloc rfl;intro _ _)|(apply spl_stores;(·exact eT rfl);(·exact eT rfl);(·(repeat (exact Upd.here)));(·(rfl));(·(rfl));(·exact Ones.one))|(apply spl_buildSlice rfl;(·rfl);(·(repeat (first|exact eN|(apply eS;(·exact eT rfl)))));(·rfl);(·rfl);(·rfl);intro _ _)|(refine spl_append_row (r := r) (n := ((List.range i).filter (canB l d)).length) (xs := ((List.range i).filter (canB l d)).map iv) (news := [iv i]) (m := 1) (by (exact eT rfl)) (by (exact eT rfl)) (by (repeat (first|exact Split.here|apply Split.cons))) hr hfr (by omega) (fun w' hh => SrcAt.slice (CellsAt.own hh.ownI (fun j u hj => by rw [List.getElem?_toArray]; exact hj)) rfl rfl (fun v hv => by simp [iv] at hv; subst hv; rfl)) rfl (by omega) rfl rfl rfl rfl ?_;intro r2 hr2 hfr2;have hrow2 := RowS.drop (xs := ((List.range i).filter (canB l d)).map iv ++ [iv i]) (T := 3) hfr2))
      exact ⟨(i + 1, r2), ⟨hlt, by show r2.ok 1 _ _; rw [hfil, List.length_append, List.map_append]; exact hr2, hfr2⟩, by (show n' - (i + 1) < n' - i; omega), (by dsimp only; rw [hfil, List.length_append, List.length_singleton]; (repeat (first|exact ESub.nil|apply ESub.cons rfl))), rfl, (by dsimp only; rw [hfil, List.map_append]; show HKeep w (r2.hp (((List.range i).filter (canB l d)).map iv ++ [iv i]) 3 ++ []) _; (repeat (first|exact HKeep.refl|(apply HKeep.app;(·(repeat (exact Split.here))))|apply HKeep.drop (by first|assumption|omega))))⟩
  · have hin : i = n' := by omega
    subst hin
    have hR : readyR l d = (List.range i).filter (canB l d) := by unfold readyR; rw [hlen]
    rw [hR]
    repeat (first|apply then_n|apply sp_seq|apply sp_region|apply spl_nil|apply then_e|apply block_here|(apply sp_cond_f;(·exact eT rfl);(·(exact decide_eq_false (by omega))))|apply sp_ret|apply sp_exit|((apply spl_pure rfl);(·(((first|apply ex_move|apply ex_assign|apply ex_lss)<;>(exact eT rfl))))))
    (apply retH_ok rfl;(·((apply Res.ofOne;((apply Res1.tmp;(·rfl)))))))
    exact ⟨r, rfl, hr, by rw [List.append_nil]; exact HKeep.refl⟩
theorem int_of_nat {n : Nat} : (n : Int).toNat = n := Int.toNat_natCast n
theorem mk_flatL (d : Mk) : (d.flatMap fun x => (boolC x).toList) = d.map bv := by
  induction d with
  | nil => rfl
  | cons b r ih => simp only [List.map_cons, List.flatMap_cons] at *; rw [← ih]; rfl
theorem copy_all {n : Nat} {d : Mk} (h : d.length = n) : setL (List.replicate n (Value.bool false)).toArray 0 (d.map bv) = mk d := by
  apply Array.ext'
  unfold mk
  rw [setL_toList _ _ _ (by simp [h])]
  simp [h]
def undoI (l : List TaskR) (d0 : Mk) (n : Nat) (w : World) (x : Nat × Mk) : Prop := w.heap.size ≤ x.1 ∧ x.2.length = n ∧ ∃ f, cnt x.2 < f ∧ undoP l (n + 1) d0 = undoP l f x.2
set_option maxRecDepth 100000 in
set_option maxHeartbeats 4000000 in
theorem undo_c {w : World} {s u : Sl} {l : List TaskR} {d : Mk} {t : Nat} (h : RdTasks w w.heap.size s l) (hdn : RdS w w.heap.size 1 boolC u.a u.n d) (hok : tasksOk l = true) (hdl : d.length = l.length) (hacy : (orderR l).2 = 0) (hcl : Closed l d) (ht : gt d t = true) : Calls Try.prog 11 #[.slice s.a s.n s.c, .slice u.a u.n u.c, .int .i64 (t : Int)] w
    (RetH w (fun g : Nat => .tuple #[.slice (some ⟨g, 0, none⟩) s.n s.n, .int .i64 0]) (fun g => [(g, .cells (mk (undoP l (l.length + 1) (d.set t false))) 4 (0, 0))]) (fun _ => True)) := by
  have hT := h
  obtain ⟨A, n, c⟩ := s
  obtain ⟨A', n', c'⟩ := u
  obtain ⟨h, h2⟩ := h
  dsimp only at h hdn
  have hbd : n ≤ 9223372036854775807 := h.bound
  have hlen : l.length = n := h.len
  have hlen' : d.length = n' := hdn.len
  have hnn : n' = n := by omega
  subst hnn
  have hval := fun w' (hh : Hp w.heap.size w [] w') => hok ▸ valid_c (hT.hp hh)
  have hord := fun w' (hh : Hp w.heap.size w [] w') => order_c (hT.hp hh)
  rw [hacy] at hord
  obtain ⟨hsm, hV⟩ := tasksOk_V hok
  have hn40 : n' ≤ 40 := by omega
  have htn : t < n' := by rw [← hlen']; exact gt_lt ht
  obtain ⟨adt, xt, hAt, hbt, hxt, hszt, hct⟩ := hdn.at_ htn
  obtain rfl : xt = true := by rw [← gt_of hxt]; exact ht
  show Calls _ _ #[.slice A n' c, .slice A' n' c', _] _ _
  refine sp_enter (vs := [_, _, _]) Try.func11 rfl Try.ntmps11 rfl ?_
  have hc1 : (decide ((t : Int) < 0) || decide ((n' : Int) ≤ (t : Int))) = false := by simp; omega
  obtain ⟨d0, hd0⟩ : ∃ d0, d0 = d.set t false := ⟨_, rfl⟩
  have hd0l : d0.length = n' := by rw [hd0, List.length_set, hlen']
  have hcnt0 : cnt d0 < n' + 1 := by have := cnt_le d0; omega
  rw [← hd0, hlen]
  refine sp_seq ?_
  repeat (first|apply then_n|apply sp_region|apply spl_nil|((apply spl_pure rfl);(·(((apply ex_assign)<;>(exact eC))))))
  refine sp_jumps 0 (fun x : Nat × Mk => [(12, true, .slice (some ⟨x.1, 0, none⟩) n' n'), (0, true, .slice A n' c)]) (fun _ => w) (fun x => [(x.1, .cells (mk x.2) 4 (0, 0))]) (undoI l d0 n' w) (fun x => cnt x.2) rfl ?_ ?_
  · rintro ⟨go, d⟩ ⟨hgo, hdl, f, hf, hund⟩
    replace hgo : w.heap.size ≤ go := hgo
    replace hdl : d.length = n' := hdl
    replace hund : undoP l (n' + 1) d0 = undoP l f d := hund
    replace hf : cnt d < f := hf
    dsimp only
    repeat (first|apply then_n|apply sp_seq|apply sp_region|apply spl_nil|apply sp_block|((apply spl_pure rfl);(·(((first|apply ex_move|apply ex_len)<;>(first|exact eT rfl|exact eC))))))
    refine sp_loop (X := Nat) (fun i => [(74, true, .int .i64 (i : Int)), (73, true, .int .i64 (n' : Int)), (72, true, .slice A n' c), (12, true, .slice (some ⟨go, 0, none⟩) n' n'), (0, true, .slice A n' c)]) (fun _ => w) (fun _ => [(go, .cells (mk d) 4 (0, 0))]) (fun i => i ≤ n' ∧ ∀ j < i, badB l d j = false) (fun i => n' - i) 0 ⟨Nat.zero_le _, fun j hj => by omega⟩ (by (repeat (first|exact ESub.nil|apply ESub.cons rfl))) rfl (by (repeat (exact HKeep.refl))) ?_
    rintro i ⟨hi, hno⟩
    by_cases hlt : i < n'
    · obtain ⟨ad, x, hA, hb, hx, hsz, hc⟩ := h.at_ hlt
      have hsl := h2 x (List.mem_of_getElem? hx)
      have hvx := (hV x (List.mem_of_getElem? hx)).after
      rw [hlen] at hvx
      have hdi := mk_get (d := d) (i := i) (by omega)
      have hms : i < (mk d).size := by rw [mk_size]; omega
      cases hbad : badB l d i with
      | false =>
        have hcond := (badB_at (d := d) hx).symm.trans hbad
        repeat (first|(apply sp_cond_f;(·exact eT rfl);(·exact hcond))|(apply spl_callp_g rfl;(·exact Gd.tt rfl rfl);(·(repeat (first|exact eN|(apply eS;(·exact eG rfl)))));(·exact fun _ w' hh => waits_c (n := n') (hsl.hp' hh) (mk_rd hh.ownI hdl hbd) hvx))|apply then_n|apply block_n|apply sp_seq|apply sp_region|apply spl_nil|((apply sp_cond_t);(·exact eT rfl);(·(exact decide_eq_true (by omega))))|apply sp_skip|apply sp_block|((first|apply spl_pure rfl|(apply spl_pure_g rfl;(·exact Gd.tt rfl rfl)));(·(first|(apply ex_indexAddr0;(·exact eT rfl);(·exact eT rfl);(·assumption))|(apply ex_loadelem;(·exact eT rfl);(·exact h);(·exact hA);(·exact hx))|((first|apply ex_move|apply ex_assign|apply ex_lss|apply ex_andT)<;>(first|exact eT rfl|exact eG rfl))|(apply ex_addn<;>(first|exact eT rfl|exact eC|(constructor<;>omega)))|((first|apply ex_loadown|apply ex_indexAddr)<;>(first|exact eT rfl|exact Bk.own InH.mem|assumption))|((apply ex_loadowns)<;>(first|exact eT rfl|exact Bk.own InH.mem|(rfl))))))|(apply spl_alloc rfl;intro _ _)|(apply spl_stores;(·exact eT rfl);(·exact eT rfl);(·(repeat (exact Upd.here)));(·(rfl));(·(rfl));(·exact Ones.one)))
        exact ⟨i + 1, ⟨hlt, no_less hno hbad⟩, by (show n' - (i + 1) < n' - i; omega), (by (repeat (first|exact ESub.nil|apply ESub.cons rfl))), rfl, (by (repeat (first|exact HKeep.refl|(apply HKeep.pick;(·(repeat (first|exact Rem.here|apply Rem.there))))|apply HKeep.drop (by first|assumption|omega))))⟩
      | true =>
        have hcond := (badB_at (d := d) hx).symm.trans hbad
        have hnext : nextU l d = some i := find_range (by omega) hbad hno
        have hgti := (nextU_some hnext).2.1
        have hcc := cnt_clear d i hgti
        obtain ⟨f', rfl⟩ : ∃ f', f = f' + 1 := ⟨f - 1, by omega⟩
        repeat (first|apply sp_goto|apply then_g|apply block_g|(apply sp_cond_t;(·exact eT rfl);(·exact hcond))|(apply spl_callp_g rfl;(·exact Gd.tt rfl rfl);(·(repeat (first|exact eN|(apply eS;(·exact eG rfl)))));(·exact fun _ w' hh => waits_c (n := n') (hsl.hp' hh) (mk_rd hh.ownI hdl hbd) hvx))|(apply spl_store1E (mk_set d i false);(·exact eT rfl);(·exact eC);(·rfl);(·(repeat (first|exact Upd.here|apply Upd.there)));(·exact hms))|apply then_n|apply sp_seq|apply sp_region|apply spl_nil|((apply sp_cond_t);(·exact eT rfl);(·(exact decide_eq_true (by omega))))|apply sp_skip|apply sp_block|((first|apply spl_pure rfl|(apply spl_pure_g rfl;(·exact Gd.tt rfl rfl)));(·(first|(apply ex_indexAddr0;(·exact eT rfl);(·exact eT rfl);(·assumption))|(apply ex_loadelem;(·exact eT rfl);(·exact h);(·exact hA);(·exact hx))|((first|apply ex_move|apply ex_assign|apply ex_lss|apply ex_andT)<;>(first|exact eT rfl|exact eG rfl))|((first|apply ex_loadown|apply ex_indexAddr)<;>(first|exact eT rfl|exact Bk.own InH.mem|assumption))|((apply ex_loadowns)<;>(first|exact eT rfl|exact Bk.own InH.mem|(rfl))))))|(apply spl_alloc rfl;intro _ _)|(apply spl_stores;(·exact eT rfl);(·exact eT rfl);(·(repeat (exact Upd.here)));(·(rfl));(·(rfl));(·exact Ones.one)))
        refine jump_g ⟨(go, d.set i false), ⟨hgo, by rw [List.length_set]; exact hdl, f', by (show cnt (d.set i false) < f'); omega, ?_⟩, by (show cnt (d.set i false) < cnt d); omega, (by (repeat (first|exact ESub.nil|apply ESub.cons rfl))), rfl, (by (repeat (first|exact HKeep.refl|(apply HKeep.pick;(·(repeat (first|exact Rem.here|apply Rem.there))))|apply HKeep.drop (by first|assumption|omega))))⟩
        rw [hund, undoP, hnext]
    · have hcld : Closed l d := nextU_none.1 (find_range_none (fun j hj => hno j (by omega)))
      have hU : undoP l (n' + 1) d0 = d := by
        rw [hund]
        cases f with
        | zero => omega
        | succ f => rw [undoP, nextU_none.2 hcld]
      rw [hU]
      repeat (first|apply jump_r|apply then_n|apply sp_seq|apply sp_region|apply spl_nil|apply then_e|apply block_here|(apply sp_cond_f;(·exact eT rfl);(·(exact decide_eq_false (by omega))))|apply sp_ret|apply sp_exit|((apply spl_pure rfl);(·(((first|apply ex_move|apply ex_assign|apply ex_lss)<;>(first|exact eT rfl|exact eC))))))
      (apply retH_ok rfl;(·((apply Res.ofTwo<;>((apply Res1.tmp;(·rfl)))))))
      exact ⟨go, rfl, trivial, by (repeat (exact HKeep.refl))⟩
  · intro go
    repeat (first|(apply sp_cond_f;(·exact eT rfl);(·exact hc1))|(apply sp_cond_f;(·exact eT rfl);(·(simp;done)))|(apply spl_callp rfl;(·(repeat (first|exact eN|(apply eS;(·exact eT rfl)))));(·exact hval))|(apply spl_callh rfl;(·(repeat (first|exact eN|(apply eS;(·exact eT rfl)))));(·exact hord);(intro r0 hr0 hfr0))|apply then_n|apply sp_seq|apply sp_region|apply spl_nil|apply sp_skip|apply sp_block|((first|apply spl_pure rfl|(apply spl_pure_g rfl;(·exact Gd.tf rfl rfl)));(·(first|((first|apply ex_move|apply ex_assign|apply ex_not|apply ex_lss|apply ex_geq|apply ex_sneq|apply ex_len)<;>(first|exact eT rfl|exact eC))|((first|apply ex_neq|apply ex_orT)<;>(first|exact eT rfl|exact eC))|((apply ex_extract)<;>(first|exact eT rfl|rfl))))))
    refine sp_loop (X := Nat) (fun i => [(43, true, .int .i64 (i : Int)), (42, true, .int .i64 (n' : Int)), (41, true, .slice A n' c), (0, true, .slice A n' c), (1, true, .slice A' n' c'), (2, true, .int .i64 (t : Int))]) (fun _ => w) (fun _ => []) (fun i => i ≤ n') (fun i => n' - i) 0 (Nat.zero_le _) (by (repeat (first|exact ESub.nil|apply ESub.cons rfl))) rfl (by (repeat (first|exact HKeep.refl|apply HKeep.dropA (by assumption)))) ?_
    rintro i hi
    by_cases hlt : i < n'
    · obtain ⟨ad, x, hA, hb, hx, hsz, hc⟩ := h.at_ hlt
      obtain ⟨ad2, y, hA2, hb2, hy, hsz2, hc2⟩ := hdn.at_ hlt
      have hsl := h2 x (List.mem_of_getElem? hx)
      have hvx := (hV x (List.mem_of_getElem? hx)).after
      rw [hlen] at hvx
      have hbad : badB l d i = false := by
        unfold badB
        cases hg : gt d i with
        | false => rfl
        | true => rw [hcl i (by omega) hg]; rfl
      have hcond := (badB_at (d := d) hx).symm.trans hbad
      rw [gt_of hy] at hcond
      repeat (first|(apply sp_cond_f;(·exact eT rfl);(·exact hcond))|(apply spl_callp_g rfl;(·exact Gd.tt rfl rfl);(·(repeat (first|exact eN|(apply eS;(·exact eG rfl)))));(·exact fun _ w' hh => waits_c (n := n') (hsl.hp' hh) (hdn.hp' hh) hvx))|apply then_n|apply block_n|apply sp_seq|apply sp_region|apply spl_nil|((apply sp_cond_t);(·exact eT rfl);(·(exact decide_eq_true (by omega))))|apply sp_skip|apply sp_block|((first|apply spl_pure rfl|(apply spl_pure_g rfl;(·exact Gd.tt rfl rfl)));(·(first|(apply ex_loadelem;(·exact eT rfl);(·exact h);(·exact hA);(·exact hx))|(apply ex_loadfield (ad:=ad2) (i:=i) (k:=0);(·exact eT rfl);(·exact hdn);(·exact hA2);(·exact hy);(·rfl))|((first|apply ex_move|apply ex_assign|apply ex_lss|apply ex_andT)<;>(first|exact eT rfl|exact eG rfl))|(apply ex_addn<;>(first|exact eT rfl|exact eC|(constructor<;>omega)))|((apply ex_indexAddr)<;>(first|exact eT rfl|assumption))|((apply ex_loadowns)<;>(first|exact eT rfl|exact Bk.own InH.mem|(rfl))))))|(apply spl_alloc rfl;intro _ _)|(apply spl_stores;(·exact eT rfl);(·exact eT rfl);(·(repeat (exact Upd.here)));(·(rfl));(·(rfl));(·exact Ones.one)))
      exact ⟨i + 1, hlt, by (show n' - (i + 1) < n' - i; omega), (by (repeat (first|exact ESub.nil|apply ESub.cons rfl))), rfl, (by (repeat (first|exact HKeep.refl|apply HKeep.drop (by first|assumption|omega))))⟩
    · have hms : t < (mk d).size := by rw [mk_size]; omega
      have hcc := fun w' (hh : Hp w.heap.size w [] w') => mk_flatL d ▸ CellsAt.rd (hdn.hp' hh)
      repeat (first|apply sp_label|(refine go (g, d0) _ _ ?_ ?_ ?_)|(apply sp_cond_f;(·exact eT rfl);(·rfl))|(apply spl_makeSlice rfl;(·exact eT rfl);(·exact eT rfl);(·rfl);(·omega);(·omega);intro g hg)|(apply spl_copyC (vs := d.map bv) rfl;(·exact eT rfl);(·exact eT rfl);(·exact fun w' hh => mk_flatL d ▸ CellsAt.rd (hdn.hp' hh));(·(rw [List.length_map, hlen'];exact (Nat.min_self _).symm));(·(rw [List.length_map];omega));(·(intro v hv;obtain ⟨b, _, rfl⟩ := List.mem_map.1 hv;rfl));(·exact copy_all hlen');(·(repeat (exact Upd.here)));(·(simp [hlen'])))|(apply spl_store1E (mk_set d t false);(·exact eT rfl);(·exact eC);(·rfl);(·(repeat (exact Upd.here)));(·exact hms))|apply then_n|apply sp_seq|apply sp_region|apply spl_nil|apply then_e|apply block_here|(apply sp_cond_f;(·exact eT rfl);(·(exact decide_eq_false (by omega))))|apply sp_skip|apply sp_exit|((apply spl_pure rfl);(·(first|(apply ex_indexAddr;(·exact eT rfl);(·exact eT rfl);(·exact hAt);(·exact htn))|(apply ex_indexAddr0;(·exact eT rfl);(·exact eT rfl);(·assumption))|(apply ex_loadfield (ad:=adt) (i:=t) (k:=0);(·exact eT rfl);(·exact hdn);(·exact hAt);(·exact hxt);(·rfl))|((first|apply ex_move|apply ex_assign|apply ex_not|apply ex_lss|apply ex_len)<;>(exact eT rfl))))))
      · exact ⟨hg, hd0l, n' + 1, hcnt0, rfl⟩
      · (repeat (first|exact ESub.nil|apply ESub.cons rfl))
      · rw [← hd0]; (repeat (exact HKeep.refl))
end Go.Proofs.Ytoogicafefennaa
/-
  Games in plain terms: states, moves, values.
-/
namespace Go.Proofs.Ytoogicafefennaa
set_option linter.unusedVariables false
open Go.RowKit Go.Sy
set_option linter.unusedVariables false
set_option linter.unusedSimpArgs false
def sAt (s : GS) (i : Nat) : Nat := s.starts.getD i 0
/-! The cells of a state. -/
section
variable {s : GS}
theorem GS.size (h : s.Ok) : s.C.size = 14 := by
  unfold GS.C GS.L
  simp [h.l1, h.l2]
theorem GS.c0 : s.C[0]? = some (iv s.turn) := rfl
theorem GS.c1 (h : s.Ok) {i : Nat} (hi : i < 6) : s.C[1 + i]? = some (iv (sAt s i)) := by
  unfold GS.C GS.L sAt
  rw [List.getElem?_toArray, Nat.add_comm 1 i, List.getElem?_cons_succ, List.getElem?_append_left (by rw [List.length_map, h.l1]; exact hi), List.getElem?_map, List.getD_eq_getElem?_getD, List.getElem?_eq_getElem (by rw [h.l1]; exact hi)]
  all_goals rfl
theorem GS.c2 (h : s.Ok) {i : Nat} (hi : i < 6) : s.C[7 + i]? = some (bv (gt s.failed i)) := by
  unfold GS.C GS.L gt
  rw [List.getElem?_toArray, show 7 + i = (6 + i) + 1 by omega, List.getElem?_cons_succ, List.getElem?_append_right (by rw [List.length_map, h.l1]; omega), List.length_map, h.l1, Nat.add_sub_cancel_left, List.getElem?_append_left (by rw [List.length_map, h.l2]; exact hi), List.getElem?_map, List.getD_eq_getElem?_getD, List.getElem?_eq_getElem (by rw [h.l2]; exact hi)]
  all_goals rfl
theorem GS.c3 (h : s.Ok) : s.C[13]? = some (iv s.budget) := by
  unfold GS.C GS.L
  rw [List.getElem?_toArray, List.getElem?_cons_succ, List.getElem?_append_right (by rw [List.length_map, h.l1]; omega), List.length_map, h.l1, List.getElem?_append_right (by rw [List.length_map, h.l2]; decide), List.length_map, h.l2]
  all_goals rfl
theorem GS.s0 (n : Nat) : s.C.setIfInBounds 0 (iv n) = { s with turn := n }.C := rfl
theorem GS.s1 (h : s.Ok) {i : Nat} (hi : i < 6) (n : Nat) : s.C.setIfInBounds (1 + i) (iv n) = { s with starts := s.starts.set i n }.C := by
  apply Array.ext'
  unfold GS.C GS.L
  rw [Array.toList_setIfInBounds, Nat.add_comm 1 i, List.set_cons_succ, List.set_append_left _ _ (by rw [List.length_map, h.l1]; exact hi), List.map_set]
theorem GS.s2 (h : s.Ok) {i : Nat} (hi : i < 6) (b : Bool) : s.C.setIfInBounds (7 + i) (bv b) = { s with failed := s.failed.set i b }.C := by
  apply Array.ext'
  unfold GS.C GS.L
  rw [Array.toList_setIfInBounds, show 7 + i = (6 + i) + 1 by omega, List.set_cons_succ, List.set_append_right _ _ (by rw [List.length_map, h.l1]; omega), List.length_map, h.l1, Nat.add_sub_cancel_left, List.set_append_left _ _ (by rw [List.length_map, h.l2]; exact hi), List.map_set]
theorem GS.s3 (h : s.Ok) (n : Nat) : s.C.setIfInBounds 13 (iv n) = { s with budget := n }.C := by
  apply Array.ext'
  unfold GS.C GS.L
  rw [Array.toList_setIfInBounds, List.set_cons_succ, List.set_append_right _ _ (by rw [List.length_map, h.l1]; omega), List.length_map, h.l1, List.set_append_right _ _ (by rw [List.length_map, h.l2]; decide), List.length_map, h.l2]
  all_goals rfl
instance GS.one (s : GS) : Ones s.C := ⟨by
  intro v hv
  unfold GS.C GS.L at hv
  simp only [List.mem_toArray, List.mem_cons, List.mem_append, List.mem_map, List.not_mem_nil, or_false] at hv
  rcases hv with rfl | ⟨x, _, rfl⟩ | ⟨x, _, rfl⟩ | rfl <;> rfl⟩
end
/-! Moves, choices. -/
def failS (s : GS) (i : Nat) : GS := { s with budget := s.budget - 1, failed := s.failed.set i true }
def movesL (m : Nat) (s : GS) : List GS := s :: (if s.budget = 0 then [] else ((List.range m).filter fun i => !gt s.failed i).map (failS s))
def stepS (s : GS) (i : Nat) : GS := { s with turn := s.turn + 1, starts := s.starts.set i (sAt s i - 1) }
def waitS (s : GS) : GS := { s with turn := s.turn + 1 }
def choS (s : GS) : Option Nat → GS
  | none => waitS s
  | some i => stepS s i
/-- The shape of a game: how many vehicles, who may leave when. -/
structure GP where
  m : Nat
  deps : List (List Nat)
def GP.at_ (G : GP) (t : Nat) : List Nat := G.deps.getD t []
def takeB (f : Nat → Nat) (out : Option Nat × Nat) (v : Nat) : Option Nat × Nat := if f v < out.2 ∨ (f v = out.2 ∧ out.1 = none) then (some v, f v) else out
def canS (s : GS) (v : Nat) : Bool := !gt s.failed v && decide (0 < sAt s v)
/-- The value of a state before the adversary moves, so many turns before the end. -/
def worstF (G : GP) : Nat → GS → Nat
  | 0, _ => 0
  | d + 1, s => (movesL G.m s).foldl (fun most x => max most (((G.at_ x.turn).filter (canS x)).foldl (takeB fun v => worstF G d (stepS x v)) (none, 1 + worstF G d (waitS x))).2) 0
def bestF (G : GP) (d : Nat) (x : GS) : Option Nat × Nat := ((G.at_ x.turn).filter (canS x)).foldl (takeB fun v => worstF G d (stepS x v)) (none, 1 + worstF G d (waitS x))
theorem worstF_succ (G : GP) (d : Nat) (s : GS) : worstF G (d + 1) s = (movesL G.m s).foldl (fun most x => max most (bestF G d x).2) 0 := rfl
/-- States of a game. -/
structure GS.In (G : GP) (s : GS) : Prop where
  ok : s.Ok
  t : s.turn ≤ G.deps.length
  st : ∀ i, sAt s i ≤ 1000
structure GP.Ok (G : GP) : Prop where
  m : G.m ≤ 6
  n : G.deps.length ≤ 12
  v : ∀ t, ∀ v ∈ G.at_ t, v < G.m
theorem mem_set_le {l : List Nat} {i n b : Nat} (h : ∀ x ∈ l, x < b) (hn : n < b) : ∀ x ∈ l.set i n, x < b := fun x hx => by
  rcases List.mem_or_eq_of_mem_set hx with q | q
  · exact h x q
  · rw [q]; exact hn
theorem sAt_lt {s : GS} (h : s.Ok) (i : Nat) : sAt s i < 4611686018427387904 := by
  unfold sAt
  rw [List.getD_eq_getElem?_getD]
  cases hq : s.starts[i]? with
  | none => show 0 < _; omega
  | some x => exact h.sb x (List.mem_of_getElem? hq)
theorem failS_ok {s : GS} (h : s.Ok) (i : Nat) : (failS s i).Ok := ⟨h.t, by show s.budget - 1 < _; have := h.b; omega, h.l1, by show (s.failed.set i true).length = 6; rw [List.length_set]; exact h.l2, h.sb⟩
theorem failS_in {G : GP} {s : GS} (h : s.In G) (i : Nat) : (failS s i).In G := ⟨failS_ok h.ok i, h.t, h.st⟩
theorem moves_in {G : GP} {s x : GS} (h : s.In G) (hx : x ∈ movesL G.m s) : x.In G ∧ x.turn = s.turn := by
  unfold movesL at hx
  rcases List.mem_cons.1 hx with rfl | hx
  · exact ⟨h, rfl⟩
  · split at hx
    · cases hx
    · obtain ⟨i, _, rfl⟩ := List.mem_map.1 hx
      exact ⟨failS_in h i, rfl⟩
theorem sAt_set {s : GS} {i n k : Nat} (hi : i < s.starts.length) : (s.starts.set i n).getD k 0 = if k = i then n else sAt s k := by
  unfold sAt
  rw [List.getD_eq_getElem?_getD, List.getD_eq_getElem?_getD, List.getElem?_set]
  by_cases h : i = k
  · subst h; simp [hi]
  · rw [if_neg h, if_neg (fun q => h q.symm)]
theorem waitS_in {G : GP} {s : GS} (hG : G.Ok) (h : s.In G) (ht : s.turn < G.deps.length) : (waitS s).In G := ⟨⟨by show s.turn + 1 < _; have := hG.n; omega, h.ok.b, h.ok.l1, h.ok.l2, h.ok.sb⟩, ht, h.st⟩
theorem stepS_in {G : GP} {s : GS} {v : Nat} (hG : G.Ok) (h : s.In G) (ht : s.turn < G.deps.length) (hv : v < 6) : (stepS s v).In G := by
  have h1 := h.ok.l1
  refine ⟨⟨by show s.turn + 1 < _; have := hG.n; omega, h.ok.b, by show (s.starts.set v _).length = 6; rw [List.length_set]; exact h1, h.ok.l2, mem_set_le h.ok.sb (by have := sAt_lt h.ok v; omega)⟩, ht, fun k => ?_⟩
  show (s.starts.set v (sAt s v - 1)).getD k 0 ≤ 1000
  rw [sAt_set (by omega)]
  have := h.st v
  split
  · omega
  · exact h.st k
end Go.Proofs.Ytoogicafefennaa
/-
  Contracts: sizes of tasks, is a number in a list, what can be done of some.
-/
namespace Go.Proofs.Ytoogicafefennaa
set_option linter.unusedVariables false
open Go.RowKit Go.Sy
set_option linter.unusedVariables false
set_option linter.unusedSimpArgs false
def fewT (t : TaskR) : Bool := !decide ((45 : Int) < (t.sl.n : Int))
def fewB (l : List TaskR) : Bool := decide ((l.length : Int) ≤ 40) && l.all fewT
def clip (t : TaskR) : Int := if (if 2000 < t.hours then 2000 else t.hours) > 0 then (if 2000 < t.hours then 2000 else t.hours) else 0
def hs : List TaskR → Int
  | [] => 0
  | t :: r => clip t + hs r
def hoursB (l : List TaskR) : Bool := (decide ((l.length : Int) ≤ 20) && decide (hs l ≤ 1000)) && fewB l
theorem clip_bd (t : TaskR) : 0 ≤ clip t ∧ clip t ≤ 2000 := by unfold clip; split <;> split <;> omega
theorem hs_app : ∀ (a b : List TaskR), hs (a ++ b) = hs a + hs b
  | [], b => by simp [hs]
  | t :: a, b => by simp only [List.cons_append, hs, hs_app a b]; omega
theorem hs_bd : ∀ (l : List TaskR), 0 ≤ hs l ∧ hs l ≤ 2000 * (l.length : Int)
  | [] => by simp [hs]
  | t :: r => by
    have := hs_bd r
    have := clip_bd t
    simp only [hs, List.length_cons]
    omega
theorem hs_snoc {l : List TaskR} {i : Nat} {x : TaskR} (h : l[i]? = some x) : hs (l.take (i + 1)) = hs (l.take i) + clip x := by
  rw [take_succ h, hs_app]; simp [hs]
theorem RowS.some_of {r : RowS} {size n : Nat} {xs : List Value} (h : r.ok size n xs) (hn : 0 < n) : ∃ g cap tl, r = ⟨some g, cap, tl⟩ := by
  rcases r with ⟨_ | g, cap, tl⟩
  · have := h.1; omega
  · exact ⟨g, cap, tl, rfl⟩
theorem row_get {xs : List Nat} {tl : List Value} {j : Nat} {x : Nat} (h : xs[j]? = some x) : (xs.map iv ++ tl).toArray[j]? = some (.int .i64 (x : Int)) := by
  have hl := (List.getElem?_eq_some_iff.1 h).1
  rw [List.getElem?_toArray, List.getElem?_append_left (by simpa using hl), List.getElem?_map, h]
  all_goals rfl
def natC (i : Nat) : Array Value := #[iv i]
theorem nat_flat (xs : List Nat) : (xs.flatMap fun x => (natC x).toList) = xs.map iv := by
  induction xs with
  | nil => rfl
  | cons b r ih => simp only [List.map_cons, List.flatMap_cons] at *; rw [← ih]; rfl
/-- Numbers in a row, read as a slice. -/
theorem row_rd {w0 w : World} {Be n : Nat} {r : RowS} {xs : List Nat} {T : TypeId} {H Hr : Heap} (hh : Hp Be w0 H w) (hsp : Split H (r.hp (xs.map iv) T) Hr) (hl : xs.length = n) (hn : n ≤ 9223372036854775807) (hok : r.ok 1 n (xs.map iv)) : RdS w w.heap.size 1 natC (r.g.map fun g => ⟨g, 0, none⟩) n xs := by
  rw [← nat_flat] at hsp hok
  exact RdS.ofRowS hh hsp hl hn (fun _ _ => rfl) hok
attribute [local irreducible] Calls thenQ blockQ retQ jumpQ Spc Spl Spq Ex Ev Evs Gd Upd ESub HKeep Res Res1 wlk effQ Rem SrcAt Split mk
set_option maxRecDepth 100000 in
set_option maxHeartbeats 4000000 in
theorem fewT_c {w : World} {s : Sl} {l : List TaskR} (h : RdTasks w w.heap.size s l) : Calls Try.prog 23 #[.slice s.a s.n s.c] w (Ret w (.bool (fewB l))) := by
  obtain ⟨A, n, c⟩ := s
  obtain ⟨h, h2⟩ := h
  dsimp only at h
  have hbd : n ≤ 9223372036854775807 := h.bound
  have hlen : l.length = n := h.len
  show Calls _ _ #[.slice A n c] _ _
  refine sp_enter (vs := [_]) Try.func23 rfl Try.ntmps23 rfl ?_
  unfold fewB
  rw [hlen]
  repeat (first|apply then_n|apply sp_seq|apply sp_region|apply spl_nil|apply sp_block|((apply spl_pure rfl);(·(((apply ex_assign)<;>(exact eC))))))
  refine sp_loop (X := Nat) (fun i => [(3, true, .int .i64 (i : Int)), (0, true, .slice A n c)]) (fun _ => w) (fun _ => []) (fun i => i ≤ n ∧ (0 < i → n ≤ 40) ∧ l.all fewT = (l.drop i).all fewT) (fun i => n - i) 0 ⟨Nat.zero_le _, fun h => by omega, rfl⟩ (by (repeat (first|exact ESub.nil|apply ESub.cons rfl))) rfl (by (repeat (exact HKeep.refl))) ?_
  rintro i ⟨hi, hi40, hinv⟩
  by_cases hlt : i < n ∧ n ≤ 40
  · obtain ⟨hlt, h40⟩ := hlt
    obtain ⟨ad, x, hA, hb, hx, hsz, hc⟩ := h.at_ hlt
    rw [drop_all hx] at hinv
    have hc0 : (decide ((i : Int) < (n : Int)) && decide ((n : Int) ≤ 40)) = true := by simp; omega
    by_cases hz : (45 : Int) < (x.sl.n : Int)
    · have hf : fewT x = false := by unfold fewT; rw [decide_eq_true hz]; rfl
      rw [hf, Bool.false_and] at hinv
      rw [hinv, Bool.and_false]
      repeat (first|(apply sp_cond_t;(·exact eT rfl);(·exact hc0))|(apply sp_cond_t;(·exact eT rfl);(·exact decide_eq_true hz))|apply then_n|apply sp_seq|apply sp_region|apply spl_nil|apply then_r|apply block_r|apply sp_skip|apply sp_ret|apply sp_block|((first|apply spl_pure rfl|(apply spl_pure_g rfl;(·exact Gd.tt rfl rfl)));(·(first|(apply ex_loadfield (ad:=ad) (i:=i) (k:=3);(·exact eT rfl);(·exact h);(·exact hA);(·exact hx);(·rfl))|((first|apply ex_move|apply ex_assign|apply ex_fieldAddr'|apply ex_lss|apply ex_leq|apply ex_gtr|apply ex_len|apply ex_andT)<;>(first|exact eT rfl|exact eC|exact eG rfl))|((apply ex_fieldAddr)<;>(exact eT rfl))|((apply ex_indexAddr)<;>(first|exact eT rfl|assumption))))))
      (apply ret_ok rfl;(·((apply Res.ofOne;((apply Res1.tmp;(·rfl))))))); rfl
    · have hf : fewT x = true := by unfold fewT; rw [decide_eq_false hz]; rfl
      rw [hf, Bool.true_and] at hinv
      repeat (first|(apply sp_cond_t;(·exact eT rfl);(·exact hc0))|(apply sp_cond_f;(·exact eT rfl);(·exact decide_eq_false hz))|apply then_n|apply block_n|apply sp_seq|apply sp_region|apply spl_nil|apply sp_skip|apply sp_block|((first|apply spl_pure rfl|(apply spl_pure_g rfl;(·exact Gd.tt rfl rfl)));(·(first|(apply ex_loadfield (ad:=ad) (i:=i) (k:=3);(·exact eT rfl);(·exact h);(·exact hA);(·exact hx);(·rfl))|((first|apply ex_move|apply ex_assign|apply ex_fieldAddr'|apply ex_lss|apply ex_leq|apply ex_gtr|apply ex_len|apply ex_andT)<;>(first|exact eT rfl|exact eC|exact eG rfl))|((apply ex_fieldAddr)<;>(exact eT rfl))|(apply ex_addn<;>(first|exact eT rfl|exact eC|(constructor<;>omega)))|((apply ex_indexAddr)<;>(first|exact eT rfl|assumption))))))
      exact ⟨i + 1, ⟨hlt, fun _ => h40, hinv⟩, by (show n - (i + 1) < n - i; omega), (by (repeat (first|exact ESub.nil|apply ESub.cons rfl))), rfl, (by (repeat (exact HKeep.refl)))⟩
  · have hc0 : (decide ((i : Int) < (n : Int)) && decide ((n : Int) ≤ 40)) = false := by simp; omega
    repeat (first|(apply sp_cond_f;(·exact eT rfl);(·exact hc0))|apply then_n|apply sp_seq|apply sp_region|apply spl_nil|apply then_e|apply block_here|apply sp_ret|apply sp_exit|((first|apply spl_pure rfl|(apply spl_pure_g rfl;(·exact Gd.tt rfl rfl)));(·(((first|apply ex_move|apply ex_assign|apply ex_lss|apply ex_leq|apply ex_len|apply ex_andT)<;>(first|exact eT rfl|exact eC|exact eG rfl))))))
    by_cases h40 : n ≤ 40
    · have hall : l.all fewT = true := by rw [hinv]; exact drop_all_end (by omega)
      (apply ret_ok rfl;(·((apply Res.ofOne;((apply Res1.tmp;(·rfl))))))); rw [hall]; simp
    · (apply ret_ok rfl;(·((apply Res.ofOne;((apply Res1.tmp;(·rfl))))))); rw [decide_eq_false (by omega)]; rfl
set_option maxRecDepth 100000 in
set_option maxHeartbeats 4000000 in
theorem hours_c {w : World} {s : Sl} {l : List TaskR} (h : RdTasks w w.heap.size s l) : Calls Try.prog 7 #[.slice s.a s.n s.c] w (Ret w (.bool (hoursB l))) := by
  have hT := h
  obtain ⟨A, n, c⟩ := s
  obtain ⟨h, h2⟩ := h
  dsimp only at h
  have hbd : n ≤ 9223372036854775807 := h.bound
  have hlen : l.length = n := h.len
  have hfew := fun w' (hh : Hp w.heap.size w [] w') => fewT_c (hT.hp hh)
  show Calls _ _ #[.slice A n c] _ _
  refine sp_enter (vs := [_]) Try.func7 rfl Try.ntmps7 rfl ?_
  unfold hoursB
  rw [hlen]
  repeat (first|apply then_n|apply sp_seq|apply sp_region|apply spl_nil|apply sp_block|((apply spl_pure rfl);(·(((apply ex_assign)<;>(exact eC))))))
  refine sp_loop (X := Nat) (fun i => [(4, true, .int .i64 (i : Int)), (3, true, .int .i64 (hs (l.take i))), (0, true, .slice A n c)]) (fun _ => w) (fun _ => []) (fun i => i ≤ n ∧ (0 < i → n ≤ 20)) (fun i => n - i) 0 ⟨Nat.zero_le _, fun h => by omega⟩ (by (repeat (first|exact ESub.nil|apply ESub.cons rfl))) rfl (by (repeat (exact HKeep.refl))) ?_
  rintro i ⟨hi, hi20⟩
  have hsb := hs_bd (l.take i)
  have htl : (l.take i).length ≤ i := by rw [List.length_take]; omega
  by_cases hlt : i < n ∧ n ≤ 20
  · obtain ⟨hlt, h20⟩ := hlt
    obtain ⟨ad, x, hA, hb, hx, hsz, hc⟩ := h.at_ hlt
    have hcb := clip_bd x
    have hsn := hs_snoc hx
    have hc0 : (decide ((i : Int) < (n : Int)) && decide ((n : Int) ≤ 20)) = true := by simp; omega
    repeat (first|(apply sp_cond_t;(·exact eT rfl);(·exact hc0))|apply then_n|apply block_n|apply sp_seq|apply sp_region|apply spl_nil|apply sp_skip|apply sp_block|((first|apply spl_pure rfl|(apply spl_pure_g rfl;(·exact Gd.tt rfl rfl)));(·(first|(apply ex_loadfield (ad:=ad) (i:=i) (k:=0);(·exact eT rfl);(·exact h);(·exact hA);(·exact hx);(·rfl))|(apply ex_maxE (r:=clip x);(·exact eC);(·exact eT rfl);(·rfl))|(apply ex_addE hsn.symm;(·exact eT rfl);(·exact eT rfl);(·(constructor<;>omega)))|((first|apply ex_move|apply ex_assign|apply ex_fieldAddr'|apply ex_lss|apply ex_leq|apply ex_len|apply ex_andT|apply ex_min)<;>(first|exact eT rfl|exact eC|exact eG rfl))|((apply ex_fieldAddr)<;>(exact eT rfl))|(apply ex_addn<;>(first|exact eT rfl|exact eC|(constructor<;>omega)))|((apply ex_indexAddr)<;>(first|exact eT rfl|assumption))))))
    exact ⟨i + 1, ⟨hlt, fun _ => h20⟩, by (show n - (i + 1) < n - i; omega), (by (repeat (first|exact ESub.nil|apply ESub.cons rfl))), rfl, (by (repeat (exact HKeep.refl)))⟩
  · have hc0 : (decide ((i : Int) < (n : Int)) && decide ((n : Int) ≤ 20)) = false := by simp; omega
    repeat (first|(apply sp_cond_f;(·exact eT rfl);(·exact hc0))|(apply spl_callp_g rfl;(·exact Gd.tt rfl rfl);(·(repeat (first|exact eN|(apply eS;(·exact eG rfl)))));(·exact fun _ w' hh => hfew w' hh))|apply then_n|apply sp_seq|apply sp_region|apply spl_nil|apply then_e|apply block_here|apply sp_ret|apply sp_exit|((first|apply spl_pure rfl|(apply spl_pure_g rfl;(·exact Gd.tt rfl rfl)));(·(((first|apply ex_move|apply ex_assign|apply ex_lss|apply ex_leq|apply ex_len|apply ex_andT)<;>(first|exact eT rfl|exact eC|exact eG rfl))))))
    by_cases h20 : n ≤ 20
    · have hin : i = n := by omega
      (apply ret_ok rfl;(·((apply Res.ofOne;((apply Res1.tmp;(·rfl))))))); rw [List.take_of_length_le (by omega)]
    · (apply ret_ok rfl;(·((apply Res.ofOne;((apply Res1.tmp;(·rfl))))))); rw [decide_eq_false (by omega)]; rfl
set_option maxRecDepth 100000 in
set_option maxHeartbeats 4000000 in
theorem has_c {w : World} {A : Option Addr} {n c : Nat} {xs : List Nat} {k : Int} (h : RdS w w.heap.size 1 natC A n xs) : Calls Try.prog 9 #[.slice A n c, .int .i64 k] w (Ret w (.bool (xs.any fun i => decide ((i : Int) = k)))) := by
  have hbd := h.bound
  refine sp_enter (vs := [_, _]) Try.func9 rfl Try.ntmps9 rfl ?_
  repeat (first|apply then_n|apply sp_seq|apply sp_region|apply spl_nil|apply sp_block|((apply spl_pure rfl);(·(((apply ex_assign)<;>(exact eC))))))
  refine sp_loop (X := Nat) (fun i => [(5, true, .int .i64 (i : Int)), (0, true, .slice A n c), (1, true, .int .i64 k)]) (fun _ => w) (fun _ => []) (fun i => i ≤ n ∧ (xs.take i).any (fun i => decide ((i : Int) = k)) = false) (fun i => n - i) 0 ⟨Nat.zero_le _, rfl⟩ (by (repeat (first|exact ESub.nil|apply ESub.cons rfl))) rfl (by (repeat (exact HKeep.refl))) ?_
  rintro i ⟨hi, hno⟩
  by_cases hlt : i < n
  · obtain ⟨ad, x, hA, hb, hx, hsz, hc⟩ := h.at_ hlt
    by_cases hp : (x : Int) = k
    ·
      repeat (first|(apply sp_cond_t;(·exact eT rfl);(·exact decide_eq_true hp))|apply then_n|apply sp_seq|apply sp_region|apply spl_nil|apply then_r|apply block_r|((apply sp_cond_t);(·exact eT rfl);(·(exact decide_eq_true (by omega))))|apply sp_skip|apply sp_ret|apply sp_block|((apply spl_pure rfl);(·(first|(apply ex_loadfield (ad:=ad) (i:=i) (k:=0);(·exact eT rfl);(·exact h);(·exact hA);(·exact hx);(·rfl))|((first|apply ex_move|apply ex_assign|apply ex_lss|apply ex_seql|apply ex_len)<;>(first|exact eT rfl|exact eC))|((apply ex_eql)<;>(exact eT rfl))|((apply ex_indexAddr)<;>(first|exact eT rfl|assumption))))))
      (apply ret_ok rfl;(·((apply Res.ofOne;((apply Res1.tmp;(·rfl))))))); rw [any_hit hx (decide_eq_true hp)]
    ·
      repeat (first|(apply sp_cond_f;(·exact eT rfl);(·exact decide_eq_false hp))|apply then_n|apply block_n|apply sp_seq|apply sp_region|apply spl_nil|((apply sp_cond_t);(·exact eT rfl);(·(exact decide_eq_true (by omega))))|apply sp_skip|apply sp_block|((apply spl_pure rfl);(·(first|(apply ex_loadfield (ad:=ad) (i:=i) (k:=0);(·exact eT rfl);(·exact h);(·exact hA);(·exact hx);(·rfl))|((first|apply ex_move|apply ex_assign|apply ex_lss|apply ex_seql|apply ex_len)<;>(exact eT rfl))|((apply ex_eql)<;>(exact eT rfl))|(apply ex_addn<;>(first|exact eT rfl|exact eC|(constructor<;>omega)))|((apply ex_indexAddr)<;>(first|exact eT rfl|assumption))))))
      exact ⟨i + 1, ⟨hlt, any_miss hno hx (decide_eq_false hp)⟩, by (show n - (i + 1) < n - i; omega), (by (repeat (first|exact ESub.nil|apply ESub.cons rfl))), rfl, (by (repeat (exact HKeep.refl)))⟩
  ·
    repeat (first|apply then_n|apply sp_seq|apply sp_region|apply spl_nil|apply then_e|apply block_here|(apply sp_cond_f;(·exact eT rfl);(·(exact decide_eq_false (by omega))))|apply sp_ret|apply sp_exit|((apply spl_pure rfl);(·(((first|apply ex_move|apply ex_assign|apply ex_lss|apply ex_len)<;>(first|exact eT rfl|exact eC))))))
    (apply ret_ok rfl;(·((apply Res.ofOne;((apply Res1.tmp;(·rfl))))))); rw [any_full hno (by rw [h.len]; omega)]
end Go.Proofs.Ytoogicafefennaa
/-
  Contracts of package shop: loads, a valid shop, tasks that can't be done.
-/
namespace Go.Proofs.Ytoogicafefennaa
set_option linter.unusedVariables false
open Go.RowKit Go.Sy
set_option linter.unusedVariables false
set_option linter.unusedSimpArgs false
def bget (b : List Int) (k : Nat) : Int := b.getD k 0
def ldC (b : List Int) : Array Value := (b.map (Value.int .i64)).toArray
def addL (b : List Int) (t : TaskR) (m : Int) : List Int :=
  if t.bay then (b.set t.skill.toNat (bget b t.skill.toNat + m)).set 8 (bget (b.set t.skill.toNat (bget b t.skill.toNat + m)) 8 + m) else b.set t.skill.toNat (bget b t.skill.toNat + m)
def zeroL : List Int := List.replicate 9 0
def oddB (n : Int) : Bool := decide (n < 0) || decide (60 < n)
structure ShopR where
  sl : Sl
  bays : Int
  staff : List Int
def ShopR.cells (s : ShopR) : Array Value := #[.slice s.sl.a s.sl.n s.sl.c, .int .i64 s.bays]
instance ShopR.one (s : ShopR) : Ones s.cells := ⟨by intro v hv; simp [ShopR.cells] at hv; rcases hv with h | h <;> subst h <;> rfl⟩
def RdShop (w : World) (Be : Nat) (s : ShopR) : Prop := RdS w Be 1 intC s.sl.a s.sl.n s.staff
def shopB (l : List TaskR) (s : ShopR) : Bool := ((tasksOk l && decide ((s.sl.n : Int) ≤ 8)) && !s.staff.any oddB) && !oddB s.bays
def fit1 (b : List Int) (s : ShopR) (k : Nat) : Bool := !(decide (0 < bget b k) && (decide ((s.staff.length : Int) ≤ (k : Int)) || decide (bget s.staff k < bget b k)))
def fitsB (b : List Int) (s : ShopR) : Bool := ((List.range 8).all fun k => fit1 b s k) && decide (bget b 8 ≤ s.bays)
theorem ldC_get {b : List Int} {i : Nat} (h : i < b.length) : (ldC b)[i]? = some (.int .i64 (bget b i)) := by
  unfold ldC bget
  rw [List.getElem?_toArray, List.getElem?_map, List.getD_eq_getElem?_getD, List.getElem?_eq_getElem h]
  all_goals rfl
theorem ldC_size (b : List Int) : (ldC b).size = b.length := by simp [ldC]
theorem ldC_set (b : List Int) (i : Nat) (v : Int) : (ldC b).setIfInBounds i (.int .i64 v) = ldC (b.set i v) := by
  apply Array.ext'
  simp only [ldC, Array.toList_setIfInBounds, List.map_set]
instance ldC_one (b : List Int) : Ones (ldC b) := ⟨by
  intro v hv
  simp [ldC] at hv
  obtain ⟨x, -, rfl⟩ := hv
  rfl⟩
theorem bget_set {b : List Int} {i k : Nat} {v : Int} (hi : i < b.length) : bget (b.set i v) k = if k = i then v else bget b k := by
  unfold bget
  rw [List.getD_eq_getElem?_getD, List.getD_eq_getElem?_getD, List.getElem?_set]
  by_cases h : i = k
  · subst h; simp [hi]
  · rw [if_neg h, if_neg (fun q => h q.symm)]
theorem addL_len (b : List Int) (t : TaskR) (m : Int) : (addL b t m).length = b.length := by unfold addL; split <;> simp
theorem bget_of {b : List Int} {i : Nat} {x : Int} (h : b[i]? = some x) : bget b i = x := by unfold bget; rw [List.getD_eq_getElem?_getD, h]; rfl
section
variable {P : Program} {Be : Nat} {w0 : World} {H : Heap} {G : Bool} {e : Env} {ty : TypeId}
theorem ex_indexAddrA0 {t el : TypeId} {x y : Operand} {k : IntKind} {g n : Nat} {i : Nat} (h : Ev G e x (.pointer (some ⟨g, 0, none⟩))) (h2 : Ev G e y (.int k (i : Int))) (hi : i < n) [ht : TArray P t n el] [hs : TSize P el 1] : Ex P Be w0 H G e (.indexAddr t x y) ty (.pointer (some ⟨g, i, none⟩)) :=
  ex_indexAddrJ (by omega) h h2 hi
end
attribute [local irreducible] Calls thenQ blockQ retQ jumpQ Spc Spl Spq Ex Ev Evs Gd Upd ESub HKeep Res Res1 wlk effQ Rem SrcAt Split mk ldC
set_option maxRecDepth 100000 in
set_option maxHeartbeats 4000000 in
theorem add_c {w : World} {b : List Int} {t : TaskR} {m : Int} (hl : b.length = 9) (hs : 0 ≤ t.skill ∧ t.skill < 8) (hb : ∀ k, -1000000 ≤ bget b k ∧ bget b k ≤ 1000000) (hm : -1 ≤ m ∧ m ≤ 1) :
    Calls Try.prog 29 #[.agg (ldC b), .agg t.cells, .int .i64 m] w (Ret w (.agg (ldC (addL b t m)))) := by
  obtain ⟨th, sk, bay, tsl, taf⟩ := t
  dsimp only at hs
  obtain ⟨j, rfl⟩ := Int.eq_ofNat_of_zero_le hs.1
  have hj : j < 8 := by omega
  have hbj := hb j
  have hg1 := ldC_get (b := b) (i := j) (by omega)
  have hz1 : j < (ldC b).size := by rw [ldC_size]; omega
  obtain ⟨b1, hb1⟩ : ∃ b1, b1 = b.set j (bget b j + m) := ⟨_, rfl⟩
  have hst1 := (ldC_set b j (bget b j + m)).trans (congrArg ldC hb1.symm)
  have hl1 : b1.length = 9 := by rw [hb1, List.length_set, hl]
  have hb8 : bget b1 8 = bget b 8 := by rw [hb1, bget_set (by omega), if_neg (by omega)]
  have hb88 := hb 8
  have hsz1 : (ldC b1).size = 9 := by rw [ldC_size, hl1]
  have hsz0 : (ldC b).size = 9 := by rw [ldC_size, hl]
  refine sp_enter (vs := [_, _, _]) Try.func29 rfl Try.ntmps29 rfl ?_
  cases bay with
  | false =>
    have hR : addL b ⟨th, (j : Int), false, tsl, taf⟩ m = b1 := by unfold addL; rw [hb1]; rfl
    rw [hR]
    repeat (first|(apply sp_cond_f;(·exact eT rfl);(·rfl))|(apply spl_store1E hst1;(·exact eT rfl);(·exact eT rfl);(·rfl);(·(repeat (first|exact Upd.here|apply Upd.there)));(·exact hz1))|apply then_n|apply sp_seq|apply sp_region|apply spl_nil|apply sp_skip|apply sp_ret|((apply spl_pure rfl);(·(first|(apply ex_indexAddrA0;(·exact eT rfl);(·exact eT rfl);(·exact hj))|((first|apply ex_move|apply ex_fieldAddr')<;>(exact eT rfl))|(apply ex_addn<;>(first|exact eT rfl|(constructor<;>omega)))|((apply ex_loadown)<;>(first|exact eT rfl|exact Bk.own InH.mem|rfl|assumption))|((apply ex_loadowns)<;>(first|exact eT rfl|exact Bk.own InH.mem|(assumption))))))|(apply spl_box;(·exact eT rfl);(·rfl);intro _ _)|(apply spl_alloc rfl;intro _ _)|(apply spl_stores;(·exact eT rfl);(·exact eT rfl);(·(repeat (exact Upd.here)));(·(rfl));(·(assumption));(·exact Ones.one)))
    (apply ret_ok rfl;(·((apply Res.ofOne;((apply Res1.cell;(·rfl);(·exact InH.mem);(·(assumption)))))))); rfl
  | true =>
    have hR : addL b ⟨th, (j : Int), true, tsl, taf⟩ m = b1.set 8 (bget b1 8 + m) := by unfold addL; rw [hb1]; rfl
    have hg2 := ldC_get (b := b1) (i := 8) (by omega)
    have hz2 : 8 < (ldC b1).size := by omega
    have hst2 := ldC_set b1 8 (bget b1 8 + m)
    have hsz2 : (ldC (b1.set 8 (bget b1 8 + m))).size = 9 := by rw [ldC_size, List.length_set, hl1]
    rw [hR]
    repeat (first|(apply sp_cond_t;(·exact eT rfl);(·rfl))|(apply spl_store1E hst1;(·exact eT rfl);(·exact eT rfl);(·rfl);(·(repeat (first|exact Upd.here|apply Upd.there)));(·exact hz1))|(apply spl_store1E hst2;(·exact eT rfl);(·exact eT rfl);(·rfl);(·(repeat (first|exact Upd.here|apply Upd.there)));(·exact hz2))|apply then_n|apply sp_seq|apply sp_region|apply spl_nil|apply sp_ret|((apply spl_pure rfl);(·(first|(apply ex_indexAddrA0;(·exact eT rfl);(·exact eT rfl);(·exact hj))|((first|apply ex_move|apply ex_fieldAddr')<;>(exact eT rfl))|(apply ex_addn<;>(first|exact eT rfl|(constructor<;>omega)))|((apply ex_loadown)<;>(first|exact eT rfl|exact Bk.own InH.mem|rfl|assumption))|((apply ex_loadowns)<;>(first|exact eT rfl|exact Bk.own InH.mem|(assumption))))))|(apply spl_box;(·exact eT rfl);(·rfl);intro _ _)|(apply spl_alloc rfl;intro _ _)|(apply spl_stores;(·exact eT rfl);(·exact eT rfl);(·(repeat (exact Upd.here)));(·(rfl));(·(assumption));(·exact Ones.one)))
    (apply ret_ok rfl;(·((apply Res.ofOne;((apply Res1.cell;(·rfl);(·exact InH.mem);(·(assumption)))))))); rfl
theorem ldC_take {b : List Int} : ((ldC b).toList.drop 0).take 8 = (ldC (b.take 8)).toList := by
  unfold ldC
  simp [List.map_take]
theorem bget_take {b : List Int} {k : Nat} (h : k < 8) : bget (b.take 8) k = bget b k := by
  unfold bget
  rw [List.getD_eq_getElem?_getD, List.getD_eq_getElem?_getD, List.getElem?_take, if_pos h]
theorem range_all_t {p : Nat → Bool} {n : Nat} (h : ∀ j < n, p j = true) : (List.range n).all p = true := by
  rw [List.all_eq_true]; exact fun j hj => h j (List.mem_range.1 hj)
theorem range_all_f {p : Nat → Bool} {n i : Nat} (hi : i < n) (h : p i = false) : (List.range n).all p = false := by
  rw [List.all_eq_false]; exact ⟨i, List.mem_range.2 hi, by rw [h]; simp⟩
theorem less_all {p : Nat → Bool} {i : Nat} (h : ∀ j < i, p j = true) (hp : p i = true) : ∀ j < i + 1, p j = true := fun j hj => by
  rcases Nat.lt_or_ge j i with q | q
  · exact h j q
  · rw [show j = i by omega]; exact hp
set_option maxRecDepth 100000 in
set_option maxHeartbeats 4000000 in
theorem fits_c {w : World} {b : List Int} {s : ShopR} (hl : b.length = 9) (h : RdShop w w.heap.size s) :
    Calls Try.prog 30 #[.agg (ldC b), .agg s.cells] w (Ret w (.bool (fitsB b s))) := by
  obtain ⟨⟨A, n, c⟩, bays, staff⟩ := s
  have h' : RdS w w.heap.size 1 intC A n staff := h
  have hbd := h'.bound
  have hlen : staff.length = n := h'.len
  have h8 : (ldC (b.take 8)).size = 8 := by rw [ldC_size, List.length_take, hl]; rfl
  have hg8 := ldC_get (b := b) (i := 8) (by omega)
  have hlt8 : (b.take 8).length = 8 := by rw [List.length_take, hl]; rfl
  refine sp_enter (vs := [_, _]) Try.func30 rfl Try.ntmps30 rfl ?_
  repeat (first|apply then_n|apply sp_seq|apply sp_region|apply spl_nil|apply sp_block|((apply spl_pure rfl);(·(first|(apply ex_loadpartE (cs':=ldC (b.take 8));(·exact eT rfl);(·exact Bk.own InH.mem);(·exact h8);(·exact ldC_take))|((first|apply ex_move|apply ex_assign|apply ex_fieldAddr')<;>(first|exact eT rfl|exact eC)))))|(apply spl_box;(·exact eT rfl);(·rfl);intro _ _))
  rename_i g2 hg2 g3 hg3
  refine sp_loop (X := Nat) (fun i => [(9, true, .int .i64 (i : Int)), (8, true, .agg (ldC (b.take 8))), (3, true, .pointer (some ⟨g3, 0, none⟩)), (2, true, .pointer (some ⟨g2, 0, none⟩))]) (fun _ => w) (fun _ => [(g3, .cells (ShopR.cells ⟨⟨A, n, c⟩, bays, staff⟩) 37 (0, 0)), (g2, .cells (ldC b) 61 (0, 0))]) (fun i => i ≤ 8 ∧ ∀ j < i, fit1 b ⟨⟨A, n, c⟩, bays, staff⟩ j = true) (fun i => 8 - i) 0 ⟨by omega, fun j hj => by omega⟩ (by (repeat (first|exact ESub.nil|apply ESub.cons rfl))) rfl (by (repeat (exact HKeep.refl))) ?_
  rintro i ⟨hi, hall⟩
  by_cases hlt : i < 8
  · have hgi := ldC_get (b := b.take 8) (i := i) (by omega)
    rw [bget_take hlt] at hgi
    by_cases hp : 0 < bget b i
    · by_cases hk : (n : Int) ≤ (i : Int)
      · have hf : fit1 b ⟨⟨A, n, c⟩, bays, staff⟩ i = false := by unfold fit1; simp only [hlen]; rw [decide_eq_true hp, decide_eq_true hk]; rfl
        have hR : fitsB b ⟨⟨A, n, c⟩, bays, staff⟩ = false := by unfold fitsB; rw [range_all_f hlt hf]; rfl
        rw [hR]
        repeat (first|(apply sp_cond_t;(·exact eT rfl);(·rfl))|apply then_n|apply sp_seq|apply sp_region|apply spl_nil|apply then_r|apply block_r|((apply sp_cond_t);(·exact eT rfl);(·(exact decide_eq_true (by omega))))|apply sp_skip|apply sp_ret|apply sp_block|((first|apply spl_pure rfl|(apply spl_pure_g rfl;(·(first|exact Gd.tt rfl rfl|exact Gd.tf rfl rfl))));(·(first|(apply ex_gtrT hp;(·(first|exact eT rfl|exact eG rfl));(·exact eC))|(apply ex_geqT hk;(·exact eT rfl);(·exact eT rfl))|(apply ex_indexArr;(·exact eT rfl);(·exact eT rfl);(·exact hlt);(·exact hgi))|((first|apply ex_move|apply ex_assign|apply ex_fieldAddr'|apply ex_lss|apply ex_gtr|apply ex_len|apply ex_andT)<;>(first|exact eT rfl|exact eC|exact eG rfl))|((apply ex_orT)<;>(first|exact eT rfl|exact eG rfl))|((first|apply ex_loadown|apply ex_indexAddr)<;>(first|exact eT rfl|exact eG rfl|exact Bk.own InH.mem|rfl)))))|(apply spl_guard_f;(·exact Gd.tf rfl rfl);(·rfl);(·rfl)))
        (apply ret_ok rfl;(·((apply Res.ofOne;((apply Res1.tmp;(·rfl))))))); rfl
      · have hkn : i < n := by omega
        obtain ⟨ad, x, hA, hb, hx, hsz, hc⟩ := h'.at_ hkn
        have hbx := bget_of hx
        by_cases hm : x < bget b i
        · have hf : fit1 b ⟨⟨A, n, c⟩, bays, staff⟩ i = false := by unfold fit1; simp only [hlen]; rw [decide_eq_true hp, decide_eq_false hk, hbx, decide_eq_true hm]; rfl
          have hR : fitsB b ⟨⟨A, n, c⟩, bays, staff⟩ = false := by unfold fitsB; rw [range_all_f hlt hf]; rfl
          rw [hR]
          repeat (first|(apply sp_cond_t;(·exact eT rfl);(·rfl))|apply then_n|apply sp_seq|apply sp_region|apply spl_nil|apply then_r|apply block_r|((apply sp_cond_t);(·exact eT rfl);(·(exact decide_eq_true (by omega))))|apply sp_skip|apply sp_ret|apply sp_block|((first|apply spl_pure rfl|(apply spl_pure_g rfl;(·(first|exact Gd.tt rfl rfl|exact Gd.tf rfl rfl))));(·(first|(apply ex_gtrT hp;(·exact eT rfl);(·exact eC))|(apply ex_gtrT hm;(·exact eT rfl);(·exact eT rfl))|(apply ex_geqF hk;(·exact eT rfl);(·exact eT rfl))|(apply ex_indexArr;(·exact eT rfl);(·exact eT rfl);(·exact hlt);(·exact hgi))|(apply ex_indexAddr;(·exact eT rfl);(·exact eT rfl);(·exact hA);(·exact hkn))|(apply ex_loadfield (ad:=ad) (i:=i) (k:=0);(·exact eT rfl);(·exact h');(·exact hA);(·exact hx);(·rfl))|((first|apply ex_move|apply ex_assign|apply ex_fieldAddr'|apply ex_lss|apply ex_len|apply ex_andT)<;>(first|exact eT rfl|exact eC))|((apply ex_orT)<;>(exact eT rfl))|((apply ex_loadown)<;>(first|exact eT rfl|exact Bk.own InH.mem|rfl))))))
          (apply ret_ok rfl;(·((apply Res.ofOne;((apply Res1.tmp;(·rfl))))))); rfl
        · have hf : fit1 b ⟨⟨A, n, c⟩, bays, staff⟩ i = true := by unfold fit1; simp only [hlen]; rw [decide_eq_true hp, decide_eq_false hk, hbx, decide_eq_false hm]; rfl
          repeat (first|(apply sp_cond_f;(·exact eT rfl);(·rfl))|apply then_n|apply block_n|apply sp_seq|apply sp_region|apply spl_nil|((apply sp_cond_t);(·exact eT rfl);(·(exact decide_eq_true (by omega))))|apply sp_skip|apply sp_block|((first|apply spl_pure rfl|(apply spl_pure_g rfl;(·(first|exact Gd.tt rfl rfl|exact Gd.tf rfl rfl))));(·(first|(apply ex_gtrT hp;(·exact eT rfl);(·exact eC))|(apply ex_gtrF hm;(·exact eT rfl);(·exact eT rfl))|(apply ex_geqF hk;(·exact eT rfl);(·exact eT rfl))|(apply ex_indexArr;(·exact eT rfl);(·exact eT rfl);(·exact hlt);(·exact hgi))|(apply ex_indexAddr;(·exact eT rfl);(·exact eT rfl);(·exact hA);(·exact hkn))|(apply ex_loadfield (ad:=ad) (i:=i) (k:=0);(·exact eT rfl);(·exact h');(·exact hA);(·exact hx);(·rfl))|((first|apply ex_move|apply ex_assign|apply ex_fieldAddr'|apply ex_lss|apply ex_len|apply ex_andT)<;>(first|exact eT rfl|exact eC))|((apply ex_orT)<;>(exact eT rfl))|(apply ex_addn<;>(first|exact eT rfl|exact eC|(constructor<;>omega)))|((apply ex_loadown)<;>(first|exact eT rfl|exact Bk.own InH.mem|rfl))))))
          exact ⟨i + 1, ⟨hlt, less_all hall hf⟩, by (show 8 - (i + 1) < 8 - i; omega), (by (repeat (first|exact ESub.nil|apply ESub.cons rfl))), rfl, (by (repeat (exact HKeep.refl)))⟩
    · have hf : fit1 b ⟨⟨A, n, c⟩, bays, staff⟩ i = true := by unfold fit1; rw [decide_eq_false hp]; rfl
      repeat (first|(apply sp_cond_f;(·exact eT rfl);(·rfl))|apply then_n|apply block_n|apply sp_seq|apply sp_region|apply spl_nil|((apply sp_cond_t);(·exact eT rfl);(·(exact decide_eq_true (by omega))))|apply sp_skip|apply sp_block|((first|apply spl_pure rfl|(apply spl_pure_g rfl;(·(first|exact Gd.tt rfl rfl|exact Gd.gf rfl rfl))));(·(first|(apply ex_gtrF hp;(·(first|exact eT rfl|exact eG rfl));(·exact eC))|(apply ex_indexArr;(·exact eT rfl);(·exact eT rfl);(·exact hlt);(·exact hgi))|((first|apply ex_move|apply ex_assign|apply ex_fieldAddr'|apply ex_lss|apply ex_gtr|apply ex_geq|apply ex_len|apply ex_andT)<;>(first|exact eT rfl|exact eC|exact eG rfl))|(apply ex_or<;>(exact eG rfl))|(apply ex_addn<;>(first|exact eT rfl|exact eC|(constructor<;>omega)))|((first|apply ex_loadown|apply ex_indexAddr)<;>(first|exact eG rfl|exact Bk.own InH.mem|rfl)))))|(apply spl_guard_f;(·exact Gd.gf rfl rfl);(·rfl);(·rfl)))
      exact ⟨i + 1, ⟨hlt, less_all hall hf⟩, by (show 8 - (i + 1) < 8 - i; omega), (by (repeat (first|exact ESub.nil|apply ESub.cons rfl))), rfl, (by (repeat (exact HKeep.refl)))⟩
  · have hall8 : (List.range 8).all (fun k => fit1 b ⟨⟨A, n, c⟩, bays, staff⟩ k) = true := range_all_t (fun j hj => hall j (by omega))
    have hR : fitsB b ⟨⟨A, n, c⟩, bays, staff⟩ = decide (bget b 8 ≤ bays) := by unfold fitsB; rw [hall8]; rfl
    rw [hR]
    repeat (first|apply then_n|apply sp_seq|apply sp_region|apply spl_nil|apply then_e|apply block_here|(apply sp_cond_f;(·exact eT rfl);(·(exact decide_eq_false (by omega))))|apply sp_ret|apply sp_exit|((apply spl_pure rfl);(·(first|((first|apply ex_assign|apply ex_fieldAddr'|apply ex_lss|apply ex_leq)<;>(first|exact eT rfl|exact eC))|((apply ex_loadown)<;>(first|exact eT rfl|exact Bk.own InH.mem|rfl|assumption))))))
    (apply ret_ok rfl;(·((apply Res.ofOne;((apply Res1.tmp;(·rfl))))))); rfl
end Go.Proofs.Ytoogicafefennaa
/-
  Ranges over a function: code in a round, the statement, calls of yield, functions that leave with a mark.
-/
namespace Go.Sy
set_option linter.unusedVariables false
open Go.RowKit
set_option linter.unusedVariables false
set_option linter.unusedSimpArgs false

def fenceAt (r : Option Nat) : Fence := { Fence.wide with round := r }
def wd (a : Act) (D : List Deferred) : Act := { a with defers := a.defers ++ D }
theorem wd_put (a : Act) (D : List Deferred) (d : Option Tmp) (v : Value) : (wd a D).put d v = wd (a.put d v) D := by cases d <;> rfl
theorem wd_nil (a : Act) : wd a [] = a := by cases a; simp [wd]
theorem wd_back (a : Act) : wd { a with defers := [] } a.defers = a := by cases a; simp [wd]
def noDefer (l : List Oper) : Bool := l.all fun o => match o.op with | .defer _ => false | _ => true
theorem noDefer_mem {l : List Oper} (h : noDefer l = true) {o : Oper} (ho : o ∈ l) : ∀ c, o.op ≠ .defer c := by
  have := List.all_eq_true.1 h o ho
  intro c hc
  rw [hc] at this
  cases this

section
variable {P : Program} {r : Option Nat} {n : Nat} {D : List Deferred}
theorem callsIn_at {f : FuncId} {args : Array Value} {w : World} {R : Ending → World → Prop} (h : Calls P f args w R) : CallsIn (fenceAt r) n P f args w R :=
  (callsIn_wide.2 h : CallsIn Fence.wide n P f args w R)
theorem rowsIn_at {row : String} {args : Array Value} {w : World} {R : Value → World → Prop} (h : Rows P row args w R) : RowsIn (fenceAt r) n P row args w R := by
  intro c cs _
  obtain ⟨v, w', hR, hs⟩ := h c cs
  exact ⟨v, w', hR, (stepsIn_wide.2 hs : StepsIn (Machine.fenced P Fence.wide) P _ _)⟩

theorem oper_in {o : Oper} (hnd : ∀ c, o.op ≠ .defer c) {K K' : Act → World → Prop} {Q Q' : Exit → Act → World → Prop} (hK : ∀ a w, K a w → K' (wd a D) w) (hQ : ∀ x a w, Q x a w → Q' x (wd a D) w) {a : Act} {w : World} (h : o.wp P a w K Q) : o.wpIn (fenceAt r) n P (wd a D) w K' Q' := by
  refine ⟨fun _ _ => trivial, ?_⟩
  rw [Oper.semAt_eq _ _ _ hnd]
  have he : (wd a D).eval = a.eval := rfl
  rw [he]
  unfold Oper.wp at h
  generalize (execOp a.eval o).run P w = res at h ⊢
  cases res with
  | ok x w' =>
    cases x <;> simp only [Oper.upon] at h <;> simp only [Oper.uponIn]
    case value v => rw [wd_put]; exact hK _ _ h
    case skip => rw [wd_put]; exact hK _ _ h
    case defer d =>
      have : ({ wd a D with defers := d :: (wd a D).defers } : Act) = wd { a with defers := d :: a.defers } D := rfl
      rw [this, wd_put]; exact hK _ _ h
    case enter f args =>
      refine ⟨fun h => (by cases h), callsIn_at (h.mono fun en w'' he => ?_)⟩
      cases en with
      | returned v =>
        have h3 := hK _ _ he
        rw [← wd_put] at h3
        exact h3
      | panicked c => exact hQ _ _ _ he
      | outgrown => obtain ⟨a0, w0, h0⟩ := he; exact ⟨_, _, hQ _ _ _ h0⟩
    case row row args => exact ⟨fun h => (by cases h), rowsIn_at (h.mono fun v w'' he => by rw [wd_put]; exact hK _ _ he)⟩
    all_goals exact h
  | halt x w' =>
    cases x <;> simp only [Oper.upon] at h <;> simp only [Oper.uponIn]
    case panic v => exact hQ _ _ _ h

theorem list_in {ops : Array Oper} {Q Q' : Exit → Act → World → Prop} (hno : ∀ a w, ¬ Q .outgrown a w) (hQ : ∀ x a w, Q x a w → Q' x (wd a D) w) : ∀ (l : List Oper), noDefer l = true → ∀ (a : Act) (w : World), wpList P ops Q l a w → wpListIn (fenceAt r) n P ops Q' l (wd a D) w
  | [], _, a, w, h => hQ _ _ _ h
  | o :: l, hl, a, w, h => by
    have hl' : noDefer l = true := by simp only [noDefer, List.all_cons, Bool.and_eq_true] at hl ⊢; exact hl.2
    simp only [wpList] at h
    simp only [wpListIn]
    have hy : yielded ops (wd a D).tmps = yielded ops a.tmps := rfl
    rw [hy]
    split
    · rename_i hw
      rw [if_pos hw] at h
      rcases h with h | ⟨_, a0, w0, h⟩
      · exact oper_in (noDefer_mem hl (.head _)) (fun a w h => list_in hno hQ l hl' a w h) hQ h
      · exact (hno _ _ h).elim
    · rename_i hw
      rw [if_neg hw] at h
      refine ⟨fun _ _ => trivial, ?_⟩
      rw [wd_put]
      exact list_in hno hQ l hl' _ _ h

theorem any_in {ops : Array Oper} (hnd : noDefer ops.toList = true) {C : World → Prop} {Q : Act → World → Prop} {m : Nat} {Q' : Exit → Act → World → Prop} (hQ : ∀ a w, Q a w → Q' .normal (wd a D) w) : ∀ (fuel : Nat) (listed : Array Bool) (a : Act) (w : World),
    wpI P .any ops m C Q fuel listed a w → wpAnyIn (fenceAt r) n P .any ops Q' fuel listed (wd a D) w
  | 0, _, _, _, h => ⟨h.1, hQ _ _ h.2⟩
  | fuel + 1, listed, a, w, h => ⟨fun h0 => hQ _ _ (h.1 h0), fun i hi => by
      have h1 := h.2 i hi
      unfold opI at h1
      unfold wpOpIn
      have hy : yielded ops (wd a D).tmps = yielded ops a.tmps := rfl
      split
      · rename_i ho; simp only [ho] at h1; exact any_in hnd hQ fuel _ _ _ h1.2
      · rename_i o ho
        simp only [ho] at h1
        rw [hy]
        split
        · rename_i hw; simp only [hw, if_true] at h1; exact oper_in (noDefer_mem hnd (Array.mem_toList_iff.2 (Array.mem_of_getElem? ho))) (fun a' w' h2 => any_in hnd hQ fuel _ _ _ h2.2) (Q := fun _ _ _ => False) (fun _ _ _ h => h.elim) h1
        · rename_i hw; simp only [hw] at h1; exact ⟨fun _ _ => trivial, by rw [wd_put]; exact any_in hnd hQ fuel _ _ _ h1.2⟩⟩
end

/-- Not left by outgrowing. -/
class NoOut (Q : Post) : Prop where
  no : ∀ e w H, ¬ Q .outgrown e w H
instance NoOut.then {K : Env → World → Heap → Prop} {Q : Post} [h : NoOut Q] : NoOut (thenQ K Q) := ⟨fun e w H => h.no e w H⟩
instance NoOut.block {id : Nat} {Q : Post} [h : NoOut Q] : NoOut (blockQ id Q) := ⟨fun e w H => h.no e w H⟩
instance NoOut.ret {P : Program} {fn : Func} {Be : Nat} {R : Ending → World → Prop} : NoOut (retQ P fn Be R) := ⟨fun e w H h => h⟩
theorem NoOut.lift {N Be : Nat} {Q : Post} [h : NoOut Q] (a : Act) (w : World) : ¬ lift N Be Q .outgrown a w := fun ⟨_, _, _, _, _, hq⟩ => h.no _ _ _ hq

/-- A scope that nothing jumps in. -/
def scopeQ (Q : Post) : Post := fun x e w H => match x with | .goto _ => False | x => Q x e w H
instance NoOut.scope {Q : Post} [h : NoOut Q] : NoOut (scopeQ Q) := ⟨fun e w H => h.no e w H⟩
section
variable {P : Program} {N Be : Nat} {Q : Post} {e : Env} {w0 : World} {H : Heap}
theorem scope_n (h : Q .normal e w0 H) : scopeQ Q .normal e w0 H := h
theorem scope_r (h : Q .ret e w0 H) : scopeQ Q .ret e w0 H := h
theorem scope_e {id : Nat} (h : Q (.exit id) e w0 H) : scopeQ Q (.exit id) e w0 H := h
theorem sp_scope {c : Code} (h : Spc P N Be c (scopeQ Q) e w0 H) : Spc P N Be (.scope c) Q e w0 H := by
  intro a w hf hh
  refine wp_scope_straight (wp_mono (h a w hf hh) ?_)
  rintro x a w ⟨e, w0, H, h1, h2, h3⟩
  cases x <;> first | exact ⟨e, w0, H, h1, h2, h3⟩ | exact h3.elim
end

abbrev PostM := List Deferred → Post
def liftM (N Be : Nat) (Q : PostM) : Exit → Act → World → Prop := fun x a w => ∃ e w0 H, Fr N e { a with defers := [] } ∧ Hp Be w0 H w ∧ Q a.defers x e w0 H
/-- Code in a round (r) or in a function, with marks D to come behind it. -/
def SpcM (r : Option Nat) (D : List Deferred) (P : Program) (N Be : Nat) (c : Code) (Q : PostM) (e : Env) (w0 : World) (H : Heap) : Prop := ∀ a w, Fr N e a → Hp Be w0 H w → c.wpIn (fenceAt r) 0 P (liftM N Be Q) (wd a D) w
def SplI (P : Program) (N Be : Nat) (ops : Array Oper) (Q : Post) (l : List Oper) (e : Env) (w0 : World) (H : Heap) : Prop := ∀ a w, Fr N e a → Hp Be w0 H w → wpListIn (fenceAt none) 0 P ops (lift N Be Q) l a w

section rules
variable {P : Program} {r : Option Nat} {D : List Deferred} {N Be : Nat} {Q : PostM} {e : Env} {w0 : World} {H : Heap}
theorem liftM_of {a : Act} {w : World} {x : Exit} (hf : Fr N e a) (hh : Hp Be w0 H w) (h : Q D x e w0 H) : liftM N Be Q x (wd a D) w := by
  have hd := hf.defers
  refine ⟨e, w0, H, ⟨rfl, hf.size, hf.get⟩, hh, ?_⟩
  show Q (a.defers ++ D) x e w0 H
  rw [hd]; exact h
theorem liftM_lift {a : Act} {w : World} {x : Exit} (h : lift N Be (Q D) x a w) : liftM N Be Q x (wd a D) w := by
  obtain ⟨e, w0, H, hf, hh, h⟩ := h
  exact liftM_of hf hh h
theorem spm_region {id : Nat} {l : List Oper} (hnd : noDefer l = true) [NoOut (Q D)] (h : Spl P N Be l.toArray (Q D) l e w0 H) : SpcM r D P N Be (.region id l.toArray false) Q e w0 H :=
  fun a w hf hh => wpIn_region_lit (list_in (Q := lift N Be (Q D)) NoOut.lift (fun _ _ _ h => liftM_lift h) l hnd a w (h a w hf hh))
theorem spm_drawn {id : Nat} {l : List Oper} (p : List (Nat × Bool)) (m : Nat) (H1 : Heap) (hm : P.follows .mixedOrders = true) (hB : drawnB l.toArray m p = true) (hnd : noDefer l = true) (hk : HKeep w0 H1 H) (h : wlk P N Be l.toArray m (Q D) H1 p e w0 H) :
    SpcM r D P N Be (.region id l.toArray true) Q e w0 H := by
  intro a w hf hh
  simp only [drawnB, Bool.and_eq_true, decide_eq_true_eq] at hB
  obtain ⟨⟨⟨h1, h2⟩, h3⟩, h4⟩ := hB
  refine wpIn_region_any hm ?_
  have := wlk_sound h2 h1 p _ false a _ e H h4 (Cl.start rfl) hf hh.drew (fun _ => (hh.drew).sub hk) h
  rw [h3] at this
  exact any_in (by simpa using hnd) (fun _ _ hq => liftM_lift hq) _ _ _ _ this
theorem spm_seq {x y : Code} (h : SpcM r D P N Be x (fun D' => thenQ (fun e w H => SpcM r D' P N Be y Q e w H) (Q D')) e w0 H) : SpcM r D P N Be (.seq x y) Q e w0 H := by
  intro a w hf hh
  refine wpIn_seq (wpIn_mono (h a w hf hh) ?_)
  rintro x a w ⟨e, w0, H, h1, h2, h3⟩
  cases x <;> first | exact (wd_back a ▸ h3 _ w h1 h2 : Code.wpIn _ _ _ _ _ a w) | exact ⟨e, w0, H, h1, h2, h3⟩
theorem spm_skip (h : Q D .normal e w0 H) : SpcM r D P N Be .skip Q e w0 H := fun a w hf hh => wpIn_skip (liftM_of hf hh h)
theorem spm_exit {id : Nat} (h : Q D (.exit id) e w0 H) : SpcM r D P N Be (.exit id) Q e w0 H := fun a w hf hh => wpIn_exit (liftM_of hf hh h)
theorem spm_ret (h : Q D .ret e w0 H) : SpcM r D P N Be .ret Q e w0 H := fun a w hf hh => wpIn_ret (liftM_of hf hh h)
theorem spm_block {id : Nat} {c : Code} (h : SpcM r D P N Be c (fun D' => blockQ id (Q D')) e w0 H) : SpcM r D P N Be (.block id c) Q e w0 H := by
  intro a w hf hh
  refine wpIn_block (wpIn_mono (h a w hf hh) ?_)
  rintro x a w ⟨e, w0, H, h1, h2, h3⟩
  cases x <;> first | exact ⟨e, w0, H, h1, h2, h3⟩ | skip
  rename_i id'
  simp only [blockQ] at h3
  simp only [Exit.inBlock]
  split at h3
  · rename_i he; rw [if_pos he]; exact ⟨e, w0, H, h1, h2, h3⟩
  · rename_i he; rw [if_neg he]; exact ⟨e, w0, H, h1, h2, h3⟩
theorem spm_cond {c : Operand} {x y : Code} {b : Bool} (hc : Ev true e c (.bool b)) (ht : b = true → SpcM r D P N Be x Q e w0 H) (hf : b = false → SpcM r D P N Be y Q e w0 H) : SpcM r D P N Be (.cond c x y) Q e w0 H :=
  fun a w h1 h2 => wpIn_cond_split (a := wd a D) (hc N a h1 rfl) (fun hb => ht hb a w h1 h2) (fun hb => hf hb a w h1 h2)
theorem spm_cond_t {c : Operand} {x y : Code} {b : Bool} (hc : Ev true e c (.bool b)) (hb : b = true) (ht : SpcM r D P N Be x Q e w0 H) : SpcM r D P N Be (.cond c x y) Q e w0 H :=
  spm_cond hc (fun _ => ht) (fun h => by rw [hb] at h; cases h)
theorem spm_cond_f {c : Operand} {x y : Code} {b : Bool} (hc : Ev true e c (.bool b)) (hb : b = false) (hf : SpcM r D P N Be y Q e w0 H) : SpcM r D P N Be (.cond c x y) Q e w0 H :=
  spm_cond hc (fun h => by rw [hb] at h; cases h) (fun _ => hf)

/-- A function that may leave with a mark. -/
def markQ (P : Program) (fn : Func) (Be : Nat) (R : Ending → World → Prop) : PostM := fun D x e w0 H =>
  match x with
  | .ret | .normal => (D = [] ∧ ∃ v, Res fn.results P Be e w0 H v ∧ ∀ w', Hp Be w0 H w' → R (.returned v) w') ∨
      ∃ d0 H' v, D = [{ target := .collected d0, args := #[] }] ∧ Upd H d0 (.deferred (some [])) (.deferred none) H' ∧ Res fn.results P Be e w0 H' v ∧ ∀ w', Hp Be w0 H' w' → R (.returned v) w'
  | _ => False
instance NoOut.mark {P : Program} {fn : Func} {Be : Nat} {R : Ending → World → Prop} {D : List Deferred} : NoOut (markQ P fn Be R D) := ⟨fun e w H h => h⟩
theorem Hp.putObj {w : World} {H' : Heap} {g : Nat} {o o' : Obj} (h : Hp Be w0 H w) (hu : Upd H g o o' H') : Hp Be w0 H' (w.putObj g o') :=
  h.upd hu rfl rfl rfl (by simp) (fun k _ hk => World.putObj_heap_other hk) (World.putObj_heap_same (h.lt hu.mem))
theorem sp_enterD {f : FuncId} {fn : Func} {c : Code} {vs : List Value} {w : World} {R : Ending → World → Prop} (hf : P.funcs[f]? = some fn) (hb : fn.body = some c) (hN : fn.ntmps = N) (hl : Nat.ble vs.length N = true)
    (h : SpcM none [] P N w.heap.size c (markQ P fn w.heap.size R) (envOf 0 vs) w []) : Calls P f vs.toArray w R := by
  refine callsIn_wide.1 (callsIn_of_wp_marks (F := Fence.wide) (n := 0) hf hb trivial (wpIn_mono (wd_nil _ ▸ h { tmps := vs.toArray ++ Array.replicate (fn.ntmps - vs.toArray.size) undef, defers := [] } w ?_ (Hp.start w) : Code.wpIn Fence.wide 0 P c _ _ w) ?_))
  · have key : ∀ (a : Act) (w' : World) (e : Env) (w0 : World) (H : Heap), Fr N e { a with defers := [] } → Hp w.heap.size w0 H w' → markQ P fn w.heap.size R a.defers .ret e w0 H → LeavesInM Fence.wide 0 P fn a.tmps R a.defers .returning w' := by
      intro a w' e w0 H h1 h2 h3
      rcases h3 with ⟨hd, v, hv, hR⟩ | ⟨d0, H', v, hd, hu, hv, hR⟩
      · rw [hd]
        exact ⟨v, hv _ { a with defers := [] } _ fn rfl h1 h2, hR w' h2⟩
      · rw [hd]
        have hg : w'.heap[d0]? = some (.deferred (some [])) := h2.own _ hu.mem
        have h4 := h2.putObj hu
        exact ⟨by simp, .inl ⟨d0, _, rfl, run_takeDeferred hg, v, hv _ { a with defers := [] } _ fn rfl h1 h4, hR _ h4⟩⟩
    rintro x a w' ⟨e, w0, H, h1, h2, h3⟩
    cases x with
    | normal => exact key a w' e w0 H h1 h2 h3
    | ret => exact key a w' e w0 H h1 h2 h3
    | exit _ => exact h3.elim
    | goto _ => exact h3.elim
    | panic _ => exact h3.elim
    | outgrown => exact h3.elim
  · have hl' : vs.length ≤ N := Nat.le_of_ble_eq_true hl
    refine ⟨rfl, by simp [hN]; omega, fun k g v hk => ?_⟩
    obtain ⟨rfl, _, h3⟩ := look_envOf vs 0 k g v hk
    simp only [Nat.sub_zero] at h3
    have hk : k < vs.length := (List.getElem?_eq_some_iff.1 h3).1
    simp [Array.getElem?_append, hk, gv]
    have := (List.getElem?_eq_some_iff.1 h3).2
    simpa using this

/-- The statement. -/
theorem spm_rangeFunc {g : Operand} {ps : Array Tmp} {assign body : Code} {gf : FuncId} {caps : List Value} [TFn P gf] {X : Type} {V : X → Value} {st : X → LoopState} {pend : X → Option Code} {HX : X → Heap} {I : X → Prop} (hg : Ev true e g (.func (.func gf) #[] caps.toArray))
    (hcall : ∀ fn tmps l d0, Fr N e { tmps := tmps, defers := [] } → w0.heap.size ≤ l → w0.heap.size ≤ d0 → ∀ w, Hp Be w0 ((l, .loop { state := .ready, pending := none, fn, tmps, params := ps, assign, body, defers := d0 }) :: (d0, .deferred (some [])) :: H) w →
      Calls P gf (Value.func (.yield l) #[] #[] :: caps).toArray w (RetX Be w0 V (fun x => (l, .loop { state := st x, pending := pend x, fn, tmps, params := ps, assign, body, defers := d0 }) :: (d0, .deferred (some [])) :: HX x) I))
    (k : ∀ d0 x, I x → w0.heap.size ≤ d0 → st x ≠ .busy ∧ (match pend x with | none => Q [{ target := .collected d0, args := #[] }] .normal e w0 ((d0, .deferred (some [])) :: HX x) | some .ret => Q [{ target := .collected d0, args := #[] }] .ret e w0 ((d0, .deferred (some [])) :: HX x) | some _ => False)) :
    SpcM none [] P N Be (.rangeFunc g ps assign body) Q e w0 H := by
  intro a w hf hh
  rw [wd_nil]
  refine wpIn_rangeFunc fun fn hfn => ?_
  have hga := hg N a hf rfl
  obtain ⟨W1, hW1⟩ : ∃ W1, (w.alloc (.deferred (some []))).alloc (.loop { state := .ready, pending := none, fn, tmps := a.tmps, params := ps, assign, body, defers := w.heap.size }) = W1 := ⟨_, rfl⟩
  have hH1 := (hh.alloc (.deferred (some []))).alloc (.loop { state := .ready, pending := none, fn, tmps := a.tmps, params := ps, assign, body, defers := w.heap.size })
  have hsz : (w.alloc (.deferred (some []))).heap.size = w.heap.size + 1 := by simp
  rw [hsz, hW1] at hH1
  have hle := hh.size
  have hfr : Fr N e { tmps := a.tmps, defers := [] } := ⟨rfl, hf.size, hf.get⟩
  refine ⟨w.heap.size + 1, [{ target := .collected w.heap.size, args := #[] }], W1, { target := .fn (.func gf) caps.toArray, args := #[.func (.yield (w.heap.size + 1)) #[] #[]] }, W1, gf,
    (Value.func (.yield (w.heap.size + 1)) #[] #[] :: caps).toArray, W1, ?_, ?_, fun _ _ => trivial, ?_, fun h => (by cases h), ?_⟩
  · rw [← hW1]; exact run_enterLoop_outer _ _ _ _ _
  · simp only [resolve, hga]
    simp [go_sem]
  · have : (invoke (.fn (.func gf) caps.toArray) #[.func (.yield (w.heap.size + 1)) #[] #[]]) = callFunc gf (#[.func (.yield (w.heap.size + 1)) #[] #[]] ++ caps.toArray) := rfl
    rw [this]
    have h2 : (#[.func (.yield (w.heap.size + 1)) #[] #[]] ++ caps.toArray : Array Value) = (Value.func (.yield (w.heap.size + 1)) #[] #[] :: caps).toArray := by simp
    rw [h2]
    exact TFn.run W1 _
  · refine callsIn_at ((hcall fn a.tmps (w.heap.size + 1) w.heap.size hfr (by omega) hle W1 hH1).mono ?_)
    rintro en w2 ⟨x, rfl, hI, hp⟩
    obtain ⟨hst, hk⟩ := k w.heap.size x hI hle
    have hl := hp.own _ (.head _)
    have hend := run_endLoop (P := P) hl hst
    refine ⟨_, _, hend, ?_⟩
    have hp2 := (hp.putObj (o' := .loop { state := .exhausted, pending := pend x, fn, tmps := a.tmps, params := ps, assign, body, defers := w.heap.size }) Upd.here).drop (show w0.heap.size ≤ (w.heap.size + 1, Obj.loop { state := .exhausted, pending := pend x, fn, tmps := a.tmps, params := ps, assign, body, defers := w.heap.size }).1 by show w0.heap.size ≤ w.heap.size + 1; omega)
    have hd := hf.defers
    have ha : ({ a with defers := [{ target := .collected w.heap.size, args := #[] }] ++ a.defers } : Act) = wd a [{ target := .collected w.heap.size, args := #[] }] := by
      simp [wd, hd]
    rw [ha]
    cases hpd : pend x with
    | none =>
      rw [hpd] at hk hp2
      exact liftM_of hf hp2 hk
    | some c =>
      rw [hpd] at hk hp2
      cases c <;> first | exact hk.elim | skip
      exact wpIn_ret (liftM_of hf hp2 hk)

/-- How a round may end. -/
def rndQ (l : Nat) (rec : Loop) (w0 : World) {X : Type} (VB : X → Bool) (HH : X → Heap) (I : X → Prop) : PostM := fun D x e w0' H =>
  match x with
  | .normal => w0' = w0 ∧ ∃ y R1, H.Perm ((l, .loop { rec with state := .busy }) :: R1) ∧ I y ∧ VB y = true ∧ HKeep w0 (HH y) ((l, .loop { rec with state := .ready, pending := none }) :: R1)
  | .ret => w0' = w0 ∧ ∃ y R1, H.Perm ((l, .loop { rec with state := .busy }) :: R1) ∧ I y ∧ VB y = false ∧ HKeep w0 (HH y) ((l, .loop { rec with state := .done, pending := some .ret }) :: R1)
  | _ => False
instance NoOut.rnd {l : Nat} {rec : Loop} {X : Type} {VB : X → Bool} {HH : X → Heap} {I : X → Prop} {D : List Deferred} : NoOut (rndQ l rec w0 VB HH I D) := ⟨fun e w H h => h⟩
/-- What is asked behind the assignment to the loop's variables. -/
def asgQ (P : Program) (N Be l : Nat) (rec : Loop) (w0 : World) {X : Type} (VB : X → Bool) (HH : X → Heap) (I : X → Prop) : PostM := fun D x e w0' H =>
  match x with
  | .normal => w0' = w0 ∧ D = [] ∧ ∃ R1, H.Perm ((l, .loop rec) :: R1) ∧ SpcM (some l) [] P N Be rec.body (rndQ l rec w0 VB HH I) e w0 ((l, .loop { rec with state := .busy }) :: R1)
  | _ => False
instance NoOut.asg {P : Program} {N Be l : Nat} {rec : Loop} {X : Type} {VB : X → Bool} {HH : X → Heap} {I : X → Prop} {D : List Deferred} : NoOut (asgQ P N Be l rec w0 VB HH I D) := ⟨fun e w H h => h⟩
theorem asg_n {l : Nat} {rec : Loop} {X : Type} {VB : X → Bool} {HH : X → Heap} {I : X → Prop} (R1 : Heap) (hp : H.Perm ((l, .loop rec) :: R1)) (h : SpcM (some l) [] P N Be rec.body (rndQ l rec w0 VB HH I) e w0 ((l, .loop { rec with state := .busy }) :: R1)) : asgQ P N Be l rec w0 VB HH I [] .normal e w0 H :=
  ⟨rfl, rfl, R1, hp, h⟩
theorem rnd_n {l : Nat} {rec : Loop} {X : Type} {VB : X → Bool} {HH : X → Heap} {I : X → Prop} (R1 : Heap) (y : X) (hp : H.Perm ((l, .loop { rec with state := .busy }) :: R1)) (hI : I y) (hV : VB y = true) (hk : HKeep w0 (HH y) ((l, .loop { rec with state := .ready, pending := none }) :: R1)) : rndQ l rec w0 VB HH I D .normal e w0 H :=
  ⟨rfl, y, R1, hp, hI, hV, hk⟩
theorem rnd_r {l : Nat} {rec : Loop} {X : Type} {VB : X → Bool} {HH : X → Heap} {I : X → Prop} (R1 : Heap) (y : X) (hp : H.Perm ((l, .loop { rec with state := .busy }) :: R1)) (hI : I y) (hV : VB y = false) (hk : HKeep w0 (HH y) ((l, .loop { rec with state := .done, pending := some .ret }) :: R1)) : rndQ l rec w0 VB HH I D .ret e w0 H :=
  ⟨rfl, y, R1, hp, hI, hV, hk⟩
theorem markH_none {fn : Func} {rs : Array ResultVar} {w : World} {v : Value} {X : Type} {V : X → Value} {HH : X → Heap} {I : X → Prop} (hr : fn.results = rs) (h : Res rs P w.heap.size e w H v) (hv : ∃ x, v = V x ∧ I x ∧ HKeep w (HH x) H) : markQ P fn w.heap.size (RetH w V HH I) [] .ret e w H := by
  subst hr
  obtain ⟨x, rfl, hI, hk⟩ := hv
  exact .inl ⟨rfl, _, h, fun w' hh => ⟨x, rfl, hI, hh.sub hk⟩⟩
theorem markH_one {fn : Func} {rs : Array ResultVar} {w : World} {v : Value} {d0 : Nat} {H' : Heap} {X : Type} {V : X → Value} {HH : X → Heap} {I : X → Prop} (hr : fn.results = rs) (hu : Upd H d0 (.deferred (some [])) (.deferred none) H') (h : Res rs P w.heap.size e w H' v) (hv : ∃ x, v = V x ∧ I x ∧ HKeep w (HH x) H') : markQ P fn w.heap.size (RetH w V HH I) [{ target := .collected d0, args := #[] }] .ret e w H := by
  subst hr
  obtain ⟨x, rfl, hI, hk⟩ := hv
  exact .inr ⟨d0, H', _, rfl, hu, h, fun w' hh => ⟨x, rfl, hI, hh.sub hk⟩⟩
theorem SpcM.sub {c : Code} {e' : Env} {H' : Heap} (h : SpcM r D P N Be c Q e w0 H) (he : ESub e e') (hH : HKeep w0 H H') : SpcM r D P N Be c Q e' w0 H' := fun a w hf hh => h a w (hf.sub he) (hh.sub hH)
theorem yield_round {l p : Nat} {rec : Loop} {v : Value} {R : Heap} {X : Type} {VB : X → Bool} {HH : X → Heap} {I : X → Prop} (hst : rec.state = .ready) (hps : rec.params = #[p]) (hfr : Fr N e { tmps := rec.tmps, defers := [] }) (hp : Nat.blt p N = true)
    (h : SpcM (some l) [] P N Be rec.assign (asgQ P N Be l rec w0 VB HH I) ((p, true, v) :: e) w0 ((l, .loop rec) :: R)) (w : World) (hh : Hp Be w0 ((l, .loop rec) :: R) w) :
    YieldAt Fence.wide 0 P l #[v] w (RetX Be w0 (fun x => .bool (VB x)) HH I) := by
  have hl := hh.own _ (.head _)
  have hp' : p < N := by simpa [Nat.blt_eq] using hp
  have hy := run_yield (P := P) (args := #[v]) hl (by rw [hps]; rfl)
  have ht : (rec.params.zip #[v]).foldl (fun tmps (t, a) => tmps.setIfInBounds t a) rec.tmps = rec.tmps.setIfInBounds p v := by rw [hps]; simp
  rw [ht] at hy
  refine ⟨_, _, _, _, hy, roundIn_of_wpIn trivial ?_⟩
  have h1 := h { tmps := rec.tmps.setIfInBounds p v, defers := [] } w (hfr.puttrue hp') hh
  rw [wd_nil] at h1
  refine wpIn_mono (F := fenceAt (some l)) h1 ?_
  rintro x a1 w1 ⟨e1, w1', H1, hf1, hh1, hq⟩
  cases x <;> first | exact hq.elim | skip
  obtain ⟨rfl, hD, R1, hperm, hbody⟩ := hq
  have hh2 := hh1.perm hperm
  have hl2 := hh2.own _ (.head _)
  refine ⟨_, run_beginRound hl2 hst, ?_⟩
  have hh3 := hh2.putObj (o' := .loop { rec with state := .busy }) Upd.here
  have h2 := hbody { a1 with defers := [] } _ hf1 hh3
  have ha : wd { a1 with defers := [] } [] = a1 := by cases a1; simp_all [wd]
  rw [ha] at h2
  refine wpIn_mono (F := fenceAt (some l)) h2 ?_
  rintro x a2 w2 ⟨e2, w2', H2, hf2, hh4, hq⟩
  cases x <;> first | exact hq.elim | skip
  · obtain ⟨rfl, y, R2, hperm2, hI, hV, hk⟩ := hq
    have hh5 := hh4.perm hperm2
    have hl3 := hh5.own _ (.head _)
    refine ⟨_, _, run_endRound none hl3, y, (by show _ = Ending.returned (.bool (VB y)); rw [hV]; rfl), hI, ?_⟩
    exact (hh5.putObj (o' := .loop { rec with state := .ready, pending := none }) Upd.here).sub hk
  · obtain ⟨rfl, y, R2, hperm2, hI, hV, hk⟩ := hq
    have hh5 := hh4.perm hperm2
    have hl3 := hh5.own _ (.head _)
    refine ⟨_, _, run_endRound (some .ret) hl3, y, (by show _ = Ending.returned (.bool (VB y)); rw [hV]; rfl), hI, ?_⟩
    exact (hh5.putObj (o' := .loop { rec with state := .done, pending := some .ret }) Upd.here).sub hk
end rules

section
variable {P : Program} {N Be : Nat} {Q : Post} {e : Env} {w0 : World} {H : Heap} {ops : Array Oper} {rest : List Oper} {op : Op} {ty : TypeId} {pos : String} {after : Array Edge} {d : Nat} {v : Value}
theorem sp_regionI {id : Nat} {l : List Oper} (h : SplI P N Be l.toArray Q l e w0 H) : Spc P N Be (.region id l.toArray false) Q e w0 H :=
  fun a w hf hh => wpIn_wide.1 (wpIn_region_lit (h a w hf hh) : Code.wpIn Fence.wide 0 P _ _ a w)
theorem spi_pure (hN : Nat.blt d N = true) (hx : Ex P Be w0 H true e op ty v) (hnd : noDefer [⟨some d, op, ty, pos, after, none⟩] = true) (k : SplI P N Be ops Q rest ((d, true, v) :: e) w0 H) :
    SplI P N Be ops Q (⟨some d, op, ty, pos, after, none⟩ :: rest) e w0 H := by
  intro a w hf hh
  have hd : d < N := by simpa [Nat.blt_eq] using hN
  refine wpListIn_plain rfl fun K hK => ⟨fun _ _ => trivial, ?_⟩
  rw [Oper.semAt_eq _ _ _ (noDefer_mem hnd (.head _)), hx N a w _ rfl rfl hf hh rfl, Oper.uponIn_value]
  exact hK _ _ (k _ _ (hf.puttrue hd) hh)
theorem spi_of_spl {l : List Oper} (hnd : noDefer l = true) [NoOut Q] (h : Spl P N Be ops Q l e w0 H) : SplI P N Be ops Q l e w0 H := by
  intro a w hf hh
  have := list_in (r := none) (n := 0) (D := []) (Q' := lift N Be Q) NoOut.lift (fun x a w h => by rw [wd_nil]; exact h) l hnd a w (h a w hf hh)
  rwa [wd_nil] at this
/-- A call of yield. -/
theorem spi_yield {c x : Operand} {ts : Array TypeId} {l : Nat} {X : Type} {V : X → Value} {HH : X → Heap} {I : X → Prop} (hN : Nat.blt d N = true) (hcv : Ev true e c (.func (.yield l) #[] #[])) (hx : Ev true e x v)
    (hy : ∀ w, Hp Be w0 H w → YieldAt Fence.wide 0 P l #[v] w (RetX Be w0 V HH I)) (hnd : noDefer rest = true) [NoOut Q] (k : ∀ y, I y → Spl P N Be ops Q rest ((d, true, V y) :: e) w0 (HH y)) :
    SplI P N Be ops Q (⟨some d, .call ⟨.value c, #[x], ts⟩, ty, pos, after, none⟩ :: rest) e w0 H := by
  intro a w hf hh
  have hd : d < N := by simpa [Nat.blt_eq] using hN
  refine wpListIn_plain rfl fun K hK => ⟨fun _ _ => trivial, ?_⟩
  obtain ⟨fn, tmps, assign, body, hrun, hr⟩ := hy w hh
  have hex : (execOp a.eval ⟨some d, .call ⟨.value c, #[x], ts⟩, ty, pos, after, none⟩).run P w = .ok (.round l fn tmps assign body) w := by
    simp only [execOp, resolve, Deferred.ofValue, hcv N a hf rfl, hx N a hf rfl, Sem.run_bind, Sem.run_pure, Result.andThen_ok, List.map_toArray, List.map_cons, List.map_nil]
    have : (invoke (.fn (.yield l) #[]) (#[] ++ #[v])) = Instr.yield l #[v] := rfl
    rw [this]
    exact hrun
  rw [Oper.semAt_eq _ _ _ (by intro c hc; cases hc), hex, Oper.uponIn_round]
  refine ⟨fun h => (by cases h), hr.mono ?_⟩
  rintro en w' ⟨y, rfl, hI, hp⟩
  exact hK _ _ (spi_of_spl hnd (k y hI) _ _ (hf.puttrue hd) hp)
end
end Go.Sy
/-
  Contracts: game.after, board.moves.
-/
namespace Go.Proofs.Ytoogicafefennaa
set_option linter.unusedVariables false
open Go.RowKit Go.Sy
set_option linter.unusedVariables false
set_option linter.unusedSimpArgs false
def chV : Option Nat → Int
  | none => -1
  | some i => (i : Int)
section
variable {P : Program} {Be : Nat} {w0 : World} {H : Heap} {G : Bool} {e : Env} {ty : TypeId}
theorem ex_indexAddrK {t el : TypeId} {x y : Operand} {k : IntKind} {g off n sz : Nat} {i j : Nat} (h : Ev G e x (.pointer (some ⟨g, off, none⟩))) (h2 : Ev G e y (.int k (i : Int))) (hi : i < n) [ht : TArray P t n el] [hs : TSize P el sz] (hj : off + i * sz = j) : Ex P Be w0 H G e (.indexAddr t x y) ty (.pointer (some ⟨g, j, none⟩)) :=
  ex_indexAddrJ hj h h2 hi
end
attribute [local irreducible] Calls thenQ blockQ retQ jumpQ Spc Spl Spq Ex Ev Evs Gd Upd ESub HKeep Res Res1 wlk effQ Rem SrcAt Split GS.C
set_option maxRecDepth 100000 in
set_option maxHeartbeats 4000000 in
theorem after_c {w : World} {G : GP} {s : GS} {c : Option Nat} (hG : G.Ok) (h : s.In G) (ht : s.turn < G.deps.length) (hc : ∀ v, c = some v → v < 6 ∧ 0 < sAt s v) :
    Calls Try.prog 70 #[.agg s.C, .int .i64 (chV c)] w (Ret w (.agg (choS s c).C)) := by
  have hn := hG.n
  have hW := waitS_in hG h ht
  have hs0 : s.C[0]? = some (.int .i64 (s.turn : Int)) := GS.c0
  have hset : s.C.setIfInBounds 0 (.int .i64 ((s.turn + 1 : Nat) : Int)) = (waitS s).C := GS.s0 _
  have hz0 : s.C.size = 14 := GS.size h.ok
  have hz1 : (waitS s).C.size = 14 := GS.size hW.ok
  have hlt : 0 < s.C.size := by omega
  have hadd : (s.turn : Int) + 1 = ((s.turn + 1 : Nat) : Int) := by omega
  refine sp_enter (vs := [_, _]) Try.func70 rfl Try.ntmps70 rfl ?_
  cases c with
  | none =>
    have hq : ¬ (0 : Int) ≤ -1 := by decide
    rw [show choS s none = waitS s from rfl, show chV none = -1 from rfl]
    repeat (first|(apply sp_cond_f;(·exact eT rfl);(·rfl))|(apply spl_store1E hset;(·exact eT rfl);(·exact eT rfl);(·rfl);(·(repeat (first|exact Upd.here|apply Upd.there)));(·exact hlt))|apply then_n|apply sp_seq|apply sp_region|apply spl_nil|apply sp_skip|apply sp_ret|((apply spl_pure rfl);(·(first|(apply ex_addK hadd;(·exact eT rfl);(·exact eC);(·(constructor<;>omega)))|(apply ex_geqF hq;(·exact eT rfl);(·exact eC))|((first|apply ex_move|apply ex_fieldAddr')<;>(exact eT rfl))|((apply ex_loadown)<;>(first|exact eT rfl|exact Bk.own InH.mem|assumption))|((apply ex_loadowns)<;>(first|exact eT rfl|exact Bk.own InH.mem|(assumption))))))|(apply spl_box;(·exact eT rfl);(·rfl);intro _ _)|(apply spl_alloc rfl;intro _ _)|(apply spl_stores;(·exact eT rfl);(·exact eT rfl);(·(repeat (exact Upd.here)));(·(rfl));(·(assumption));(·exact Ones.one)))
    (apply ret_ok rfl;(·((apply Res.ofOne;((apply Res1.cell;(·rfl);(·exact InH.mem);(·(assumption)))))))); rfl
  | some v =>
    obtain ⟨hv, hp⟩ := hc v rfl
    have hq : (0 : Int) ≤ (v : Int) := by omega
    have hW2 := stepS_in hG h ht hv
    have hs1 : (waitS s).C[1 + v]? = some (.int .i64 (sAt s v : Int)) := GS.c1 hW.ok hv
    have hset2 : (waitS s).C.setIfInBounds (1 + v) (.int .i64 ((sAt s v - 1 : Nat) : Int)) = (stepS s v).C := GS.s1 hW.ok hv _
    have hlt2 : 1 + v < (waitS s).C.size := by omega
    have hz2 : (stepS s v).C.size = 14 := GS.size hW2.ok
    have hsub : (sAt s v : Int) - 1 = ((sAt s v - 1 : Nat) : Int) := by omega
    have hsb := sAt_lt h.ok v
    rw [show choS s (some v) = stepS s v from rfl, show chV (some v) = (v : Int) from rfl]
    repeat (first|(apply sp_cond_t;(·exact eT rfl);(·rfl))|(apply spl_store1E hset;(·exact eT rfl);(·exact eT rfl);(·rfl);(·(repeat (first|exact Upd.here|apply Upd.there)));(·exact hlt))|(apply spl_store1E hset2;(·exact eT rfl);(·exact eT rfl);(·rfl);(·(repeat (first|exact Upd.here|apply Upd.there)));(·exact hlt2))|apply then_n|apply sp_seq|apply sp_region|apply spl_nil|apply sp_ret|((apply spl_pure rfl);(·(first|(apply ex_addK hadd;(·exact eT rfl);(·exact eC);(·(constructor<;>omega)))|(apply ex_geqT hq;(·exact eT rfl);(·exact eC))|(apply ex_indexAddrK (j:=1+v);(·exact eT rfl);(·exact eT rfl);(·exact hv);(·omega))|(apply ex_subE hsub;(·exact eT rfl);(·exact eC);(·(constructor<;>omega)))|((first|apply ex_move|apply ex_fieldAddr')<;>(exact eT rfl))|((apply ex_loadown)<;>(first|exact eT rfl|exact Bk.own InH.mem|assumption))|((apply ex_loadowns)<;>(first|exact eT rfl|exact Bk.own InH.mem|(assumption))))))|(apply spl_box;(·exact eT rfl);(·rfl);intro _ _)|(apply spl_alloc rfl;intro _ _)|(apply spl_stores;(·exact eT rfl);(·exact eT rfl);(·(repeat (exact Upd.here)));(·(rfl));(·(assumption));(·exact Ones.one)))
    (apply ret_ok rfl;(·((apply Res.ofOne;((apply Res1.cell;(·rfl);(·exact InH.mem);(·(assumption)))))))); rfl
/-- A board. -/
structure BR where
  sl : Sl
  dl : Sl
  bd : Int
  gm : Nat
def BR.C (b : BR) : Array Value := #[.slice b.sl.a b.sl.n b.sl.c, .slice b.dl.a b.dl.n b.dl.c, .int .i64 b.bd, .map (some b.gm)]
instance BR.one (b : BR) : Ones b.C := ⟨by intro v hv; simp [BR.C] at hv; rcases hv with h | h | h | h <;> subst h <;> rfl⟩
set_option maxRecDepth 100000 in
set_option maxHeartbeats 4000000 in
theorem moves_c {w : World} {s : GS} {b : BR} : Calls Try.prog 66 #[.agg b.C, .agg s.C] w
    (RetH w (fun y : Nat × Nat => .func (.func 93) #[] #[.pointer (some ⟨y.1, 0, none⟩), .pointer (some ⟨y.2, 0, none⟩)]) (fun y => [(y.1, .cells s.C 82 (0, 0)), (y.2, .cells b.C 78 (0, 0))]) (fun _ => True)) := by
  refine sp_enter (vs := [_, _]) Try.func66 rfl Try.ntmps66 rfl ?_
  repeat (first|apply then_n|apply sp_seq|apply sp_region|apply spl_nil|apply sp_ret|((apply spl_pure rfl);(·(first|(apply ex_assign<;>(first|exact eT rfl|exact eC))|(apply ex_makeFunc<;>(((repeat (first|exact eN|(apply eS;(·exact eT rfl))));done))))))|(apply spl_box;(·exact eT rfl);(·rfl);intro _ _))
  rename_i g1 hg1 g2 hg2
  (apply retH_ok rfl;(·((apply Res.ofOne;((apply Res1.tmp;(·rfl)))))))
  exact ⟨(g2, g1), rfl, trivial, by (repeat (exact HKeep.refl))⟩
end Go.Proofs.Ytoogicafefennaa
/-
  Contracts: the iterator of moves.
-/
namespace Go.Proofs.Ytoogicafefennaa
set_option linter.unusedVariables false
open Go.RowKit Go.Sy
set_option linter.unusedVariables false
set_option linter.unusedSimpArgs false
theorem moves_at {m : Nat} {s : GS} {i : Nat} (hi : i < m) (hb : s.budget ≠ 0) (hf : gt s.failed i = false) : (movesL m s)[1 + ((List.range i).filter fun i => !gt s.failed i).length]? = some (failS s i) := by
  unfold movesL
  rw [Nat.add_comm, List.getElem?_cons_succ, if_neg hb, List.getElem?_map]
  have key : ∀ (n : Nat), i < n → ((List.range n).filter fun i => !gt s.failed i)[((List.range i).filter fun i => !gt s.failed i).length]? = some i := by
    intro n
    induction n with
    | zero => intro h; omega
    | succ n ih =>
      intro h
      rw [List.range_succ, List.filter_append]
      rcases Nat.lt_or_ge i n with q | q
      · have := ih q
        rw [List.getElem?_append_left (List.getElem?_eq_some_iff.1 this).1]
        exact this
      · obtain rfl : i = n := by omega
        rw [List.getElem?_append_right (Nat.le_refl _), Nat.sub_self, List.filter_cons, hf]
        all_goals rfl
  rw [key m hi]
  all_goals rfl
theorem moves_len {m : Nat} {s : GS} : (movesL m s).length = if s.budget = 0 then 1 else 1 + ((List.range m).filter fun i => !gt s.failed i).length := by
  unfold movesL
  split
  · rfl
  · rw [List.length_cons, List.length_map]; omega
attribute [local irreducible] Calls thenQ blockQ retQ jumpQ Spc Spl Spq Ex Ev Evs Gd Upd ESub HKeep Res Res1 wlk effQ Rem SrcAt Split GS.C SplI YieldAt movesL
set_option maxRecDepth 100000 in
set_option maxHeartbeats 8000000 in
theorem iter_c {Be : Nat} {w0 : World} {l : Nat} {G : GP} {s : GS} {b : BR} {J : Nat → Heap → Prop} {gs gb : Nat} (hG : G.Ok) (h : s.In G) (hbn : b.sl.n = G.m)
    (hY : ∀ i x H R, J i H → (movesL G.m s)[i]? = some x → ∀ w, Hp Be w0 (H ++ R) w → YieldAt Fence.wide 0 Try.prog l #[.agg x.C] w (RetX Be w0 (fun _ : Heap => .bool true) (fun y => y ++ R) (fun y => J (i + 1) y)))
    {H : Heap} (hJ : J 0 H) {w : World} (hh : Hp Be w0 (H ++ [(gs, .cells s.C 82 (0, 0)), (gb, .cells b.C 78 (0, 0))]) w) :
    Calls Try.prog 93 #[.func (.yield l) #[] #[], .pointer (some ⟨gs, 0, none⟩), .pointer (some ⟨gb, 0, none⟩)] w (RetX Be w0 (fun _ : GS × Heap => .tuple #[]) (fun x => x.2 ++ [(gs, .cells x.1.C 82 (0, 0)), (gb, .cells b.C 78 (0, 0))]) (fun x => J (movesL G.m s).length x.2)) := by
  have hm := hG.m
  have hs3 : s.C[13]? = some (.int .i64 (s.budget : Int)) := GS.c3 h.ok
  have hz0 : s.C.size = 14 := GS.size h.ok
  have hbb := h.ok.b
  have hm0 : (movesL G.m s)[0]? = some s := by unfold movesL; rfl
  have hY0 := fun R => hY 0 s H R hJ hm0
  refine sp_enterM (vs := [_, _, _]) Try.func93 rfl Try.ntmps93 rfl hh ?_
  by_cases hb0 : s.budget = 0
  · have hz : (s.budget : Int) = 0 := by omega
    have hfin : (movesL G.m s).length = 1 := by rw [moves_len, if_pos hb0]
    rw [hfin]
    repeat (first|(apply sp_regionI (id:=0))|(apply spi_pure rfl;(·(first|((apply ex_move)<;>(exact eT rfl))|((apply ex_loadowns)<;>(first|exact eT rfl|exact Bk.own InH.mem|(assumption)))));(·rfl))|(apply spi_yield rfl;(·exact eT rfl);(·exact eT rfl);(·exact hY0 _);(·rfl);(intro H1 hJ1))|(apply sp_cond_t;(·exact eT rfl);(·rfl))|apply then_n|apply sp_seq|apply spl_nil|apply then_r|apply sp_ret|((first|apply spl_pure rfl|(apply spl_pure_g rfl;(·exact Gd.tf rfl rfl)));(·(first|(apply ex_eqlT hz;(·exact eT rfl);(·exact eC))|((first|apply ex_move|apply ex_fieldAddr'|apply ex_not)<;>(exact eT rfl))|((apply ex_orT)<;>(exact eT rfl))|((apply ex_loadown)<;>(first|exact eT rfl|exact Bk.own InH.mem|assumption))))))
    (apply retX_ok rfl;(·exact Res.none_))
    exact ⟨(s, H1), rfl, hJ1, by (repeat (exact HKeep.refl))⟩
  · have hz : (s.budget : Int) ≠ 0 := by omega
    have hfin : (movesL G.m s).length = 1 + ((List.range G.m).filter fun i => !gt s.failed i).length := by rw [moves_len, if_neg hb0]
    rw [hfin]
    obtain ⟨s1, hs1⟩ : ∃ s1 : GS, s1 = { s with budget := s.budget - 1 } := ⟨_, rfl⟩
    have hset : s.C.setIfInBounds 13 (.int .i64 ((s.budget - 1 : Nat) : Int)) = s1.C := by rw [hs1]; exact GS.s3 h.ok _
    have hok1 : s1.Ok := by rw [hs1]; exact ⟨h.ok.t, by show s.budget - 1 < _; omega, h.ok.l1, h.ok.l2, h.ok.sb⟩
    have hz1 : s1.C.size = 14 := GS.size hok1
    have hl13 : 13 < s.C.size := by omega
    have hsub : (s.budget : Int) - 1 = ((s.budget - 1 : Nat) : Int) := by omega
    have hlen : b.C[0]? = some (.slice b.sl.a G.m b.sl.c) := by rw [← hbn]; rfl
    have hfl : s1.failed = s.failed := by rw [hs1]
    have hfail : ∀ i, { s1 with failed := s1.failed.set i true } = failS s i := fun i => by rw [hs1]; rfl
    repeat (first|(apply sp_regionI (id:=0))|(apply spi_pure rfl;(·(first|((apply ex_move)<;>(exact eT rfl))|((apply ex_loadowns)<;>(first|exact eT rfl|exact Bk.own InH.mem|(assumption)))));(·rfl))|(apply spi_yield rfl;(·exact eT rfl);(·exact eT rfl);(·exact hY0 _);(·rfl);(intro H1 hJ1))|(apply sp_cond_f;(·exact eT rfl);(·rfl))|(apply spl_store1E hset;(·exact eT rfl);(·exact eT rfl);(·rfl);(·(repeat (first|exact Upd.here|apply Upd.app)));(·exact hl13))|apply then_n|apply sp_seq|apply sp_region|apply spl_nil|apply sp_skip|apply sp_block|((first|apply spl_pure rfl|(apply spl_pure_g rfl;(·exact Gd.tf rfl rfl)));(·(first|(apply ex_eqlF hz;(·exact eT rfl);(·exact eC))|(apply ex_subE hsub;(·exact eT rfl);(·exact eC);(·(constructor<;>omega)))|(apply ex_loadown;(·exact eT rfl);(·exact Bk.own InH.mem);(·exact hlen))|((first|apply ex_move|apply ex_fieldAddr'|apply ex_not|apply ex_len)<;>(first|exact eT rfl|exact eC))|((apply ex_orT)<;>(exact eT rfl))|((apply ex_loadown)<;>(first|exact eT rfl|exact Bk.own InH.mem|assumption))))))
    refine sp_loop (X := Nat × Heap) (fun y => [(23, true, .int .i64 (y.1 : Int)), (22, true, .int .i64 (G.m : Int)), (0, true, .func (.yield l) #[] #[]), (1, true, .pointer (some ⟨gs, 0, none⟩)), (2, true, .pointer (some ⟨gb, 0, none⟩))]) (fun _ => w0)
      (fun y => y.2 ++ [(gs, .cells s1.C 82 (0, 0)), (gb, .cells b.C 78 (0, 0))]) (fun y => y.1 ≤ G.m ∧ J (1 + ((List.range y.1).filter fun i => !gt s.failed i).length) y.2) (fun y => G.m - y.1) (0, H1) ⟨Nat.zero_le _, hJ1⟩ (by (repeat (first|exact ESub.nil|apply ESub.cons rfl))) rfl (by (repeat (exact HKeep.refl))) ?_
    clear hJ hJ1 hh hY0
    rintro ⟨i, H2⟩ ⟨hi, hJ2⟩
    replace hi : i ≤ G.m := hi
    replace hJ2 : J (1 + ((List.range i).filter fun i => !gt s.failed i).length) H2 := hJ2
    dsimp only
    by_cases hlt : i < G.m
    · have hi6 : i < 6 := by omega
      have hfi : s1.C[7 + i]? = some (.bool (gt s.failed i)) := by rw [← hfl]; exact GS.c2 hok1 hi6
      cases hf : gt s.failed i with
      | true =>
        rw [hf] at hfi
        have hcn := filter_snoc_f (p := fun i => !gt s.failed i) (i := i) (by rw [hf]; rfl)
        repeat (first|(apply sp_cond_t;(·exact eT rfl);(·rfl))|apply then_n|apply sp_seq|apply sp_region|apply spl_nil|apply then_e|apply block_here|((apply sp_cond_t);(·exact eT rfl);(·(exact decide_eq_true (by omega))))|apply sp_skip|apply sp_exit|apply sp_block|((apply spl_pure rfl);(·(first|(apply ex_indexAddrK (j:=7+i);(·exact eT rfl);(·exact eT rfl);(·exact hi6);(·omega))|((first|apply ex_move|apply ex_assign|apply ex_fieldAddr'|apply ex_lss)<;>(exact eT rfl))|((apply ex_addn)<;>(first|exact eT rfl|exact eC|(constructor<;>omega)))|((apply ex_loadown)<;>(first|exact eT rfl|exact Bk.own InH.mem|assumption))))))
        exact ⟨(i + 1, H2), ⟨hlt, by rw [hcn]; exact hJ2⟩, by (show G.m - (i + 1) < G.m - i; omega), (by (repeat (first|exact ESub.nil|apply ESub.cons rfl))), rfl, (by (repeat (exact HKeep.refl)))⟩
      | false =>
        rw [hf] at hfi
        have hcn := filter_snoc_t (p := fun i => !gt s.failed i) (i := i) (by rw [hf]; rfl)
        have hst : s1.C.setIfInBounds (7 + i) (.bool true) = (failS s i).C := by rw [← hfail i]; exact GS.s2 hok1 hi6 true
        have hl7 : 7 + i < s1.C.size := by omega
        have hz2 : (failS s i).C.size = 14 := GS.size (failS_ok h.ok i)
        have hat := moves_at (m := G.m) hlt hb0 hf
        have hY2 := fun R => hY _ (failS s i) H2 R hJ2 hat
        repeat (first|(apply sp_regionI (id:=8))|(apply spi_pure rfl;(·(first|((apply ex_move)<;>(exact eT rfl))|((apply ex_loadowns)<;>(first|exact eT rfl|exact Bk.own InH.mem|(assumption)))));(·rfl))|(apply spi_yield rfl;(·exact eT rfl);(·exact eT rfl);(·exact fun w' hh => hY2 _ w' (hh.perm List.perm_middle.symm));(·rfl);(intro H3 hJ3))|(apply sp_cond_f;(·exact eT rfl);(·rfl))|(apply spl_alloc rfl;intro gn hgn)|(apply spl_store1E hst;(·exact eT rfl);(·exact eC);(·rfl);(·(repeat (exact Upd.here)));(·exact hl7))|apply then_n|apply block_n|apply sp_seq|apply sp_region|apply spl_nil|((apply sp_cond_t);(·exact eT rfl);(·(exact decide_eq_true (by omega))))|apply sp_skip|apply sp_block|((apply spl_pure rfl);(·(first|(apply ex_indexAddrK (j:=7+i);(·exact eT rfl);(·exact eT rfl);(·exact hi6);(·omega))|((first|apply ex_move|apply ex_assign|apply ex_fieldAddr'|apply ex_not|apply ex_lss)<;>(exact eT rfl))|((apply ex_addn)<;>(first|exact eT rfl|exact eC|(constructor<;>omega)))|((apply ex_loadown)<;>(first|exact eT rfl|exact Bk.own InH.mem|assumption))|((apply ex_loadowns)<;>(first|exact eT rfl|exact Bk.own InH.mem|(assumption))))))|(apply spl_stores;(·exact eT rfl);(·exact eT rfl);(·(repeat (exact Upd.here)));(·(rfl));(·(assumption));(·exact Ones.one)))
        exact ⟨(i + 1, H3), ⟨hlt, by rw [hcn, List.length_append, ← Nat.add_assoc]; exact hJ3⟩, by (show G.m - (i + 1) < G.m - i; omega), (by (repeat (first|exact ESub.nil|apply ESub.cons rfl))), rfl, (by (repeat (first|exact HKeep.refl|(apply HKeep.app;(·(repeat (exact Split.here))))|(apply HKeep.pick;(·(repeat (first|exact Rem.here|apply Rem.there))))|apply HKeep.drop (by first|assumption|omega))))⟩
    · have hie : i = G.m := by omega
      rw [hie] at hJ2 ⊢
      repeat (first|apply then_n|apply sp_seq|apply sp_region|apply spl_nil|apply then_e|apply block_here|(apply sp_cond_f;(·exact eT rfl);(·(exact decide_eq_false (by omega))))|apply sp_exit|((apply spl_pure rfl);(·(((apply ex_lss)<;>(exact eT rfl))))))
      (apply endX_ok rfl;(·exact Res.none_))
      exact ⟨(s1, H2), rfl, hJ2, by (repeat (exact HKeep.refl))⟩
end Go.Proofs.Ytoogicafefennaa
/-
  The value of a game: its parts; a function that ranges over a function and changes blocks.
-/
namespace Go.Proofs.Ytoogicafefennaa
set_option linter.unusedVariables false
open Go.RowKit Go.Sy
set_option linter.unusedVariables false
set_option linter.unusedSimpArgs false
def posV (p : Option Nat × Nat) : Value := .agg #[.int .i64 0, .slice none 0 0, .slice none 0 0, .int .i64 0, .int .i64 (chV p.1), .int .i64 (p.2 : Int)]
/-- What is known is right. -/
def KI (G : GP) (es : List (GK × Value × Nat)) : Prop := ∀ k v, getL k es = some v → k.1.turn < G.deps.length ∧ v = posV (bestF G (G.deps.length - 1 - k.1.turn) k.1)
theorem KI.nil {G : GP} : KI G [] := fun k v h => by cases h
theorem KI.put {G : GP} {es : List (GK × Value × Nat)} {k : GK} {c d : Nat} (h : KI G es) (ht : k.1.turn + d + 1 = G.deps.length) : KI G (putL k (posV (bestF G d k.1)) c es) := fun k' v hv => by
  rw [getL_put] at hv
  split at hv
  · rename_i he
    subst he
    cases hv
    refine ⟨by omega, ?_⟩
    rw [show G.deps.length - 1 - k'.1.turn = d by omega]
  · exact h k' v hv
theorem KI.get {G : GP} {es : List (GK × Value × Nat)} {k : GK} {v : Value} {d : Nat} (h : KI G es) (ht : k.1.turn + d + 1 = G.deps.length) (hg : getL k es = some v) : v = posV (bestF G d k.1) := by
  rw [(h k v hg).2, show G.deps.length - 1 - k.1.turn = d by omega]
section
variable {P : Program} {N Be : Nat} {e : Env} {w0 : World} {H : Heap}
theorem sp_enterDM {f : FuncId} {fn : Func} {c : Code} {vs : List Value} {w : World} {R : Ending → World → Prop} (hf : P.funcs[f]? = some fn) (hb : fn.body = some c) (hN : fn.ntmps = N) (hl : Nat.ble vs.length N = true) (hh : Hp Be w0 H w)
    (h : SpcM none [] P N Be c (markQ P fn Be R) (envOf 0 vs) w0 H) : Calls P f vs.toArray w R := by
  refine callsIn_wide.1 (callsIn_of_wp_marks (F := Fence.wide) (n := 0) hf hb trivial (wpIn_mono (wd_nil _ ▸ h { tmps := vs.toArray ++ Array.replicate (fn.ntmps - vs.toArray.size) undef, defers := [] } w ?_ hh : Code.wpIn Fence.wide 0 P c _ _ w) ?_))
  · have key : ∀ (a : Act) (w' : World) (e : Env) (w0 : World) (H : Heap), Fr N e { a with defers := [] } → Hp Be w0 H w' → markQ P fn Be R a.defers .ret e w0 H → LeavesInM Fence.wide 0 P fn a.tmps R a.defers .returning w' := by
      intro a w' e w0 H h1 h2 h3
      rcases h3 with ⟨hd, v, hv, hR⟩ | ⟨d0, H', v, hd, hu, hv, hR⟩
      · rw [hd]
        exact ⟨v, hv _ { a with defers := [] } _ fn rfl h1 h2, hR w' h2⟩
      · rw [hd]
        have hg : w'.heap[d0]? = some (.deferred (some [])) := h2.own _ hu.mem
        have h4 := h2.putObj hu
        exact ⟨by simp, .inl ⟨d0, _, rfl, run_takeDeferred hg, v, hv _ { a with defers := [] } _ fn rfl h1 h4, hR _ h4⟩⟩
    rintro x a w' ⟨e, w0, H, h1, h2, h3⟩
    cases x with
    | normal => exact key a w' e w0 H h1 h2 h3
    | ret => exact key a w' e w0 H h1 h2 h3
    | exit _ => exact h3.elim
    | goto _ => exact h3.elim
    | panic _ => exact h3.elim
    | outgrown => exact h3.elim
  · have hl' : vs.length ≤ N := Nat.le_of_ble_eq_true hl
    refine ⟨rfl, by simp [hN]; omega, fun k g v hk => ?_⟩
    obtain ⟨rfl, _, h3⟩ := look_envOf vs 0 k g v hk
    simp only [Nat.sub_zero] at h3
    have hk : k < vs.length := (List.getElem?_eq_some_iff.1 h3).1
    simp [Array.getElem?_append, hk, gv]
    have := (List.getElem?_eq_some_iff.1 h3).2
    simpa using this
theorem markX_none {fn : Func} {rs : Array ResultVar} {v : Value} {X : Type} {V : X → Value} {HH : X → Heap} {I : X → Prop} (hr : fn.results = rs) (h : Res rs P Be e w0 H v) (hv : ∃ x, v = V x ∧ I x ∧ HKeep w0 (HH x) H) : markQ P fn Be (RetX Be w0 V HH I) [] .ret e w0 H := by
  subst hr
  obtain ⟨x, rfl, hI, hk⟩ := hv
  exact .inl ⟨rfl, _, h, fun w' hh => ⟨x, rfl, hI, hh.sub hk⟩⟩
theorem markX_one {fn : Func} {rs : Array ResultVar} {v : Value} {d0 : Nat} {H' : Heap} {X : Type} {V : X → Value} {HH : X → Heap} {I : X → Prop} (hr : fn.results = rs) (hu : Upd H d0 (.deferred (some [])) (.deferred none) H') (h : Res rs P Be e w0 H' v) (hv : ∃ x, v = V x ∧ I x ∧ HKeep w0 (HH x) H') : markQ P fn Be (RetX Be w0 V HH I) [{ target := .collected d0, args := #[] }] .ret e w0 H := by
  subst hr
  obtain ⟨x, rfl, hI, hk⟩ := hv
  exact .inr ⟨d0, H', _, rfl, hu, h, fun w' hh => ⟨x, rfl, hI, hh.sub hk⟩⟩
end
/-- The largest so far. -/
def mostN (G : GP) (d : Nat) (l : List GS) (i : Nat) : Nat := (l.take i).foldl (fun most x => max most (bestF G d x).2) 0
theorem mostN_succ {G : GP} {d i : Nat} {l : List GS} {x : GS} (h : l[i]? = some x) : mostN G d l (i + 1) = max (mostN G d l i) (bestF G d x).2 := by
  unfold mostN
  rw [take_succ h, List.foldl_append]; rfl
theorem mostN_all {G : GP} {d : Nat} {s : GS} : mostN G d (movesL G.m s) (movesL G.m s).length = worstF G (d + 1) s := by
  unfold mostN
  rw [List.take_length, worstF_succ]
/-! Values are not great. -/
theorem fold_le {α : Type} {f : Nat → α → Nat} {b : Nat} : ∀ (l : List α) (a : Nat), a ≤ b → (∀ m, m ≤ b → ∀ x ∈ l, f m x ≤ b) → l.foldl f a ≤ b
  | [], a, h, _ => h
  | x :: r, a, h, hf => by
    rw [List.foldl_cons]
    exact fold_le r _ (hf a h x (.head _)) fun m hm y hy => hf m hm y (.tail _ hy)
theorem take_le {f : Nat → Nat} {b : Nat} : ∀ (l : List Nat) (out : Option Nat × Nat), out.2 ≤ b → (l.foldl (takeB f) out).2 ≤ b
  | [], out, h => h
  | v :: r, out, h => by
    rw [List.foldl_cons]
    refine take_le r _ ?_
    unfold takeB
    split
    · rename_i hq
      show f v ≤ b
      omega
    · exact h
theorem worst_le (G : GP) : ∀ (d : Nat) (s : GS), worstF G d s ≤ d
  | 0, s => Nat.le_refl 0
  | d + 1, s => by
    rw [worstF_succ]
    refine fold_le _ _ (Nat.zero_le _) fun m hm x _ => ?_
    have : (bestF G d x).2 ≤ d + 1 := take_le _ _ (by
      show 1 + worstF G d (waitS x) ≤ d + 1
      have := worst_le G d (waitS x)
      omega)
    omega
theorem best_le (G : GP) (d : Nat) (x : GS) : (bestF G d x).2 ≤ d + 1 := take_le _ _ (by
  show 1 + worstF G d (waitS x) ≤ d + 1
  have := worst_le G d (waitS x)
  omega)
/-- A game in memory. -/
structure RdGame (w : World) (Be : Nat) (G : GP) (b : BR) (ds : List (Sl × List Nat)) : Prop where
  m : b.sl.n = G.m
  n : b.dl.n = G.deps.length
  deps : G.deps = ds.map Prod.snd
  rows : RdS w Be 1 (fun x : Sl × List Nat => #[.slice x.1.a x.1.n x.1.c]) b.dl.a b.dl.n ds
  row : ∀ x ∈ ds, RdS w Be 1 natC x.1.a x.1.n x.2
end Go.Proofs.Ytoogicafefennaa
/-
  The value of a game: board.worst.
-/
namespace Go.Proofs.Ytoogicafefennaa
set_option linter.unusedVariables false
open Go.RowKit Go.Sy
set_option linter.unusedVariables false
set_option linter.unusedSimpArgs false
section
variable {P : Program} {Be : Nat} {w0 : World} {H : Heap} {G : Bool} {e : Env} {ty : TypeId}
theorem ex_maxN {x y : Operand} {ts : Array TypeId} {k : IntKind} {a b : Nat} (h1 : Ev G e x (.int k (a : Int))) (h2 : Ev G e y (.int k (b : Int))) : Ex P Be w0 H G e (.call ⟨.builtin .max, #[x, y], ts⟩) ty (.int k ((max a b : Nat) : Int)) := by
  have h := ex_max (P := P) (Be := Be) (w0 := w0) (H := H) (ty := ty) (ts := ts) h1 h2
  rwa [show (if (b : Int) > (a : Int) then (b : Int) else (a : Int)) = ((max a b : Nat) : Int) by split <;> omega] at h
/-- A field of a record that is held by value. -/
theorem ex_field {t ft : TypeId} {x : Operand} {i off : Nat} {cs : Array Value} {v : Value} (h : Ev G e x (.agg cs)) [hf : TField P t i off ft] [hc : TCell P ft] (hv : cs[off]? = some v) : Ex P Be w0 H G e (.field t x i) ty v := by
  intro N a w o ho _ hfr hh hG
  have hp : (part ft cs off).run P w = .ok v w := by
    simp [part, TCell.run w (P := P) (t := ft), hv]
  have hrun : (Instr.field t (.agg cs) i).run P w = .ok v w := by
    have := hf.field
    cases hu : P.underlying t with
    | none => rw [hu] at this; cases this
    | some d =>
      rw [hu] at this
      cases d <;> first | cases this | skip
      rename_i fs
      simp only at this
      cases hf2 : fs[i]? with
      | none => rw [hf2] at this; cases this
      | some f =>
        rw [hf2] at this
        simp only [Bool.and_eq_true, decide_eq_true_eq] at this
        obtain ⟨⟨h1, h2⟩, h3⟩ := this
        simp only [Instr.field, Sem.run_bind, run_underlying hu, Result.andThen_ok, hf2, asAgg, Sem.run_pure, h1, h2, hp]
  simp only [execOp, ho, h N a hfr hG, Sem.run_bind, hrun, Result.andThen_ok, Sem.run_pure]
end
def rangeW (f : Func) : Code × Code := match f.body with | some (.seq _ (.seq _ (.seq (.seq _ (.cond _ (.seq _ (.block _ (.rangeFunc _ _ a b))) _)) _))) => (a, b) | _ => (.skip, .skip)
def WC (w0 : World) (G : GP) (b : BR) (d : Nat) : Prop := ∀ (s : GS) (es : List (GK × Value × Nat)) (ck : Nat) (R : Heap) (w : World), s.In G → s.turn + d = G.deps.length → KI G es → Hp w0.heap.size w0 ((b.gm, mobj gkV es ck) :: R) w →
  Calls Try.prog 44 #[.agg b.C, .agg s.C] w (RetX w0.heap.size w0 (fun _ : List (GK × Value × Nat) × Nat => .int .i64 ((worstF G d s : Nat) : Int)) (fun x => (b.gm, mobj gkV x.1 x.2) :: R) (fun x => KI G x.1))
def BC (w0 : World) (G : GP) (b : BR) (d : Nat) : Prop := ∀ (s : GS) (es : List (GK × Value × Nat)) (ck : Nat) (R : Heap) (w : World), s.In G → s.turn + d + 1 = G.deps.length → KI G es → Hp w0.heap.size w0 ((b.gm, mobj gkV es ck) :: R) w →
  Calls Try.prog 67 #[.agg b.C, .agg s.C] w (RetX w0.heap.size w0 (fun _ : List (GK × Value × Nat) × Nat => posV (bestF G d s)) (fun x => (b.gm, mobj gkV x.1 x.2) :: R) (fun x => KI G x.1))
attribute [local irreducible] Calls thenQ blockQ retQ jumpQ Spc Spl Spq Ex Ev Evs Gd Upd ESub HKeep Res Res1 wlk effQ Rem SrcAt Split GS.C SplI SpcM YieldAt movesL mobj worstF bestF mostN markQ rndQ asgQ
set_option maxRecDepth 100000 in
set_option maxHeartbeats 4000000 in
theorem worst_round {w0 : World} {G : GP} {b : BR} {d : Nat} {s x : GS} (hB : BC w0 G b d) (hgm : w0.heap.size ≤ b.gm) (hx : x.In G) (ht : x.turn + d + 1 = G.deps.length) {l d0 gM gS gB most : Nat} {fn : FuncId} {tmps : Array Value} {es : List (GK × Value × Nat)} {ck : Nat} {R R' : Heap} (hK : KI G es)
    {rec : Loop} (hrec : rec = { state := .ready, pending := none, fn, tmps, params := #[17], assign := (rangeW Try.f44).1, body := (rangeW Try.f44).2, defers := d0 }) :
    SpcM (some l) [] Try.prog 25 w0.heap.size (rangeW Try.f44).1 (asgQ Try.prog 25 w0.heap.size l rec w0 (fun _ : Heap => true) (fun y => y ++ R')
      (fun y => ∃ es ck, KI G es ∧ y = (l, .loop rec) :: (d0, .deferred (some [])) :: (gM, .cells #[.int .i64 ((max most (bestF G d x).2 : Nat) : Int)] 3 (0, 0)) :: (gS, .cells s.C 82 (0, 0)) :: (gB, .cells b.C 78 (0, 0)) :: (b.gm, mobj gkV es ck) :: R))
      ((17, true, .agg x.C) :: [(2, true, .pointer (some ⟨gB, 0, none⟩)), (3, true, .pointer (some ⟨gS, 0, none⟩)), (5, true, .pointer (some ⟨gM, 0, none⟩))]) w0 ((l, .loop rec) :: (d0, .deferred (some [])) :: (gM, .cells #[.int .i64 (most : Int)] 3 (0, 0)) :: (gS, .cells s.C 82 (0, 0)) :: (gB, .cells b.C 78 (0, 0)) :: (b.gm, mobj gkV es ck) :: (R ++ R')) := by
  have hz : x.C.size = 14 := GS.size hx.ok
  repeat (first|apply spm_region rfl|apply spl_nil|(apply spl_alloc rfl;intro _ _)|(apply spl_stores;(·exact eT rfl);(·exact eT rfl);(·(repeat (exact Upd.here)));(·(rfl));(·(assumption));(·exact Ones.one)))
  rename_i g6 hg6
  refine asg_n ((g6, .cells x.C 82 (0, 0)) :: (d0, .deferred (some [])) :: (gM, .cells #[.int .i64 (most : Int)] 3 (0, 0)) :: (gS, .cells s.C 82 (0, 0)) :: (gB, .cells b.C 78 (0, 0)) :: (b.gm, mobj gkV es ck) :: (R ++ R')) (List.Perm.swap _ _ _) ?_
  subst hrec
  dsimp only
  repeat (apply spm_block)
  refine spm_drawn [(0, true), (1, true), (2, true), (3, false), (4, true), (5, true), (6, false)] 6 _ mixed (by kernel_rfl) rfl (HKeep.keep (HKeep.keep (HKeep.keep (HKeep.keep (HKeep.keep (HKeep.keep (HKeep.drop hgm HKeep.refl))))))) ?_
  have hst : (#[.int .i64 (most : Int)] : Array Value).setIfInBounds 0 (.int .i64 ((max most (bestF G d x).2 : Nat) : Int)) = #[.int .i64 ((max most (bestF G d x).2 : Nat) : Int)] := rfl
  have hl0 : 0 < (#[.int .i64 (most : Int)] : Array Value).size := Nat.one_pos
  repeat (first|(apply spl_callM (X:=List (GK × Value × Nat) × Nat) (V:=fun _ => posV (bestF G d x)) (A:=[(b.gm, mobj gkV es ck)]) (AA:=fun y => [(b.gm, mobj gkV y.1 y.2)]) (I:=fun y => KI G y.1) rfl;(·(repeat (first|exact eN|(apply eS;(·exact eT rfl)))));(·(repeat (first|exact Split.one|apply Split.cons)));(·exact fun w' hh => hB x es ck _ w' hx ht hK hh);(rintro ⟨es2, ck2⟩ hK2;simp only [List.cons_append, List.nil_append]))|(apply spl_store1E hst;(·exact eT rfl);(·exact eT rfl);(·rfl);(·(repeat (first|exact Upd.here|apply Upd.there)));(·exact hl0))|apply block_n|apply spl_nil|((apply wlk_read rfl rfl);(·(first|(apply ex_maxN;(·exact eT rfl);(·exact eT rfl))|(apply ex_field;(·exact eT rfl);(·rfl))|((apply ex_loadown)<;>(first|exact eT rfl|exact Bk.own InH.mem|rfl))|((apply ex_loadowns)<;>(first|exact eT rfl|exact Bk.own InH.mem|(first|rfl|assumption))))))|(apply effq;(·(intro h_;(first|(exact absurd h_ (by decide))|(repeat (first|exact HKeep.refl|(apply HKeep.app;(·(repeat (first|exact Split.here|apply Split.cons))))|(apply HKeep.pick;(·(repeat (first|exact Rem.here|apply Rem.there))))|apply HKeep.drop (by first|assumption|omega)))))))|apply wlk_nil|apply wlk_eff rfl)
  refine rnd_n _ ((l, _) :: (d0, _) :: (gM, _) :: (gS, _) :: (gB, _) :: (b.gm, _) :: R) (List.Perm.swap _ _ _) ⟨es2, ck2, hK2, rfl⟩ rfl ?_
  show HKeep w0 ((l, _) :: (d0, _) :: (gM, _) :: (gS, _) :: (gB, _) :: (b.gm, _) :: (R ++ R')) _
  (repeat (first|exact HKeep.refl|apply HKeep.keep|(apply HKeep.app;(·(repeat (first|exact Split.here|apply Split.cons))))|(apply HKeep.pick;(·(repeat (first|exact Rem.here|apply Rem.there))))|apply HKeep.drop (by first|assumption|omega)))
end Go.Proofs.Ytoogicafefennaa
/-
  The value of a game: board.worst, walked.
-/
namespace Go.Proofs.Ytoogicafefennaa
set_option linter.unusedVariables false
open Go.RowKit Go.Sy
set_option linter.unusedVariables false
set_option linter.unusedSimpArgs false
theorem hkeep_tail {w0 : World} {R D : Heap} (h : ∀ p ∈ D, w0.heap.size ≤ p.1) : HKeep w0 R (R ++ D) := ⟨D, List.perm_append_comm, h⟩
attribute [local irreducible] Calls thenQ blockQ retQ jumpQ Spc Spl Spq Ex Ev Evs Gd Upd ESub HKeep Res Res1 wlk effQ Rem SrcAt Split GS.C SplI SpcM YieldAt movesL mobj worstF bestF mostN markQ rndQ asgQ
set_option maxRecDepth 100000 in
set_option maxHeartbeats 4000000 in
theorem worst_zero {w0 : World} {G : GP} {b : BR} (hn : b.dl.n = G.deps.length) : WC w0 G b 0 := by
  intro s es ck R w hs ht hK hh
  have hs0 : s.C[0]? = some (.int .i64 (s.turn : Int)) := GS.c0
  have hz : s.C.size = 14 := GS.size hs.ok
  have hge : ¬ (s.turn : Int) < (b.dl.n : Int) := by omega
  refine sp_enterDM (vs := [_, _]) Try.func44 rfl Try.ntmps44 rfl hh ?_
  repeat (first|apply spm_skip|apply spm_seq|apply spm_region rfl|apply spm_ret|(apply spm_cond_f;(·exact eT rfl);(·(rfl)))|apply then_n|apply spl_nil|((apply spl_pure rfl);(·(first|(apply ex_lssF hge;(·exact eT rfl);(·exact eT rfl))|((first|apply ex_assign|apply ex_fieldAddr'|apply ex_len)<;>(first|exact eT rfl|exact eC))|(apply ex_loadown<;>(first|exact eT rfl|exact Bk.own InH.mem|rfl|assumption)))))|(apply spl_box;(·exact eT rfl);(·rfl);intro _ _)|(apply spl_alloc rfl;intro _ _)|(apply spl_store1;(·exact eT rfl);(·exact eC);(·rfl);(·(repeat (exact Upd.here)));(·rfl)))
  refine markX_none rfl (by ((apply Res.ofOne;((apply Res1.tmp;(·rfl)))))) ?_
  exact ⟨(es, ck), by unfold worstF; rfl, hK, by (repeat (first|exact HKeep.refl|(apply HKeep.pick;(·(repeat (first|exact Rem.here|apply Rem.there))))|apply HKeep.drop (by first|assumption|omega)))⟩
set_option maxRecDepth 100000 in
set_option maxHeartbeats 8000000 in
theorem worst_succ {w0 : World} {G : GP} {b : BR} {d : Nat} (hG : G.Ok) (hm : b.sl.n = G.m) (hn : b.dl.n = G.deps.length) (hgm : w0.heap.size ≤ b.gm) (hB : BC w0 G b d) : WC w0 G b (d + 1) := by
  intro s es ck R w hs ht hK hh
  have hs0 : s.C[0]? = some (.int .i64 (s.turn : Int)) := GS.c0
  have hz : s.C.size = 14 := GS.size hs.ok
  have hge : (s.turn : Int) < (b.dl.n : Int) := by omega
  refine sp_enterDM (vs := [_, _]) Try.func44 rfl Try.ntmps44 rfl hh ?_
  repeat (first|apply spm_seq|apply spm_region rfl|apply spm_block|((apply spm_cond_t);(·exact eT rfl);(·(rfl)))|(apply spl_callh rfl;(·(repeat (first|exact eN|(apply eS;(·exact eT rfl)))));(·exact fun w' hh => moves_c);(rintro ⟨y1, y2⟩ - hfr;simp only [List.cons_append, List.nil_append]))|apply then_n|apply spl_nil|((apply spl_pure rfl);(·(first|(apply ex_lssT hge;(·exact eT rfl);(·exact eT rfl))|((first|apply ex_assign|apply ex_fieldAddr'|apply ex_len)<;>(first|exact eT rfl|exact eC))|(apply ex_loadown<;>(first|exact eT rfl|exact Bk.own InH.mem|rfl|assumption))|(apply ex_loadowns<;>(first|exact eT rfl|exact Bk.own InH.mem|(first|rfl|assumption))))))|(apply spl_box;(·exact eT rfl);(·rfl);intro _ _)|(apply spl_alloc rfl;intro _ _)|(apply spl_store1;(·exact eT rfl);(·exact eC);(·rfl);(·(repeat (exact Upd.here)));(·rfl)))
  rename_i gB hgB gS hgS gM hgM
  have hy1 : w0.heap.size ≤ y1 := hfr (y1, .cells s.C 82 (0, 0)) (.head _)
  have hy2 : w0.heap.size ≤ y2 := hfr (y2, .cells b.C 78 (0, 0)) (.tail _ (.head _))
  have hPP : HKeep w0 ((gM, .cells #[.int .i64 0] 3 (0, 0)) :: (gS, .cells s.C 82 (0, 0)) :: (gB, .cells b.C 78 (0, 0)) :: (b.gm, mobj gkV es ck) :: (R ++ [(y1, .cells s.C 82 (0, 0)), (y2, .cells b.C 78 (0, 0))]))
      ([(y1, .cells s.C 82 (0, 0)), (y2, .cells b.C 78 (0, 0))] ++ ((gM, .cells #[.int .i64 0] 3 (0, 0)) :: (gS, .cells s.C 82 (0, 0)) :: (gB, .cells b.C 78 (0, 0)) :: (b.gm, mobj gkV es ck) :: R)) := HKeep.perm List.perm_append_comm
  refine SpcM.sub (e := [(16, true, .func (.func 93) #[] #[.pointer (some ⟨y1, 0, none⟩), .pointer (some ⟨y2, 0, none⟩)]), (2, true, .pointer (some ⟨gB, 0, none⟩)), (3, true, .pointer (some ⟨gS, 0, none⟩)), (5, true, .pointer (some ⟨gM, 0, none⟩))])
    (H := (gM, .cells #[.int .i64 0] 3 (0, 0)) :: (gS, .cells s.C 82 (0, 0)) :: (gB, .cells b.C 78 (0, 0)) :: (b.gm, mobj gkV es ck) :: (R ++ [(y1, .cells s.C 82 (0, 0)), (y2, .cells b.C 78 (0, 0))])) ?_ (by (repeat (first|exact ESub.nil|apply ESub.cons rfl))) hPP
  refine spm_rangeFunc (gf := 93) (caps := [.pointer (some ⟨y1, 0, none⟩), .pointer (some ⟨y2, 0, none⟩)]) (X := (List (GK × Value × Nat) × Nat) × GS) (V := fun _ => .tuple #[]) (st := fun _ => .ready) (pend := fun _ => none)
    (HX := fun x => (gM, .cells #[.int .i64 ((worstF G (d + 1) s : Nat) : Int)] 3 (0, 0)) :: (gS, .cells s.C 82 (0, 0)) :: (gB, .cells b.C 78 (0, 0)) :: (b.gm, mobj gkV x.1.1 x.1.2) :: (R ++ [(y1, .cells x.2.C 82 (0, 0)), (y2, .cells b.C 78 (0, 0))])) (I := fun x => KI G x.1.1) (by (exact eT rfl)) ?_ ?_
  · intro fn tmps l d0 hfr2 hl hd0 w1 hw1
    have hfr' : Fr 25 [(2, true, .pointer (some ⟨gB, 0, none⟩)), (3, true, .pointer (some ⟨gS, 0, none⟩)), (5, true, .pointer (some ⟨gM, 0, none⟩))] { tmps := tmps, defers := [] } := hfr2.sub (by (repeat (first|exact ESub.nil|apply ESub.cons rfl)))
    obtain ⟨rec, hrec⟩ : ∃ rec : Loop, rec = { state := .ready, pending := none, fn, tmps, params := #[17], assign := (rangeW Try.f44).1, body := (rangeW Try.f44).2, defers := d0 } := ⟨_, rfl⟩
    have hst : rec.state = .ready := by rw [hrec]
    have hps : rec.params = #[17] := by rw [hrec]
    have htm : rec.tmps = tmps := by rw [hrec]
    have has : rec.assign = (rangeW Try.f44).1 := by rw [hrec]
    obtain ⟨J, hJd⟩ : ∃ J : Nat → Heap → Prop, J = fun i y => ∃ es ck, KI G es ∧ y = (l, .loop rec) :: (d0, .deferred (some [])) :: (gM, .cells #[.int .i64 ((mostN G d (movesL G.m s) i : Nat) : Int)] 3 (0, 0)) :: (gS, .cells s.C 82 (0, 0)) :: (gB, .cells b.C 78 (0, 0)) :: (b.gm, mobj gkV es ck) :: R := ⟨_, rfl⟩
    have hY : ∀ i x H R', J i H → (movesL G.m s)[i]? = some x → ∀ w', Hp w0.heap.size w0 (H ++ R') w' → YieldAt Fence.wide 0 Try.prog l #[.agg x.C] w' (RetX w0.heap.size w0 (fun _ : Heap => .bool true) (fun y => y ++ R') (fun y => J (i + 1) y)) := by
      intro i x H R' hJ hx w' hw'
      rw [hJd] at hJ ⊢
      obtain ⟨es1, ck1, hK1, rfl⟩ := hJ
      obtain ⟨hx1, hx2⟩ := moves_in hs (List.mem_of_getElem? hx)
      have h1 := worst_round (l := l) (s := s) (gS := gS) (gB := gB) (gM := gM) (ck := ck1) (most := mostN G d (movesL G.m s) i) (R := R) (R' := R') hB hgm hx1 (by omega) hK1 hrec
      rw [← has, ← mostN_succ hx] at h1
      exact yield_round hst hps (by rw [htm]; exact hfr') rfl h1 w' hw'
    have hc := iter_c (gs := y1) (gb := y2) hG hs hm hY (H := (l, .loop rec) :: (d0, .deferred (some [])) :: (gM, .cells #[.int .i64 0] 3 (0, 0)) :: (gS, .cells s.C 82 (0, 0)) :: (gB, .cells b.C 78 (0, 0)) :: (b.gm, mobj gkV es ck) :: R) (by rw [hJd]; exact ⟨es, ck, hK, by unfold mostN; rfl⟩) (w := w1) (by rw [hrec]; exact hw1)
    refine hc.mono ?_
    rintro en w2 ⟨⟨s', H'⟩, rfl, hJ2, hp⟩
    rw [hJd] at hJ2
    obtain ⟨es2, ck2, hK2, hH'⟩ := hJ2
    dsimp only at hH' hp
    subst hH'
    rw [mostN_all, hrec] at hp
    exact ⟨((es2, ck2), s'), rfl, hK2, hp⟩
  · rintro d0 ⟨⟨es2, ck2⟩, s'⟩ hI hd0
    refine ⟨by simp, ?_⟩
    dsimp only
    repeat (first|apply spm_seq|apply spm_region rfl|apply spm_ret|apply then_n|apply block_n|apply spl_nil|((apply spl_pure rfl);(·(first|((apply ex_assign)<;>(exact eT rfl))|(apply ex_loadown<;>(first|exact eT rfl|exact Bk.own InH.mem|rfl))))))
    refine markX_one rfl Upd.here (by ((apply Res.ofOne;((apply Res1.tmp;(·rfl)))))) ?_
    exact ⟨(es2, ck2), rfl, hI, HKeep.drop hd0 (HKeep.drop hgM (HKeep.drop hgS (HKeep.drop hgB (HKeep.keep (hkeep_tail fun p hp => by
      rcases List.mem_cons.1 hp with rfl | hp
      · exact hy1
      · rw [List.mem_singleton.1 hp]; exact hy2)))))⟩
end Go.Proofs.Ytoogicafefennaa
/-
  The value of a game: what board.best considers.
-/
namespace Go.Proofs.Ytoogicafefennaa
set_option linter.unusedVariables false
open Go.RowKit Go.Sy
set_option linter.unusedVariables false
set_option linter.unusedSimpArgs false
def posC (p : Option Nat × Nat) : Array Value := #[.int .i64 0, .slice none 0 0, .slice none 0 0, .int .i64 0, .int .i64 (chV p.1), .int .i64 (p.2 : Int)]
instance posC_one (p : Option Nat × Nat) : Ones (posC p) := ⟨by intro v hv; simp [posC] at hv; rcases hv with h | h | h | h | h <;> subst h <;> rfl⟩
theorem takeB_t {f : Nat → Nat} {out : Option Nat × Nat} {v : Nat} (h : f v < out.2 ∨ (f v = out.2 ∧ out.1 = none)) : takeB f out v = (some v, f v) := by unfold takeB; rw [if_pos h]
theorem takeB_f {f : Nat → Nat} {out : Option Nat × Nat} {v : Nat} (h : ¬ (f v < out.2 ∨ (f v = out.2 ∧ out.1 = none))) : takeB f out v = out := by unfold takeB; rw [if_neg h]
attribute [local irreducible] Calls thenQ blockQ retQ jumpQ Spc Spl Spq Ex Ev Evs Gd Upd ESub HKeep Res Res1 wlk effQ Rem SrcAt Split GS.C mobj worstF bestF posC
set_option maxRecDepth 100000 in
set_option maxHeartbeats 8000000 in
theorem consider_c {w0 : World} {G : GP} {b : BR} {d : Nat} {s : GS} {v g7 gB gS ck : Nat} {out : Option Nat × Nat} {es : List (GK × Value × Nat)} {R : Heap} (hG : G.Ok) (hgm : w0.heap.size ≤ b.gm) (hW : WC w0 G b d) (hs : s.In G) (ht : s.turn + d + 1 = G.deps.length) (hv : v < 6) (hp : 0 < sAt s v) (hK : KI G es)
    {w : World} (hh : Hp w0.heap.size w0 ((b.gm, mobj gkV es ck) :: (g7, .cells (posC out) 100 (0, 0)) :: (gB, .cells b.C 78 (0, 0)) :: (gS, .cells s.C 82 (0, 0)) :: R) w) :
    Calls Try.prog 94 #[.int .i64 (v : Int), .pointer (some ⟨gB, 0, none⟩), .pointer (some ⟨gS, 0, none⟩), .pointer (some ⟨g7, 0, none⟩)] w
      (RetX w0.heap.size w0 (fun _ : List (GK × Value × Nat) × Nat => .tuple #[]) (fun x => (b.gm, mobj gkV x.1 x.2) :: (g7, .cells (posC (takeB (fun v => worstF G d (stepS s v)) out v)) 100 (0, 0)) :: (gB, .cells b.C 78 (0, 0)) :: (gS, .cells s.C 82 (0, 0)) :: R) (fun x => KI G x.1)) := by
  have htl : s.turn < G.deps.length := by omega
  have hst := stepS_in hG hs htl hv
  have ht2 : (stepS s v).turn + d = G.deps.length := by show s.turn + 1 + d = _; omega
  have hz : s.C.size = 14 := GS.size hs.ok
  have hz6 : ∀ p, (posC p).size = 6 := fun p => by unfold posC; rfl
  have hz6' := hz6 out
  have hc4 : (posC out)[4]? = some (.int .i64 (chV out.1)) := by unfold posC; rfl
  have hc5 : (posC out)[5]? = some (.int .i64 (out.2 : Int)) := by unfold posC; rfl
  have hz6n := hz6 (some v, worstF G d (stepS s v))
  have hpc : #[.int .i64 0, .slice none 0 0, .slice none 0 0, .int .i64 0, .int .i64 (v : Int), .int .i64 ((worstF G d (stepS s v) : Nat) : Int)] = posC (some v, worstF G d (stepS s v)) := by unfold posC; rfl
  refine sp_enterM (vs := [_, _, _, _]) Try.func94 rfl Try.ntmps94 rfl hh ?_
  by_cases h1 : worstF G d (stepS s v) < out.2
  · have hl : ((worstF G d (stepS s v) : Nat) : Int) < (out.2 : Int) := by omega
    rw [takeB_t (f := fun v => worstF G d (stepS s v)) (.inl h1)]
    repeat (first|(refine sp_drawn (id := 0) [(0, true), (1, true), (2, true), (3, false), (4, false), (5, true)] 6 _ mixed ?_ (HKeep.drop hgm HKeep.refl) ?_;(·kernel_rfl))|(apply spl_callp rfl;(·(repeat (first|exact eN|(apply eS;(·exact eT rfl)))));(·exact fun w' hh => after_c (c := some v) hG hs htl (fun u hu => by cases hu; exact ⟨hv, hp⟩)))|(apply spl_callM (X:=List (GK × Value × Nat) × Nat) (V:=fun _ => .int .i64 ((worstF G d (stepS s v) : Nat) : Int)) (A:=[(b.gm, mobj gkV es ck)]) (AA:=fun y => [(b.gm, mobj gkV y.1 y.2)]) (I:=fun y => KI G y.1) rfl;(·(repeat (first|exact eN|(apply eS;(·exact eT rfl)))));(·(repeat (exact Split.one)));(·exact fun w' hh => hW (stepS s v) es ck _ w' hst ht2 hK hh);(rintro ⟨es2, ck2⟩ hK2;simp only [List.cons_append, List.nil_append]))|(apply sp_cond_t;(·exact eT rfl);(·rfl))|apply then_n|apply sp_seq|apply sp_region|apply spl_nil|((first|apply spl_pure rfl|(apply spl_pure_g rfl;(·(first|exact Gd.tf rfl rfl|exact Gd.gt rfl rfl)))|apply wlk_read rfl rfl);(·(first|(exact ex_off rfl)|(apply ex_lssT hl;(·exact eT rfl);(·exact eT rfl))|(apply ex_buildE (r:=posC (some v, worstF G d (stepS s v)));(·(repeat (first|exact eN|(apply eS;(·exact eT rfl)))));(·rfl);(·exact hpc))|(apply ex_loadown;(·exact eT rfl);(·exact Bk.own InH.mem);(·exact hc5))|((first|apply ex_move|apply ex_assign|apply ex_fieldAddr')<;>(exact eT rfl))|((apply ex_orT)<;>(first|exact eT rfl|exact eG rfl))|(apply ex_loadowns<;>(first|exact eT rfl|exact Bk.own InH.mem|(first|rfl|assumption))))))|(apply spl_stores;(·exact eT rfl);(·exact eT rfl);(·(repeat (first|exact Upd.here|apply Upd.there)));(·(assumption));(·(assumption));(·exact Ones.one))|(apply effq;(·(intro h_;((repeat (first|exact HKeep.refl|(apply HKeep.pick;(·(repeat (first|exact Rem.here|apply Rem.there))))|apply HKeep.drop (by first|assumption|omega)))))))|apply wlk_nil|apply wlk_eff rfl)
    (apply endX_ok rfl;(·exact Res.none_))
    exact ⟨(es2, ck2), rfl, hK2, by (repeat (exact HKeep.refl))⟩
  · have hl : ¬ ((worstF G d (stepS s v) : Nat) : Int) < (out.2 : Int) := by omega
    by_cases h2 : worstF G d (stepS s v) = out.2
    · have he : ((worstF G d (stepS s v) : Nat) : Int) = (out.2 : Int) := by omega
      cases h3 : out.1 with
      | none =>
        have hneg : chV out.1 < 0 := by rw [h3]; decide
        rw [takeB_t (f := fun v => worstF G d (stepS s v)) (.inr ⟨h2, h3⟩)]
        repeat (first|(refine sp_drawn (id := 0) [(0, true), (1, true), (2, true), (3, false), (4, false), (5, true)] 6 _ mixed ?_ (HKeep.drop hgm HKeep.refl) ?_;(·kernel_rfl))|(apply spl_callp rfl;(·(repeat (first|exact eN|(apply eS;(·exact eT rfl)))));(·exact fun w' hh => after_c (c := some v) hG hs htl (fun u hu => by cases hu; exact ⟨hv, hp⟩)))|(apply spl_callM (X:=List (GK × Value × Nat) × Nat) (V:=fun _ => .int .i64 ((worstF G d (stepS s v) : Nat) : Int)) (A:=[(b.gm, mobj gkV es ck)]) (AA:=fun y => [(b.gm, mobj gkV y.1 y.2)]) (I:=fun y => KI G y.1) rfl;(·(repeat (first|exact eN|(apply eS;(·exact eT rfl)))));(·(repeat (exact Split.one)));(·exact fun w' hh => hW (stepS s v) es ck _ w' hst ht2 hK hh);(rintro ⟨es2, ck2⟩ hK2;simp only [List.cons_append, List.nil_append]))|(apply sp_cond_t;(·exact eT rfl);(·rfl))|apply then_n|apply sp_seq|apply sp_region|apply spl_nil|((first|apply spl_pure rfl|(apply spl_pure_g rfl;(·(first|exact Gd.tt rfl rfl|exact Gd.tf rfl rfl)))|apply wlk_read rfl rfl);(·(first|(apply ex_lssF hl;(·exact eT rfl);(·exact eT rfl))|(apply ex_lssT hneg;(·exact eT rfl);(·exact eC))|(apply ex_eqlT he;(·exact eT rfl);(·exact eT rfl))|(apply ex_buildE (r:=posC (some v, worstF G d (stepS s v)));(·(repeat (first|exact eN|(apply eS;(·exact eT rfl)))));(·rfl);(·exact hpc))|(apply ex_loadown;(·exact eT rfl);(·exact Bk.own InH.mem);(·(first|exact hc4|exact hc5)))|((first|apply ex_move|apply ex_assign|apply ex_fieldAddr'|apply ex_andT)<;>(exact eT rfl))|((apply ex_orT)<;>(exact eT rfl))|(apply ex_loadowns<;>(first|exact eT rfl|exact Bk.own InH.mem|(first|rfl|assumption))))))|(apply spl_stores;(·exact eT rfl);(·exact eT rfl);(·(repeat (first|exact Upd.here|apply Upd.there)));(·(assumption));(·(assumption));(·exact Ones.one))|(apply effq;(·(intro h_;((repeat (first|exact HKeep.refl|(apply HKeep.pick;(·(repeat (first|exact Rem.here|apply Rem.there))))|apply HKeep.drop (by first|assumption|omega)))))))|apply wlk_nil|apply wlk_eff rfl)
        (apply endX_ok rfl;(·exact Res.none_))
        exact ⟨(es2, ck2), rfl, hK2, by (repeat (exact HKeep.refl))⟩
      | some i =>
        have hneg : ¬ chV out.1 < 0 := by rw [h3]; show ¬ (i : Int) < 0; omega
        rw [takeB_f (f := fun v => worstF G d (stepS s v)) (by rintro (q | ⟨_, q⟩); exact h1 q; rw [h3] at q; cases q)]
        repeat (first|(refine sp_drawn (id := 0) [(0, true), (1, true), (2, true), (3, false), (4, false), (5, true)] 6 _ mixed ?_ (HKeep.drop hgm HKeep.refl) ?_;(·kernel_rfl))|(apply spl_callp rfl;(·(repeat (first|exact eN|(apply eS;(·exact eT rfl)))));(·exact fun w' hh => after_c (c := some v) hG hs htl (fun u hu => by cases hu; exact ⟨hv, hp⟩)))|(apply spl_callM (X:=List (GK × Value × Nat) × Nat) (V:=fun _ => .int .i64 ((worstF G d (stepS s v) : Nat) : Int)) (A:=[(b.gm, mobj gkV es ck)]) (AA:=fun y => [(b.gm, mobj gkV y.1 y.2)]) (I:=fun y => KI G y.1) rfl;(·(repeat (first|exact eN|(apply eS;(·exact eT rfl)))));(·(repeat (exact Split.one)));(·exact fun w' hh => hW (stepS s v) es ck _ w' hst ht2 hK hh);(rintro ⟨es2, ck2⟩ hK2;simp only [List.cons_append, List.nil_append]))|(apply sp_cond_f;(·exact eT rfl);(·rfl))|apply then_n|apply sp_seq|apply sp_region|apply spl_nil|apply sp_skip|((first|apply spl_pure rfl|(apply spl_pure_g rfl;(·(first|exact Gd.tt rfl rfl|exact Gd.tf rfl rfl)))|apply wlk_read rfl rfl);(·(first|(apply ex_lssF hl;(·exact eT rfl);(·exact eT rfl))|(apply ex_lssF hneg;(·exact eT rfl);(·exact eC))|(apply ex_eqlT he;(·exact eT rfl);(·exact eT rfl))|(apply ex_loadown;(·exact eT rfl);(·exact Bk.own InH.mem);(·(first|exact hc4|exact hc5)))|((first|apply ex_move|apply ex_assign|apply ex_fieldAddr'|apply ex_andT)<;>(exact eT rfl))|((apply ex_orT)<;>(exact eT rfl))|(apply ex_loadowns<;>(first|exact eT rfl|exact Bk.own InH.mem|(first|rfl|assumption))))))|(apply effq;(·(intro h_;((repeat (first|exact HKeep.refl|(apply HKeep.pick;(·(repeat (first|exact Rem.here|apply Rem.there))))|apply HKeep.drop (by first|assumption|omega)))))))|apply wlk_nil|apply wlk_eff rfl)
        (apply endX_ok rfl;(·exact Res.none_))
        exact ⟨(es2, ck2), rfl, hK2, by (repeat (exact HKeep.refl))⟩
    · have he : ((worstF G d (stepS s v) : Nat) : Int) ≠ (out.2 : Int) := by omega
      rw [takeB_f (f := fun v => worstF G d (stepS s v)) (by rintro (q | ⟨q, _⟩); exact h1 q; exact h2 q)]
      repeat (first|(refine sp_drawn (id := 0) [(0, true), (1, true), (2, true), (3, false), (4, false), (5, true)] 6 _ mixed ?_ (HKeep.drop hgm HKeep.refl) ?_;(·kernel_rfl))|(apply spl_callp rfl;(·(repeat (first|exact eN|(apply eS;(·exact eT rfl)))));(·exact fun w' hh => after_c (c := some v) hG hs htl (fun u hu => by cases hu; exact ⟨hv, hp⟩)))|(apply spl_callM (X:=List (GK × Value × Nat) × Nat) (V:=fun _ => .int .i64 ((worstF G d (stepS s v) : Nat) : Int)) (A:=[(b.gm, mobj gkV es ck)]) (AA:=fun y => [(b.gm, mobj gkV y.1 y.2)]) (I:=fun y => KI G y.1) rfl;(·(repeat (first|exact eN|(apply eS;(·exact eT rfl)))));(·(repeat (exact Split.one)));(·exact fun w' hh => hW (stepS s v) es ck _ w' hst ht2 hK hh);(rintro ⟨es2, ck2⟩ hK2;simp only [List.cons_append, List.nil_append]))|(apply sp_cond_f;(·exact eT rfl);(·rfl))|apply then_n|apply sp_seq|apply sp_region|apply spl_nil|apply sp_skip|((first|apply spl_pure rfl|(apply spl_pure_g rfl;(·(first|exact Gd.tt rfl rfl|exact Gd.tf rfl rfl)))|apply wlk_read rfl rfl);(·(first|(exact ex_off rfl)|(apply ex_lssF hl;(·exact eT rfl);(·exact eT rfl))|(apply ex_eqlF he;(·exact eT rfl);(·exact eT rfl))|(apply ex_loadown;(·exact eT rfl);(·exact Bk.own InH.mem);(·exact hc5))|((first|apply ex_move|apply ex_assign|apply ex_fieldAddr'|apply ex_andT)<;>(first|exact eT rfl|exact eG rfl))|((apply ex_orT)<;>(exact eT rfl))|(apply ex_loadowns<;>(first|exact eT rfl|exact Bk.own InH.mem|(first|rfl|assumption))))))|(apply effq;(·(intro h_;((repeat (first|exact HKeep.refl|(apply HKeep.pick;(·(repeat (first|exact Rem.here|apply Rem.there))))|apply HKeep.drop (by first|assumption|omega)))))))|apply wlk_nil|apply wlk_eff rfl)
      (apply endX_ok rfl;(·exact Res.none_))
      exact ⟨(es2, ck2), rfl, hK2, by (repeat (exact HKeep.refl))⟩
end Go.Proofs.Ytoogicafefennaa
