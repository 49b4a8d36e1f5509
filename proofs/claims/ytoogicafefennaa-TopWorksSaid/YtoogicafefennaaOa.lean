/-
  The plain law of TopWorks: what is planned fits, and can be done in the order of its beginnings.
-/
import Derived.Test.YtoogicafefennaaNm
namespace Go.Proofs.Ytoogicafefennaa
open Go.RowKit Go.Sy
set_option linter.unusedVariables false
set_option linter.unusedSimpArgs false
def runB (l : List TaskR) (s : PS) (i j : Nat) : Bool := decide (stN s j ≤ stN s i) && !decide (enN l s j ≤ stN s i)
def skN (l : List TaskR) (i : Nat) : Int := match l[i]? with | some t => t.skill | none => 0
def bayN (l : List TaskR) (i : Nat) : Bool := match l[i]? with | some t => t.bay | none => false
theorem skN_at {l : List TaskR} {i : Nat} {t : TaskR} (h : l[i]? = some t) : skN l i = t.skill := by unfold skN; rw [h]
theorem bayN_at {l : List TaskR} {i : Nat} {t : TaskR} (h : l[i]? = some t) : bayN l i = t.bay := by unfold bayN; rw [h]
def pplN (l : List TaskR) (s : PS) (i k : Nat) : Nat := cn k fun j => runB l s i j && decide (skN l j = skN l i)
def bysN (l : List TaskR) (s : PS) (i k : Nat) : Nat := cn k fun j => runB l s i j && bayN l j
theorem cn_pos {n i : Nat} {p : Nat → Bool} (hi : i < n) (h : p i = true) : 0 < cn n p := by
  unfold cn
  exact List.countP_pos_iff.2 ⟨i, List.mem_range.2 hi, h⟩
theorem cnts_get (l : List TaskR) (s : PS) (h k : Nat) (hk : k < 9) : bget (cntsAt l s h) k = ((cn l.length (fun i => atB l s h i k) : Nat) : Int) := by
  apply bget_of
  unfold cntsAt
  rw [List.getElem?_map, List.getElem?_range hk]
  rfl
theorem works_fit {l : List TaskR} {u : ShopR} {s : PS} {i : Nat} {t : TaskR} (hV : ∀ t ∈ l, TaskV l.length t) (hb : ∀ j < l.length, gt s.begun j = true) (hF : fitAt l u s (stN s i) = true) (hx : l[i]? = some t) :
    t.skill < (u.staff.length : Int) ∧ ((pplN l s i l.length : Nat) : Int) ≤ bget u.staff t.skill.toNat ∧ ((bysN l s i l.length : Nat) : Int) ≤ u.bays := by
  have hi : i < l.length := (List.getElem?_eq_some_iff.1 hx).1
  have hv := hV t (List.mem_of_getElem? hx)
  have hsk := hv.skill
  have hat : ∀ j < l.length, ∀ k, atB l s (stN s i) j k = (runB l s i j && useB l j k) := fun j hj k => by
    unfold atB runB
    rw [hb j hj, Bool.true_and]
    congr 2
    rw [Bool.eq_iff_iff]; simp
  have e1 : cn l.length (fun j => atB l s (stN s i) j t.skill.toNat) = pplN l s i l.length := cn_congr fun j hj => by
    have hxj := List.getElem?_eq_getElem hj
    have hvj := (hV _ (List.mem_of_getElem? hxj)).skill
    rw [hat j hj, useB_at hxj, skN_at hxj, skN_at hx]
    congr 1
    unfold useT
    have h8 : ¬ t.skill.toNat = 8 := by omega
    rw [decide_eq_false h8, Bool.false_and, Bool.or_false, Bool.eq_iff_iff]
    simp only [decide_eq_true_iff]
    omega
  have e2 : cn l.length (fun j => atB l s (stN s i) j 8) = bysN l s i l.length := cn_congr fun j hj => by
    have hxj := List.getElem?_eq_getElem hj
    have hvj := (hV _ (List.mem_of_getElem? hxj)).skill
    rw [hat j hj, useB_at hxj, bayN_at hxj]
    congr 1
    unfold useT
    have h8 : ¬ (l[j]).skill.toNat = 8 := by omega
    rw [decide_eq_false h8, Bool.false_or, decide_eq_true rfl, Bool.true_and]
  have hpos : 0 < pplN l s i l.length := cn_pos hi (by
    have h1 : ¬ enN l s i ≤ stN s i := by
      unfold enN
      rw [hN_at hx]
      have := hv.hours
      omega
    unfold runB
    rw [decide_eq_false h1, decide_eq_true (Nat.le_refl _)]
    simp)
  unfold fitAt fitsB at hF
  rw [Bool.and_eq_true, List.all_eq_true, decide_eq_true_iff] at hF
  obtain ⟨f1, f2⟩ := hF
  have f3 := f1 t.skill.toNat (List.mem_range.2 (by omega))
  rw [cnts_get _ _ _ _ (by omega), e2] at f2
  unfold fit1 at f3
  rw [cnts_get _ _ _ _ (by omega), e1, decide_eq_true (show (0 : Int) < _ by omega), Bool.true_and, Bool.not_eq_true', Bool.or_eq_false_iff, decide_eq_false_iff_not, decide_eq_false_iff_not] at f3
  refine ⟨by omega, by omega, f2⟩
theorem works_ready {l : List TaskR} {u : ShopR} {s : PS} {q : Mk} {i : Nat} (hV : ∀ t ∈ l, TaskV l.length t) (hH : Head l u s) (hb : ∀ j < l.length, gt s.begun j = true) (hi : i < l.length) (hq : ∀ j < l.length, gt q j = decide (enN l s j ≤ stN s i)) : i ∈ readyR l q := by
  have hx := List.getElem?_eq_getElem hi
  have hv := hV _ (List.mem_of_getElem? hx)
  refine ready_mem.2 ⟨hi, ?_, wt_false.2 fun k hk => ?_⟩
  · rw [hq i hi, decide_eq_false_iff_not]
    unfold enN
    rw [hN_at hx]
    have := hv.hours
    omega
  · obtain ⟨_, h2⟩ := hH.dep i (hb i hi) k hk
    have hk2 := hv.after k (by rw [← aft_at hx]; exact hk)
    rw [hq _ (by omega), decide_eq_true_iff]
    exact h2
/-! One after the other. -/
structure Seq (s : PS) (n m : Nat) (d : Mk) : Prop where
  len : d.length = n
  num : cnt d = m
  ord : ∀ a < n, ∀ b < n, gt d a = true → gt d b = false → stN s a ≤ stN s b
theorem Seq.zero {s : PS} {n : Nat} : Seq s n 0 (List.replicate n false) := ⟨List.length_replicate, cnt_rep n, fun a _ b _ h => by rw [gt_rep] at h; cases h⟩
def Least (s : PS) (d : Mk) (k : Nat) : Option Nat → Prop
  | none => ∀ j < k, gt d j = true
  | some x => x < k ∧ gt d x = false ∧ ∀ j < k, gt d j = false → stN s x ≤ stN s j
def nv : Option Nat → Int
  | none => -1
  | some x => (x : Int)
theorem cnt_full {d : Mk} (h : ∀ i < d.length, gt d i = true) : cnt d = d.length := by
  unfold cnt
  rw [List.countP_eq_length]
  intro b hb
  obtain ⟨i, hi, rfl⟩ := List.getElem_of_mem hb
  have := h i hi
  rwa [gt_of (List.getElem?_eq_getElem hi)] at this
theorem Least.some_of {s : PS} {n m : Nat} {d : Mk} (hS : Seq s n m d) (hm : m < n) {o : Option Nat} (h : Least s d n o) : ∃ x, o = some x := by
  cases o with
  | some x => exact ⟨x, rfl⟩
  | none =>
    have := cnt_full (d := d) fun i hi => h i (by rw [← hS.len]; exact hi)
    rw [hS.num, hS.len] at this
    omega
theorem works_next {l : List TaskR} {u : ShopR} {s : PS} {d : Mk} {x m : Nat} (hV : ∀ t ∈ l, TaskV l.length t) (hH : Head l u s) (hb : ∀ j < l.length, gt s.begun j = true) (hS : Seq s l.length m d) (hL : Least s d l.length (some x)) : x ∈ readyR l d := by
  obtain ⟨h1, h2, h3⟩ := hL
  have hx := List.getElem?_eq_getElem h1
  have hv := hV _ (List.mem_of_getElem? hx)
  refine ready_mem.2 ⟨h1, h2, wt_false.2 fun k hk => ?_⟩
  obtain ⟨_, h4⟩ := hH.dep x (hb x h1) k hk
  have hk2 := hv.after k (by rw [← aft_at hx]; exact hk)
  have hkl : k.toNat < l.length := by omega
  cases hg : gt d k.toNat with
  | true => rfl
  | false =>
    have h5 := h3 _ hkl hg
    have hxk := List.getElem?_eq_getElem hkl
    have h6 := (hV _ (List.mem_of_getElem? hxk)).hours
    unfold enN at h4
    rw [hN_at hxk] at h4
    omega
theorem Seq.next {s : PS} {n m x : Nat} {d : Mk} (hS : Seq s n m d) (hL : Least s d n (some x)) : Seq s n (m + 1) (d.set x true) := by
  obtain ⟨h1, h2, h3⟩ := hL
  have hl : x < d.length := by rw [hS.len]; exact h1
  refine ⟨by rw [List.length_set]; exact hS.len, by rw [cnt_set d x hl h2, hS.num], fun a ha b hb ga gb => ?_⟩
  rw [gt_set hl] at ga gb
  by_cases hbx : b = x
  · rw [if_pos hbx] at gb; cases gb
  · rw [if_neg hbx] at gb
    by_cases hax : a = x
    · rw [hax]; exact h3 b hb gb
    · rw [if_neg hax] at ga
      exact hS.ord a ha b hb ga gb
theorem Seq.all {l : List TaskR} {s : PS} {d : Mk} (hS : Seq s l.length l.length d) : readyR l d = [] := by
  have := cnt_all (d := d) (by rw [hS.len, hS.num]; exact Nat.le_refl _)
  apply List.filter_eq_nil_iff.2
  intro i hi
  have hi := List.mem_range.1 hi
  unfold canB
  rw [this i (by rw [hS.len]; exact hi)]
  simp
theorem Least.step {s : PS} {d : Mk} {k : Nat} {o : Option Nat} (h : Least s d k o) (hg : gt d k = true) : Least s d (k + 1) o := by
  cases o with
  | none =>
    intro j hj
    rcases Nat.lt_or_ge j k with q | q
    · exact h j q
    · obtain rfl : j = k := by omega
      exact hg
  | some x =>
    obtain ⟨h1, h2, h3⟩ := h
    refine ⟨by omega, h2, fun j hj gj => ?_⟩
    rcases Nat.lt_or_ge j k with q | q
    · exact h3 j q gj
    · obtain rfl : j = k := by omega
      rw [hg] at gj; cases gj
theorem Least.first {s : PS} {d : Mk} {k : Nat} (h : Least s d k none) (hg : gt d k = false) : Least s d (k + 1) (some k) := by
  refine ⟨by omega, hg, fun j hj gj => ?_⟩
  rcases Nat.lt_or_ge j k with q | q
  · rw [h j q] at gj; cases gj
  · obtain rfl : j = k := by omega
    exact Nat.le_refl _
theorem Least.less {s : PS} {d : Mk} {k x : Nat} (h : Least s d k (some x)) (hg : gt d k = false) (hl : stN s k < stN s x) : Least s d (k + 1) (some k) := by
  obtain ⟨h1, h2, h3⟩ := h
  refine ⟨by omega, hg, fun j hj gj => ?_⟩
  rcases Nat.lt_or_ge j k with q | q
  · have := h3 j q gj; omega
  · obtain rfl : j = k := by omega
    exact Nat.le_refl _
theorem Least.more {s : PS} {d : Mk} {k x : Nat} (h : Least s d k (some x)) (hg : gt d k = false) (hl : ¬ stN s k < stN s x) : Least s d (k + 1) (some x) := by
  obtain ⟨h1, h2, h3⟩ := h
  refine ⟨by omega, h2, fun j hj gj => ?_⟩
  rcases Nat.lt_or_ge j k with q | q
  · exact h3 j q gj
  · obtain rfl : j = k := by omega
    omega
theorem enN_bd {l : List TaskR} {u : ShopR} {s : PS} {i : Nat} (hV : ∀ t ∈ l, TaskV l.length t) (hn : l.length ≤ 40) (hH : Head l u s) (hb : ∀ j < l.length, gt s.begun j = true) (hi : i < l.length) : stN s i ≤ 40000 ∧ enN l s i ≤ 41000 := by
  have h1 := hH.sb i (hb i hi)
  have hx := List.getElem?_eq_getElem hi
  have h2 := (hV _ (List.mem_of_getElem? hx)).hours
  unfold enN
  rw [hN_at hx]
  omega
theorem enN_dep {l : List TaskR} {u : ShopR} {s : PS} (hH : Head l u s) (hb : ∀ j < l.length, gt s.begun j = true) : ∀ i < l.length, hN l i ≤ enN l s i ∧ ∀ k ∈ aft l i, enN l s k.toNat + hN l i ≤ enN l s i := fun i hi =>
  ⟨by unfold enN; omega, fun k hk => by have := (hH.dep i (hb i hi) k hk).2; rw [show enN l s i = stN s i + hN l i from rfl]; omega⟩
end Go.Proofs.Ytoogicafefennaa
