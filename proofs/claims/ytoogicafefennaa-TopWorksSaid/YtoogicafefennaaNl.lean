/-
  The plan of a shop in plain terms: its invariants.
-/
import Derived.Test.YtoogicafefennaaNk
namespace Go.Proofs.Ytoogicafefennaa
open Go.RowKit Go.Sy
set_option linter.unusedVariables false
set_option linter.unusedSimpArgs false
structure Core (l : List TaskR) (s : PS) : Prop where
  lb : s.begun.length = l.length
  ld : s.done.length = l.length
  ls : s.starts.length = l.length
  lu : s.busy.length = 9
  sub : ∀ i, gt s.done i = true → gt s.begun i = true
  busy : ∀ k < 9, bget s.busy k = (cn l.length (fun i => live s i && useB l i k) : Nat)
theorem Core.bd {l : List TaskR} {s : PS} (h : Core l s) (hn : l.length ≤ 40) : ∀ k, -1000000 ≤ bget s.busy k ∧ bget s.busy k ≤ 1000000 := fun k => by
  rcases Nat.lt_or_ge k 9 with q | q
  · rw [h.busy k q]
    have := cn_le l.length (fun i => live s i && useB l i k)
    omega
  · have : bget s.busy k = 0 := by
      unfold bget
      rw [List.getD_eq_getElem?_getD, List.getElem?_eq_none (by have := h.lu; omega)]; rfl
    omega
theorem useB_at {l : List TaskR} {i : Nat} {t : TaskR} (h : l[i]? = some t) (k : Nat) : useB l i k = useT t k := by unfold useB; rw [h]
theorem hN_at {l : List TaskR} {i : Nat} {t : TaskR} (h : l[i]? = some t) : hN l i = t.hours.toNat := by unfold hN; rw [h]
theorem live_lt {l : List TaskR} {s : PS} (h : Core l s) {i : Nat} (hi : live s i = true) : i < l.length := by
  unfold live at hi
  rw [Bool.and_eq_true] at hi
  rw [← h.lb]; exact gt_lt hi.1
theorem finF_at {l : List TaskR} {s : PS} {i : Nat} {t : TaskR} (h : l[i]? = some t) : finF l s i = { s with busy := addL s.busy t (-1), done := s.done.set i true } := by unfold finF; rw [h]
theorem Core.fin {l : List TaskR} {s : PS} (h : Core l s) (hV : ∀ t ∈ l, TaskV l.length t) {i : Nat} {t : TaskR} (hx : l[i]? = some t) (hl : live s i = true) : Core l (finF l s i) := by
  rw [finF_at hx]
  have hi := live_lt h hl
  have hid : i < s.done.length := by rw [h.ld]; exact hi
  have hvt := hV t (List.mem_of_getElem? hx)
  have hl2 := hl
  unfold live at hl2
  rw [Bool.and_eq_true] at hl2
  refine ⟨h.lb, by show (s.done.set i true).length = _; rw [List.length_set]; exact h.ld, h.ls, by show (addL s.busy t (-1)).length = 9; rw [addL_len]; exact h.lu, fun k hk => ?_, fun k hk => ?_⟩
  · have hk2 : gt (s.done.set i true) k = true := hk
    rw [gt_set hid] at hk2
    split at hk2
    · rename_i e; subst e; exact hl2.1
    · exact h.sub k hk2
  · show bget (addL s.busy t (-1)) k = _
    rw [bget_addL h.lu hvt.skill, h.busy k hk]
    have hf := cn_flip (n := l.length) (i := i) (p := fun j => live { s with busy := addL s.busy t (-1), done := s.done.set i true } j && useB l j k) (q := fun j => live s j && useB l j k) hi
      (by show ((gt s.begun i && !gt (s.done.set i true) i) && _) = false; rw [gt_set hid, if_pos rfl]; simp)
      (fun j hj => by show (live s j && _) = ((gt s.begun j && !gt (s.done.set i true) j) && _); rw [gt_set hid, if_neg hj]; rfl)
    rw [hf]
    simp only [hl, Bool.true_and, useB_at hx]
    cases useT t k <;> simp <;> omega
theorem begS_core {l : List TaskR} {s : PS} (h : Core l s) (hV : ∀ t ∈ l, TaskV l.length t) {i H : Nat} {t : TaskR} (hx : l[i]? = some t) (hb : gt s.begun i = false) {hs : List Nat} {es : List (Nat × List Nat)} :
    Core l ⟨hs, es, addL s.busy t 1, s.begun.set i true, s.done, s.starts.set i H⟩ := by
  have hi : i < l.length := (List.getElem?_eq_some_iff.1 hx).1
  have hib : i < s.begun.length := by rw [h.lb]; exact hi
  have hvt := hV t (List.mem_of_getElem? hx)
  have hd : gt s.done i = false := by
    cases hq : gt s.done i with
    | false => rfl
    | true => rw [h.sub i hq] at hb; cases hb
  refine ⟨by show (s.begun.set i true).length = _; rw [List.length_set]; exact h.lb, h.ld, by show (s.starts.set i H).length = _; rw [List.length_set]; exact h.ls, by show (addL s.busy t 1).length = 9; rw [addL_len]; exact h.lu, fun k hk => ?_, fun k hk => ?_⟩
  · show gt (s.begun.set i true) k = true
    rw [gt_set hib]
    split
    · rfl
    · exact h.sub k hk
  · show bget (addL s.busy t 1) k = _
    rw [bget_addL h.lu hvt.skill, h.busy k hk]
    have hf := cn_flip (n := l.length) (i := i) (p := fun j => live s j && useB l j k) (q := fun j => live ⟨hs, es, addL s.busy t 1, s.begun.set i true, s.done, s.starts.set i H⟩ j && useB l j k) hi
      (by show ((gt s.begun i && _) && _) = false; rw [hb]; simp)
      (fun j hj => by show ((gt (s.begun.set i true) j && !gt s.done j) && _) = (live s j && _); rw [gt_set hib, if_neg hj]; rfl)
    rw [hf]
    have : live ⟨hs, es, addL s.busy t 1, s.begun.set i true, s.done, s.starts.set i H⟩ i = true := by
      show (gt (s.begun.set i true) i && !gt s.done i) = true
      rw [gt_set hib, if_pos rfl, hd]; rfl
    simp only [this, Bool.true_and, useB_at hx]
    cases useT t k <;> simp
/-! Finishing. -/
theorem finF_keep (l : List TaskR) (s : PS) (i : Nat) : (finF l s i).begun = s.begun ∧ (finF l s i).starts = s.starts ∧ (finF l s i).hours = s.hours ∧ (finF l s i).ends = s.ends := by
  unfold finF
  split <;> exact ⟨rfl, rfl, rfl, rfl⟩
theorem fin_keep (l : List TaskR) : ∀ (ts : List Nat) (s : PS), (ts.foldl (finF l) s).begun = s.begun ∧ (ts.foldl (finF l) s).starts = s.starts ∧ (ts.foldl (finF l) s).hours = s.hours ∧ (ts.foldl (finF l) s).ends = s.ends
  | [], s => ⟨rfl, rfl, rfl, rfl⟩
  | i :: r, s => by
    obtain ⟨h1, h2, h3, h4⟩ := fin_keep l r (finF l s i)
    obtain ⟨g1, g2, g3, g4⟩ := finF_keep l s i
    exact ⟨h1.trans g1, h2.trans g2, h3.trans g3, h4.trans g4⟩
theorem fin_all {l : List TaskR} (hV : ∀ t ∈ l, TaskV l.length t) : ∀ (ts : List Nat) (s : PS), Core l s → ts.Nodup → (∀ i ∈ ts, live s i = true) →
    Core l (ts.foldl (finF l) s) ∧ ∀ k, gt (ts.foldl (finF l) s).done k = true ↔ gt s.done k = true ∨ k ∈ ts
  | [], s, h, _, _ => ⟨h, fun k => by simp⟩
  | i :: r, s, h, hnd, hl => by
    obtain ⟨n1, n2⟩ := List.nodup_cons.1 hnd
    have hli := hl i (.head _)
    have hi := live_lt h hli
    have hx : l[i]? = some l[i] := List.getElem?_eq_getElem hi
    have hid : i < s.done.length := by rw [h.ld]; exact hi
    have hc := h.fin hV hx hli
    have hdn : ∀ k, gt (finF l s i).done k = if k = i then true else gt s.done k := fun k => by rw [finF_at hx]; exact gt_set hid
    obtain ⟨c1, c2⟩ := fin_all hV r (finF l s i) hc n2 (fun j hj => by
      have hji : j ≠ i := fun e => n1 (e ▸ hj)
      have h1 := hl j (.tail _ hj)
      unfold live at h1 ⊢
      rw [(finF_keep l s i).1, hdn, if_neg hji]; exact h1)
    refine ⟨c1, fun k => ?_⟩
    rw [List.foldl_cons, c2, hdn]
    by_cases hk : k = i
    · simp [hk]
    · rw [if_neg hk]; simp [hk]
/-! What fits at an hour. -/
def atB (l : List TaskR) (s : PS) (h : Nat) (i k : Nat) : Bool := (gt s.begun i && (decide (stN s i ≤ h) && decide (h < enN l s i))) && useB l i k
def cntsAt (l : List TaskR) (s : PS) (h : Nat) : List Int := (List.range 9).map fun k => ((cn l.length (fun i => atB l s h i k) : Nat) : Int)
def fitAt (l : List TaskR) (u : ShopR) (s : PS) (h : Nat) : Bool := fitsB (cntsAt l s h) u
theorem busy_eq {l : List TaskR} {s : PS} (h : Core l s) {H : Nat} (hl : ∀ i < l.length, live s i = (gt s.begun i && (decide (stN s i ≤ H) && decide (H < enN l s i)))) : s.busy = cntsAt l s H := by
  apply List.ext_getElem
  · rw [h.lu]; simp [cntsAt]
  · intro k h1 h2
    have hk : k < 9 := by rw [← h.lu]; exact h1
    have e1 : bget s.busy k = s.busy[k] := bget_of (List.getElem?_eq_getElem h1)
    rw [← e1, h.busy k hk]
    simp only [cntsAt, List.getElem_map, List.getElem_range]
    congr 1
    exact cn_congr fun i hi => by unfold atB; rw [hl i hi]
theorem busy_zero {l : List TaskR} {s : PS} (h : Core l s) (hl : ∀ i, live s i = false) : s.busy = zeroL := by
  apply List.ext_getElem
  · rw [h.lu]; rfl
  · intro k h1 h2
    have hk : k < 9 := by rw [← h.lu]; exact h1
    have e1 : bget s.busy k = s.busy[k] := bget_of (List.getElem?_eq_getElem h1)
    rw [← e1, h.busy k hk, cn_zero (fun i _ => by rw [hl i]; rfl)]
    simp only [zeroL, List.getElem_replicate]
    rfl
structure Head (l : List TaskR) (u : ShopR) (s : PS) : Prop where
  core : Core l s
  srt : s.hours.Pairwise (· < ·)
  nd : (s.ends.map Prod.fst).Nodup
  tsnd : ∀ h, (eGet h s.ends).Nodup
  mem : ∀ h i, i ∈ eGet h s.ends ↔ (live s i = true ∧ enN l s i = h)
  run : ∀ i, live s i = true → enN l s i ∈ s.hours
  past : ∀ i, gt s.begun i = true → ∀ h ∈ s.hours, stN s i < h
  pastd : ∀ i, gt s.done i = true → ∀ h ∈ s.hours, enN l s i < h
  dep : ∀ i, gt s.begun i = true → ∀ k ∈ aft l i, gt s.begun k.toNat = true ∧ enN l s k.toNat ≤ stN s i
  fit : ∀ i, gt s.begun i = true → fitAt l u s (stN s i) = true
  bd : ∀ h ∈ s.hours, h ≤ 1000 * cnt s.begun
  sb : ∀ i, gt s.begun i = true → stN s i ≤ 1000 * l.length
  max : s.hours = [] → ∀ j < l.length, gt s.begun j = true ∨ wt l s.done j = true
structure Mid (l : List TaskR) (u : ShopR) (H : Nat) (s : PS) (i : Nat) : Prop where
  core : Core l s
  srt : s.hours.Pairwise (· < ·)
  nd : (s.ends.map Prod.fst).Nodup
  tsnd : ∀ h, (eGet h s.ends).Nodup
  mem : ∀ h i, i ∈ eGet h s.ends ↔ (live s i = true ∧ enN l s i = h)
  run : ∀ i, live s i = true → enN l s i ∈ s.hours
  fut : ∀ h ∈ s.hours, H < h
  st : ∀ i, gt s.begun i = true → stN s i ≤ H
  dn : ∀ i, gt s.done i = true ↔ (gt s.begun i = true ∧ enN l s i ≤ H)
  dep : ∀ i, gt s.begun i = true → ∀ k ∈ aft l i, gt s.begun k.toNat = true ∧ enN l s k.toNat ≤ stN s i
  fit : ∀ i, gt s.begun i = true → fitAt l u s (stN s i) = true
  bd : ∀ h ∈ s.hours, h ≤ 1000 * cnt s.begun
  hb : H ≤ 1000 * cnt s.begun
  sb : ∀ i, gt s.begun i = true → stN s i ≤ 1000 * l.length
  max : s.hours = [] → ∀ j < i, gt s.begun j = true ∨ wt l s.done j = true
def popS (l : List TaskR) (s : PS) (H : Nat) (rest : List Nat) : PS := { (eGet H s.ends).foldl (finF l) s with hours := rest, ends := eDel H s.ends }
theorem stN_congr {s s' : PS} (h : s'.starts = s.starts) (i : Nat) : stN s' i = stN s i := by unfold stN; rw [h]
theorem live_true {s : PS} {i : Nat} : live s i = true ↔ gt s.begun i = true ∧ gt s.done i = false := by unfold live; rw [Bool.and_eq_true, Bool.not_eq_true']
theorem fitAt_congr {l : List TaskR} {u : ShopR} {s s' : PS} {h : Nat} (hc : ∀ i < l.length, (gt s'.begun i && (decide (stN s' i ≤ h) && decide (h < enN l s' i))) = (gt s.begun i && (decide (stN s i ≤ h) && decide (h < enN l s i)))) : fitAt l u s' h = fitAt l u s h := by
  unfold fitAt
  congr 1
  unfold cntsAt
  apply List.map_congr_left
  intro k _
  congr 1
  exact cn_congr fun i hi => by unfold atB; rw [hc i hi]
theorem Head.pop {l : List TaskR} {u : ShopR} {s : PS} {H : Nat} {rest : List Nat} (h : Head l u s) (hV : ∀ t ∈ l, TaskV l.length t) (hh : s.hours = H :: rest) : Mid l u H (popS l s H rest) 0 := by
  obtain ⟨k1, k2, k3, k4⟩ := fin_keep l (eGet H s.ends) s
  obtain ⟨c1, c2⟩ := fin_all hV (eGet H s.ends) s h.core (h.tsnd H) (fun i hi => ((h.mem H i).1 hi).1)
  have hs : s.hours.Pairwise (· < ·) := h.srt
  rw [hh] at hs
  obtain ⟨p1, p2⟩ := List.pairwise_cons.1 hs
  have eb : (popS l s H rest).begun = s.begun := k1
  have es : (popS l s H rest).starts = s.starts := k2
  have ed : ∀ k, gt (popS l s H rest).done k = true ↔ gt s.done k = true ∨ k ∈ eGet H s.ends := c2
  have est : ∀ i, stN (popS l s H rest) i = stN s i := stN_congr es
  have een : ∀ i, enN l (popS l s H rest) i = enN l s i := fun i => by unfold enN; rw [est]
  have hcore : Core l (popS l s H rest) := ⟨c1.lb, c1.ld, c1.ls, c1.lu, c1.sub, c1.busy⟩
  have hlive : ∀ i, live (popS l s H rest) i = true ↔ live s i = true ∧ enN l s i ≠ H := fun i => by
    rw [live_true, live_true, eb]
    constructor
    · rintro ⟨q1, q2⟩
      have q3 : ¬ (gt s.done i = true ∨ i ∈ eGet H s.ends) := fun q => by rw [(ed i).2 q] at q2; cases q2
      rw [not_or] at q3
      have q4 : gt s.done i = false := by simpa using q3.1
      exact ⟨⟨q1, q4⟩, fun e => q3.2 ((h.mem H i).2 ⟨live_true.2 ⟨q1, q4⟩, e⟩)⟩
    · rintro ⟨⟨q1, q2⟩, q3⟩
      refine ⟨q1, ?_⟩
      cases hq : gt (popS l s H rest).done i with
      | false => rfl
      | true =>
        rcases (ed i).1 hq with q | q
        · rw [q] at q2; cases q2
        · exact absurd ((h.mem H i).1 q).2 q3
  refine ⟨hcore, p2, eDel_nodup H h.nd, fun k => ?_, fun k i => ?_, fun i hi => ?_, p1, fun i hi => ?_, fun i => ?_, fun i hi k hk => ?_, fun i hi => ?_, fun k hk => ?_, ?_, fun i hi => ?_, fun _ j hj => by omega⟩
  · show (eGet k (eDel H s.ends)).Nodup
    rw [eGet_del h.nd]
    split
    · exact List.nodup_nil
    · exact h.tsnd k
  · show i ∈ eGet k (eDel H s.ends) ↔ _
    rw [eGet_del h.nd, hlive, een]
    by_cases hk : k = H
    · subst hk
      rw [if_pos rfl]
      constructor
      · intro q; cases q
      · rintro ⟨⟨_, q⟩, e⟩; exact absurd e q
    · rw [if_neg hk, h.mem]
      constructor
      · rintro ⟨q1, q2⟩; exact ⟨⟨q1, fun e => hk (q2.symm.trans e)⟩, q2⟩
      · rintro ⟨⟨q1, _⟩, q2⟩; exact ⟨q1, q2⟩
  · rw [een]
    obtain ⟨q1, q2⟩ := (hlive i).1 hi
    have := h.run i q1
    rw [hh] at this
    rcases List.mem_cons.1 this with q | q
    · exact absurd q q2
    · exact q
  · rw [eb] at hi
    rw [est]
    have := h.past i hi H (by rw [hh]; exact .head _)
    omega
  · rw [ed, eb, een]
    constructor
    · rintro (q | q)
      · have := h.pastd i q H (by rw [hh]; exact .head _)
        exact ⟨h.core.sub i q, by omega⟩
      · obtain ⟨q1, q2⟩ := (h.mem H i).1 q
        exact ⟨(live_true.1 q1).1, by omega⟩
    · rintro ⟨q1, q2⟩
      cases hq : gt s.done i with
      | true => exact .inl rfl
      | false =>
        have hl : live s i = true := live_true.2 ⟨q1, hq⟩
        have hm := h.run i hl
        rw [hh] at hm
        refine .inr ((h.mem H i).2 ⟨hl, ?_⟩)
        rcases List.mem_cons.1 hm with q | q
        · exact q
        · have := p1 _ q; omega
  · rw [eb] at hi ⊢
    rw [een, est]
    exact h.dep i hi k hk
  · rw [eb] at hi
    rw [est, fitAt_congr (s := s) (fun j _ => by rw [eb, est, een])]
    exact h.fit i hi
  · rw [eb]; exact h.bd k (by rw [hh]; exact .tail _ hk)
  · rw [eb]; exact h.bd H (by rw [hh]; exact .head _)
  · rw [eb] at hi; rw [est]; exact h.sb i hi
end Go.Proofs.Ytoogicafefennaa
