/-
  The plan of a shop in plain terms: a task begins; all have begun in the end.
-/
import Derived.Test.YtoogicafefennaaNl
namespace Go.Proofs.Ytoogicafefennaa
open Go.RowKit Go.Sy
set_option linter.unusedVariables false
set_option linter.unusedSimpArgs false
theorem begF_t {l : List TaskR} {u : ShopR} {H : Nat} {s : PS} {i : Nat} {t : TaskR} (hx : l[i]? = some t) (hc : canF l u s i t = true) :
    begF l u H s i = ⟨insH (H + t.hours.toNat) s.hours, ePut (H + t.hours.toNat) i s.ends, addL s.busy t 1, s.begun.set i true, s.done, s.starts.set i H⟩ := by
  unfold begF; rw [hx]; simp only; rw [if_pos hc]
theorem begF_f {l : List TaskR} {u : ShopR} {H : Nat} {s : PS} {i : Nat} {t : TaskR} (hx : l[i]? = some t) (hc : canF l u s i t = false) : begF l u H s i = s := by
  unfold begF; rw [hx]; simp only; rw [if_neg (by rw [hc]; simp)]
theorem canF_true {l : List TaskR} {u : ShopR} {s : PS} {i : Nat} {t : TaskR} (hc : canF l u s i t = true) : gt s.begun i = false ∧ wt l s.done i = false ∧ fitsB (addL s.busy t 1) u = true := by
  unfold canF at hc
  cases h1 : gt s.begun i <;> cases h2 : wt l s.done i <;> cases h3 : fitsB (addL s.busy t 1) u <;> simp_all
theorem Mid.next {l : List TaskR} {u : ShopR} {H : Nat} {s : PS} {i : Nat} {t : TaskR} (h : Mid l u H s i) (hV : ∀ t ∈ l, TaskV l.length t) (hx : l[i]? = some t) (hfit : fitsB (addL zeroL t 1) u = true) : Mid l u H (begF l u H s i) (i + 1) := by
  have hi : i < l.length := (List.getElem?_eq_some_iff.1 hx).1
  have hvt := hV t (List.mem_of_getElem? hx)
  cases hc : canF l u s i t with
  | false =>
    rw [begF_f hx hc]
    refine { h with max := fun he j hj => ?_ }
    rcases Nat.lt_or_ge j i with q | q
    · exact h.max he j q
    · obtain rfl : j = i := by omega
      have hz : s.busy = zeroL := busy_zero h.core fun k => by
        cases hl : live s k with
        | false => rfl
        | true => have := h.run k hl; rw [he] at this; cases this
      unfold canF at hc
      rw [hz, hfit] at hc
      cases h1 : gt s.begun j with
      | true => exact .inl rfl
      | false =>
        cases h2 : wt l s.done j with
        | true => exact .inr rfl
        | false => rw [h1, h2] at hc; cases hc
  | true =>
    obtain ⟨b1, b2, b3⟩ := canF_true hc
    have hib : i < s.begun.length := by rw [h.core.lb]; exact hi
    have his : i < s.starts.length := by rw [h.core.ls]; exact hi
    have hcore := begS_core (hs := insH (H + t.hours.toNat) s.hours) (es := ePut (H + t.hours.toNat) i s.ends) (H := H) h.core hV hx b1
    rw [begF_t hx hc]
    have hh1 : 1 ≤ t.hours.toNat ∧ t.hours.toNat ≤ 1000 := by have := hvt.hours; omega
    obtain ⟨e, he⟩ : ∃ e, e = H + t.hours.toNat := ⟨_, rfl⟩
    rw [← he] at hcore ⊢
    obtain ⟨s', hs'⟩ : ∃ s' : PS, s' = ⟨insH e s.hours, ePut e i s.ends, addL s.busy t 1, s.begun.set i true, s.done, s.starts.set i H⟩ := ⟨_, rfl⟩
    rw [← hs'] at hcore ⊢
    have d1 : gt s.done i = false := by
      cases hq : gt s.done i with
      | false => rfl
      | true => rw [h.core.sub i hq] at b1; cases b1
    have eb : ∀ k, gt s'.begun k = if k = i then true else gt s.begun k := fun k => by rw [hs']; exact gt_set hib
    have ed : s'.done = s.done := by rw [hs']
    have est : ∀ k, stN s' k = if k = i then H else stN s k := fun k => by
      rw [hs']
      unfold stN
      rw [List.getD_eq_getElem?_getD, List.getElem?_set]
      by_cases hk : i = k
      · subst hk; simp [his]
      · rw [if_neg hk, if_neg (fun q => hk q.symm), ← List.getD_eq_getElem?_getD]
    have een : ∀ k, enN l s' k = if k = i then e else enN l s k := fun k => by
      unfold enN
      rw [est]
      by_cases hk : k = i
      · rw [if_pos hk, if_pos hk, hk, hN_at hx, he]
      · rw [if_neg hk, if_neg hk]
    have elv : ∀ k, live s' k = if k = i then true else live s k := fun k => by
      unfold live
      rw [eb, ed]
      by_cases hk : k = i
      · rw [if_pos hk, if_pos hk, hk, d1]; rfl
      · rw [if_neg hk, if_neg hk]
    have eh : ∀ k, k ∈ s'.hours ↔ k = e ∨ k ∈ s.hours := fun k => by rw [hs']; show k ∈ insH e s.hours ↔ _; rw [insH_eq, insL_mem]
    have ecnt : cnt s'.begun = cnt s.begun + 1 := by rw [hs']; exact cnt_set _ _ hib b1
    have eg : ∀ k, eGet k s'.ends = if k = e then eGet e s.ends ++ [i] else eGet k s.ends := fun k => by rw [hs']; exact eGet_put
    have hlH : ∀ k < l.length, live s' k = (gt s'.begun k && (decide (stN s' k ≤ H) && decide (H < enN l s' k))) := fun k hk => by
      rw [elv, eb, est, een]
      by_cases hki : k = i
      · rw [if_pos hki, if_pos hki, if_pos hki, if_pos hki, decide_eq_true (Nat.le_refl _), decide_eq_true (by omega)]; rfl
      · rw [if_neg hki, if_neg hki, if_neg hki, if_neg hki, Bool.eq_iff_iff, live_true]
        simp only [Bool.and_eq_true, decide_eq_true_iff]
        constructor
        · rintro ⟨q1, q2⟩
          refine ⟨q1, h.st k q1, ?_⟩
          rcases Nat.lt_or_ge H (enN l s k) with q | q
          · exact q
          · rw [(h.dn k).2 ⟨q1, q⟩] at q2; cases q2
        · rintro ⟨q1, q2, q3⟩
          refine ⟨q1, ?_⟩
          cases hq : gt s.done k with
          | false => rfl
          | true => have := ((h.dn k).1 hq).2; omega
    have hfitH : fitAt l u s' H = true := by
      unfold fitAt
      rw [← busy_eq hcore hlH, hs']
      exact b3
    refine ⟨hcore, by rw [hs']; show (insH e s.hours).Pairwise _; rw [insH_eq]; exact insL_sorted h.srt, by rw [hs']; exact ePut_nodup _ _ h.nd, fun k => ?_, fun k j => ?_, fun j hj => ?_, fun k hk => ?_, fun j hj => ?_, fun j => ?_, fun j hj k hk => ?_, fun j hj => ?_, fun k hk => ?_, ?_, fun j hj => ?_, fun hn => ?_⟩
    · rw [eg]
      split
      · rw [List.nodup_append]
        refine ⟨h.tsnd e, by simp, fun a ha b hb q => ?_⟩
        rw [List.mem_singleton.1 hb] at q
        subst q
        have := live_true.1 ((h.mem e a).1 ha).1
        rw [this.1] at b1; cases b1
      · exact h.tsnd k
    · rw [eg, elv, een]
      by_cases hji : j = i
      · subst hji
        rw [if_pos rfl, if_pos rfl]
        by_cases hke : k = e
        · subst hke; simp
        · rw [if_neg hke]
          constructor
          · intro q
            have := live_true.1 ((h.mem k j).1 q).1
            rw [this.1] at b1; cases b1
          · rintro ⟨_, q⟩; exact absurd q.symm hke
      · rw [if_neg hji, if_neg hji]
        by_cases hke : k = e
        · subst hke
          rw [if_pos rfl, List.mem_append, h.mem, List.mem_singleton]
          exact ⟨fun q => q.elim id (fun q => absurd q hji), .inl⟩
        · rw [if_neg hke]; exact h.mem k j
    · rw [elv] at hj
      rw [een, eh]
      by_cases hji : j = i
      · rw [if_pos hji]; exact .inl rfl
      · rw [if_neg hji] at hj ⊢; exact .inr (h.run j hj)
    · rcases (eh k).1 hk with q | q
      · omega
      · exact h.fut k q
    · rw [eb] at hj
      rw [est]
      by_cases hji : j = i
      · rw [if_pos hji]; exact Nat.le_refl _
      · rw [if_neg hji] at hj ⊢; exact h.st j hj
    · rw [ed, eb, een]
      by_cases hji : j = i
      · subst hji
        rw [if_pos rfl, if_pos rfl, d1]
        constructor
        · intro q; cases q
        · rintro ⟨_, q⟩; omega
      · rw [if_neg hji, if_neg hji]; exact h.dn j
    · rw [eb] at hj
      rw [eb, een, est]
      by_cases hji : j = i
      · subst hji
        have hdk := wt_false.1 b2 k hk
        have hk2 := (h.dn _).1 hdk
        have hki : k.toNat ≠ j := fun q => by rw [q] at hdk; rw [hdk] at d1; cases d1
        rw [if_neg hki, if_neg hki, if_pos rfl]
        exact hk2
      · rw [if_neg hji] at hj ⊢
        obtain ⟨q1, q2⟩ := h.dep j hj k hk
        have hki : k.toNat ≠ i := fun q => by rw [q] at q1; rw [q1] at b1; cases b1
        rw [if_neg hki, if_neg hki]
        exact ⟨q1, q2⟩
    · rw [eb] at hj
      by_cases hji : j = i
      · subst hji
        rw [est, if_pos rfl]; exact hfitH
      · rw [if_neg hji] at hj
        rw [est, if_neg hji]
        have hle := h.st j hj
        rcases Nat.lt_or_ge (stN s j) H with q | q
        · rw [fitAt_congr (s := s)]
          · exact h.fit j hj
          · intro k _
            rw [eb, est, een]
            by_cases hki : k = i
            · subst hki
              rw [if_pos rfl, if_pos rfl, if_pos rfl, b1, decide_eq_false (by omega)]; rfl
            · rw [if_neg hki, if_neg hki, if_neg hki]
        · rw [show stN s j = H by omega]; exact hfitH
    · rw [ecnt]
      have := h.hb
      rcases (eh k).1 hk with q | q
      · omega
      · have := h.bd k q; omega
    · rw [ecnt]; have := h.hb; omega
    · rw [eb] at hj
      rw [est]
      by_cases hji : j = i
      · rw [if_pos hji]
        have h1 := h.hb
        have h2 := cnt_le s.begun
        rw [h.core.lb] at h2
        omega
      · rw [if_neg hji] at hj ⊢; exact h.sb j hj
    · have := (eh e).2 (.inl rfl)
      rw [hn] at this; cases this
theorem Mid.end_ {l : List TaskR} {u : ShopR} {H : Nat} {s : PS} (h : Mid l u H s l.length) : Head l u s :=
  { core := h.core, srt := h.srt, nd := h.nd, tsnd := h.tsnd, mem := h.mem, run := h.run, dep := h.dep, fit := h.fit, bd := h.bd, sb := h.sb,
    past := fun i hi k hk => by have h1 := h.st i hi; have h2 := h.fut k hk; omega
    pastd := fun i hi k hk => by have h1 := ((h.dn i).1 hi).2; have h2 := h.fut k hk; omega
    max := h.max }
def begL (l : List TaskR) (u : ShopR) (H : Nat) (s : PS) (i : Nat) : PS := (List.range i).foldl (begF l u H) s
theorem begL_succ (l : List TaskR) (u : ShopR) (H : Nat) (s : PS) (i : Nat) : begL l u H s (i + 1) = begF l u H (begL l u H s i) i := by
  unfold begL
  rw [List.range_succ, List.foldl_append]; rfl
theorem Mid.all {l : List TaskR} {u : ShopR} {H : Nat} {s : PS} (h : Mid l u H s 0) (hV : ∀ t ∈ l, TaskV l.length t) (hfit : ∀ t ∈ l, fitsB (addL zeroL t 1) u = true) : ∀ i, i ≤ l.length → Mid l u H (begL l u H s i) i := by
  intro i
  induction i with
  | zero => exact fun _ => h
  | succ i ih =>
    intro hi
    rw [begL_succ]
    have hx : l[i]? = some l[i] := List.getElem?_eq_getElem (by omega)
    exact (ih (by omega)).next hV hx (hfit _ (List.mem_of_getElem? hx))
/-- How much is left to do. -/
def todo (l : List TaskR) (s : PS) : Nat := s.hours.length + (l.length - cnt s.begun)
theorem begF_todo {l : List TaskR} {u : ShopR} {H : Nat} {s : PS} {i : Nat} (hb : s.begun.length = l.length) : todo l (begF l u H s i) ≤ todo l s ∧ (begF l u H s i).begun.length = l.length := by
  unfold begF
  split
  · rename_i t hx
    split
    · rename_i hc
      obtain ⟨b1, _, _⟩ := canF_true hc
      have hi : i < l.length := (List.getElem?_eq_some_iff.1 hx).1
      have h1 := cnt_set s.begun i (by omega) b1
      have h2 := insL_len (H + t.hours.toNat) s.hours
      have h3 := cnt_le (s.begun.set i true)
      rw [List.length_set] at h3
      refine ⟨?_, by rw [List.length_set]; exact hb⟩
      unfold todo
      simp only
      rw [insH_eq]
      omega
    · exact ⟨Nat.le_refl _, hb⟩
  · exact ⟨Nat.le_refl _, hb⟩
theorem begL_todo {l : List TaskR} {u : ShopR} {H : Nat} {s : PS} (hb : s.begun.length = l.length) : ∀ i, todo l (begL l u H s i) ≤ todo l s ∧ (begL l u H s i).begun.length = l.length
  | 0 => ⟨Nat.le_refl _, hb⟩
  | i + 1 => by
    obtain ⟨h1, h2⟩ := begL_todo (u := u) (H := H) hb i
    rw [begL_succ]
    obtain ⟨h3, h4⟩ := begF_todo (u := u) (H := H) (i := i) h2
    exact ⟨Nat.le_trans h3 h1, h4⟩
theorem outP_eq {l : List TaskR} {u : ShopR} {s : PS} {H : Nat} {rest : List Nat} (hh : s.hours = H :: rest) : outP l u s = begL l u H (popS l s H rest) l.length := by
  unfold outP
  rw [hh]
  rfl
theorem Head.out {l : List TaskR} {u : ShopR} {s : PS} {H : Nat} {rest : List Nat} (h : Head l u s) (hV : ∀ t ∈ l, TaskV l.length t) (hfit : ∀ t ∈ l, fitsB (addL zeroL t 1) u = true) (hh : s.hours = H :: rest) : Head l u (outP l u s) ∧ todo l (outP l u s) < todo l s := by
  have hm := h.pop hV hh
  rw [outP_eq hh]
  refine ⟨(hm.all hV hfit l.length (Nat.le_refl _)).end_, ?_⟩
  have h1 := (begL_todo (u := u) (H := H) (s := popS l s H rest) hm.core.lb l.length).1
  have h2 : todo l (popS l s H rest) + 1 = todo l s := by
    unfold todo
    have : (popS l s H rest).begun = s.begun := (fin_keep l (eGet H s.ends) s).1
    rw [this, hh]
    show rest.length + _ + 1 = _
    simp only [List.length_cons]; omega
  omega
theorem planP_spec {l : List TaskR} {u : ShopR} (hV : ∀ t ∈ l, TaskV l.length t) (hfit : ∀ t ∈ l, fitsB (addL zeroL t 1) u = true) : ∀ (f : Nat) (s : PS), Head l u s → todo l s < f → Head l u (planP l u f s) ∧ (planP l u f s).hours = []
  | 0, s, _, h => by omega
  | f + 1, s, hs, h => by
    simp only [planP]
    cases hh : s.hours with
    | nil => exact ⟨hs, hh⟩
    | cons H rest =>
      obtain ⟨h1, h2⟩ := hs.out hV hfit hh
      exact planP_spec hV hfit f _ h1 (by omega)
theorem head0 {l : List TaskR} {u : ShopR} : Head l u (plan0 l.length) := by
  have hg : ∀ i, gt (plan0 l.length).begun i = true → False := fun i h => by
    have : gt (plan0 l.length).begun i = false := gt_rep
    rw [this] at h; cases h
  have hd : ∀ i, gt (plan0 l.length).done i = true → False := fun i h => by
    have : gt (plan0 l.length).done i = false := gt_rep
    rw [this] at h; cases h
  have hlv : ∀ i, live (plan0 l.length) i = true → False := fun i h => hg i (live_true.1 h).1
  have hlf : ∀ i, live (plan0 l.length) i = false := fun i => by
    cases h : live (plan0 l.length) i with
    | false => rfl
    | true => exact (hlv i h).elim
  have hc : Core l (plan0 l.length) := ⟨List.length_replicate, List.length_replicate, List.length_replicate, rfl, fun i hi => (hd i hi).elim, fun k hk => by
    rw [cn_zero (fun i _ => by rw [hlf]; rfl)]
    unfold bget plan0 zeroL
    rw [List.getD_eq_getElem?_getD, List.getElem?_replicate, if_pos hk]; rfl⟩
  exact { core := hc, srt := by simp [plan0], nd := by simp [plan0], tsnd := fun h => List.nodup_nil, mem := fun h i => ⟨fun q => (by cases q), fun q => (hlv i q.1).elim⟩, run := fun i hi => (hlv i hi).elim, past := fun i hi => (hg i hi).elim, pastd := fun i hi => (hd i hi).elim, dep := fun i hi => (hg i hi).elim, fit := fun i hi => (hg i hi).elim,
          bd := fun h hh => by (have : h = 0 := by simpa [plan0] using hh); omega, sb := fun i hi => (hg i hi).elim, max := fun hh => (by cases hh) }
def planS (l : List TaskR) (u : ShopR) : PS := planP l u (l.length + 2) (plan0 l.length)
theorem plan_head {l : List TaskR} {u : ShopR} (hV : ∀ t ∈ l, TaskV l.length t) (hfit : ∀ t ∈ l, fitsB (addL zeroL t 1) u = true) : Head l u (planS l u) ∧ (planS l u).hours = [] :=
  planP_spec hV hfit _ _ head0 (by
    unfold todo
    show 1 + (l.length - cnt (List.replicate l.length false)) < l.length + 2
    omega)
/-- In the end all have begun. -/
theorem plan_all {l : List TaskR} {u : ShopR} {o : List Nat} (hV : ∀ t ∈ l, TaskV l.length t) (hfit : ∀ t ∈ l, fitsB (addL zeroL t 1) u = true) (hT : Topo l o) (hn : ∀ i < l.length, i ∈ o) : ∀ i < l.length, gt (planS l u).begun i = true := by
  obtain ⟨h1, h2⟩ := plan_head (u := u) hV hfit
  have hnx : nextR l (planS l u).done = none := find_range_none fun j hj => by
    unfold canB
    rcases h1.max h2 j hj with q | q
    · cases hd : gt (planS l u).done j with
      | true => rfl
      | false =>
        have := h1.run j (live_true.2 ⟨q, hd⟩)
        rw [h2] at this; cases this
    · rw [q]; simp
  intro i hi
  exact h1.core.sub i (none_all hT hn hnx i hi)
end Go.Proofs.Ytoogicafefennaa
