/-
  The laws ConcedeNormal and ConcedePairs in plain terms.
-/
import Derived.Test.YtffbhbinnjpgnaaF0
namespace Go.Proofs.Ytffbhbinnjpgnaa
open Go.RowKit Go.Sy
set_option linter.unusedVariables false
set_option linter.unusedSimpArgs false
theorem normal_law {ks : List KindR} {subs : List SubR} {ps : List Part} {x : Part} {day : Int} (h : FleetOk ps) (hx : x ∈ ps) :
    (x.into = emp → permB ks [] ps x.name day = true ∧ permB ks subs ps x.name day = true) ∧
    (x.into ≠ emp → ∃ host, findP ps x.into = some host ∧ permB ks [] ps x.name day = normalB ks host.kind x.slot x.kind ∧ (!normalB ks host.kind x.slot x.kind || permB ks subs ps x.name day) = true) := by
  refine ⟨fun h0 => ?_, fun h0 => ?_⟩
  · rw [perm_find h hx, perm_find h hx, if_pos h0, if_pos h0]; exact ⟨rfl, rfl⟩
  · have hh := h.host x hx h0
    cases hf : findP ps x.into with
    | none => rw [hf] at hh; cases hh
    | some host =>
      refine ⟨host, rfl, ?_, ?_⟩
      · rw [perm_find h hx, if_neg h0, hf]; simp
      · rw [perm_find h hx, if_neg h0, hf]
        cases hn : normalB ks host.kind x.slot x.kind <;> simp [hn]
theorem subEq_iff (s t : SubR) : subEq s t = true ↔ s = t := by
  constructor
  · intro h
    simp only [subEq, Bool.and_eq_true, decide_eq_true_iff] at h
    obtain ⟨h1, h2, h3, h4, h5⟩ := h
    cases s; cases t
    simp only at h1 h2 h3 h4 h5
    simp [h1, h2, h3, h4, h5]
  · rintro rfl; simp [subEq]
def pairSubs (hk sa sb kind : ByteArray) (to : Int) : List SubR := [⟨hk, sa, kind, sb, to⟩, ⟨hk, sb, kind, sa, to⟩]
/-- By the two substitutions, at one of the slots. -/
theorem pair_any {ps : List Part} {hk into sa sb kind : ByteArray} {to day : Int} (hab : sa ≠ sb) (hb : sb ≠ emp) :
    (pairSubs hk sa sb kind to).any (subB ps hk into sa kind day) = (decide (day ≤ to) && ps.any (besideB into kind sb)) := by
  have e2 : subEq ⟨hk, sb, kind, sa, to⟩ (paperOf hk sa kind ⟨hk, sb, kind, sa, to⟩) = false := by
    cases h : subEq ⟨hk, sb, kind, sa, to⟩ (paperOf hk sa kind ⟨hk, sb, kind, sa, to⟩) with
    | false => rfl
    | true => rw [subEq_iff] at h; exact absurd (congrArg SubR.slot h).symm hab
  have e1 : subEq ⟨hk, sa, kind, sb, to⟩ (paperOf hk sa kind ⟨hk, sa, kind, sb, to⟩) = true := (subEq_iff _ _).2 rfl
  simp only [pairSubs, List.any_cons, List.any_nil, Bool.or_false, subB, e1, e2, Bool.true_and, Bool.false_and, hb, decide_false, Bool.false_or]
theorem pair_any2 {ps : List Part} {hk into sa sb kind : ByteArray} {to day : Int} (hab : sa ≠ sb) (ha : sa ≠ emp) :
    (pairSubs hk sa sb kind to).any (subB ps hk into sb kind day) = (decide (day ≤ to) && ps.any (besideB into kind sa)) := by
  have e2 : subEq ⟨hk, sa, kind, sb, to⟩ (paperOf hk sb kind ⟨hk, sa, kind, sb, to⟩) = false := by
    cases h : subEq ⟨hk, sa, kind, sb, to⟩ (paperOf hk sb kind ⟨hk, sa, kind, sb, to⟩) with
    | false => rfl
    | true => rw [subEq_iff] at h; exact absurd (congrArg SubR.slot h) hab
  have e1 : subEq ⟨hk, sb, kind, sa, to⟩ (paperOf hk sb kind ⟨hk, sb, kind, sa, to⟩) = true := (subEq_iff _ _).2 rfl
  simp only [pairSubs, List.any_cons, List.any_nil, Bool.or_false, subB, e1, e2, Bool.true_and, Bool.false_and, ha, decide_false, Bool.false_or]
/-- One part taken out. -/
def outP (b p : Part) : Part := if p.name = b.name then { p with into := emp, slot := emp } else p
theorem outP_name (b p : Part) : (outP b p).name = p.name := by unfold outP; split <;> rfl
theorem outP_kind (b p : Part) : (outP b p).kind = p.kind := by unfold outP; split <;> rfl
theorem find_out (b : Part) (s : ByteArray) : ∀ ps : List Part, findP (ps.map (outP b)) s = (findP ps s).map (outP b)
  | [] => rfl
  | p :: ps => by
    unfold findP
    rw [List.map_cons, List.find?_cons, List.find?_cons, outP_name]
    have ih := find_out b s ps
    unfold findP at ih
    by_cases h : p.name = s
    · simp [h]
    · simp [h, ih]
theorem pairs_law {ks : List KindR} {ps : List Part} {i j : Nat} {a b host : Part} {to day : Int} (h : FleetOk ps) (hi : ps[i]? = some a) (hj : ps[j]? = some b) (hf : findP ps a.into = some host) (hin : a.into = b.into) (hk : a.kind = b.kind) (hs : a.slot ≠ b.slot)
    (ha : normalB ks host.kind a.slot a.kind = false) (hb : normalB ks host.kind b.slot b.kind = false) :
    permB ks (pairSubs host.kind a.slot b.slot a.kind to) ps a.name day = decide (day ≤ to) ∧ permB ks (pairSubs host.kind a.slot b.slot a.kind to) ps b.name day = decide (day ≤ to) ∧
    permB ks (pairSubs host.kind a.slot b.slot a.kind to) (ps.map (outP b)) a.name day = false ∧ permB ks (pairSubs host.kind a.slot b.slot a.kind to) (ps.map (outP b)) b.name day = true := by
  have hma := List.mem_of_getElem? hi
  have hmb := List.mem_of_getElem? hj
  have hae : a.into ≠ emp := fun h0 => by
    obtain ⟨q1, q2⟩ := findP_name hf
    exact h.name _ q2 (q1.trans h0)
  have hbe : b.into ≠ emp := by rw [← hin]; exact hae
  have hsa : a.slot ≠ emp := fun q => hae ((h.both a hma).2 q)
  have hsb : b.slot ≠ emp := fun q => hbe ((h.both b hmb).2 q)
  have hab : a.name ≠ b.name := fun q => by
    have := h.dist i j a b hi hj q
    subst this
    rw [hi] at hj
    exact hs (congrArg Part.slot (Option.some.inj hj))
  have bb : ps.any (besideB a.into a.kind b.slot) = true := List.any_eq_true.2 ⟨b, hmb, by simp [besideB, hin, hk]⟩
  have ba : ps.any (besideB b.into b.kind a.slot) = true := List.any_eq_true.2 ⟨a, hma, by simp [besideB, hin, hk]⟩
  refine ⟨?_, ?_, ?_, ?_⟩
  · rw [perm_find h hma, if_neg hae, hf]
    simp only [ha, Bool.false_or]
    rw [pair_any hs hsb, bb, Bool.and_true]
  · rw [perm_find h hmb, if_neg hbe, ← hin, hf]
    simp only [hb, Bool.false_or]
    rw [← hk, pair_any2 hs hsa]
    rw [hin, hk, ba, Bool.and_true]
  · unfold permB
    have e1 : findP (ps.map (outP b)) a.name = some a := by
      rw [find_out, h.find hma]
      simp [outP, hab]
    have e2 : findP (ps.map (outP b)) a.into = some (outP b host) := by rw [find_out, hf]; rfl
    rw [e1]
    simp only
    rw [if_neg hae, e2]
    simp only [outP_kind, ha, Bool.false_or]
    rw [pair_any hs hsb]
    have : (ps.map (outP b)).any (besideB a.into a.kind b.slot) = false := by
      rw [List.any_eq_false]
      intro x hx
      obtain ⟨p, hp, rfl⟩ := List.mem_map.1 hx
      intro hbs
      simp only [besideB, Bool.and_eq_true, decide_eq_true_iff] at hbs
      obtain ⟨⟨q1, q2⟩, -⟩ := hbs
      unfold outP at q1 q2
      split at q1
      · exact hae q1.symm
      · rename_i hne
        rw [if_neg hne] at q2
        obtain ⟨m, hm, hem⟩ := List.mem_iff_getElem.1 hp
        have hmp : ps[m]? = some p := by rw [← hem]; exact List.getElem?_eq_getElem hm
        have := h.seat m j p b hmp hj (by rw [q1]; exact hae) (q1.trans hin) q2
        subst this
        rw [hmp] at hj
        exact hne (congrArg Part.name (Option.some.inj hj))
    rw [this, Bool.and_false]
  · unfold permB
    have e1 : findP (ps.map (outP b)) b.name = some (outP b b) := by rw [find_out, h.find hmb]; rfl
    rw [e1]
    simp [outP]
end Go.Proofs.Ytffbhbinnjpgnaa
