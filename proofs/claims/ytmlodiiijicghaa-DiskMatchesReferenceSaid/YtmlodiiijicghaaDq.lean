/-
  The laws about the disk in plain terms.
-/
import Derived.Test.YtmlodiiijicghaaD8
namespace Go.Proofs.Ytmlodiiijicghaa
open Go.RowKit Go.Sy
set_option linter.unusedVariables false
set_option linter.unusedSimpArgs false

def St.run (S : St) (l : List ActR) : St := l.foldl (fun S a => (S.act a).1) S
theorem run_snoc (S : St) (l : List ActR) (a : ActR) : S.run (l ++ [a]) = ((S.run l).act a).1 := by simp [St.run]
theorem len_fail (S : St) (w b : Int) : (S.fail w b).st.length = S.st.length := by
  unfold St.fail
  split
  · rfl
  · show (tornP _ _ _).length = _
    rw [length_tornP, length_settleP]
theorem len_count (S : St) : S.count.1.st.length = S.st.length := by
  unfold St.count
  split
  · rfl
  · exact len_fail _ _ _
  · rfl
theorem len_write (S : St) (s : Int) (t : ByteArray) : (S.write s t).1.st.length = S.st.length := by
  unfold St.write
  split
  · split
    · exact len_count _
    · rfl
  · rfl
theorem len_settled (S : St) : S.settled.st.length = S.st.length := length_settleP _ _
theorem len_sync (S : St) : S.sync.1.st.length = S.st.length := by
  unfold St.sync
  split
  · rfl
  · split
    · exact (len_settled _).trans (len_count _)
    · exact len_count _
theorem len_arm (S : St) (a w b : Int) : (S.arm a w b).st.length = S.st.length := by unfold St.arm; split <;> rfl
theorem len_rot (S : St) (s i m : Int) : (S.rot s i m).st.length = S.st.length := by unfold St.rot; split <;> simp
theorem len_act (S : St) (a : ActR) : (S.act a).1.st.length = S.st.length := by
  unfold St.act
  repeat' split
  all_goals first | rfl | exact len_write _ _ _ | exact len_sync _ | exact len_fail _ _ _ | exact len_arm _ _ _ _ | exact len_rot _ _ _ _
theorem q_fail (S : St) (w b : Int) : (S.fail w b).q.length ≤ S.q.length := by
  unfold St.fail
  split
  · exact Nat.le_refl _
  · exact Nat.zero_le _
theorem q_count (S : St) : S.count.1.q.length ≤ S.q.length := by
  unfold St.count
  split
  · exact Nat.le_refl _
  · exact q_fail _ _ _
  · exact Nat.le_refl _
theorem q_act (S : St) (a : ActR) : (S.act a).1.q.length ≤ S.q.length + 1 := by
  unfold St.act
  repeat' split
  all_goals try exact Nat.le_succ _
  · unfold St.write
    split
    · split
      · refine Nat.le_trans (q_count _) ?_
        simp
      · exact Nat.le_succ _
    · exact Nat.le_succ _
  · unfold St.sync
    split
    · exact Nat.le_succ _
    · split
      · exact Nat.zero_le _
      · exact Nat.le_trans (q_count _) (Nat.le_succ _)
  · exact Nat.le_trans (q_fail _ _ _) (Nat.le_succ _)
  · unfold St.arm; split <;> exact Nat.le_succ _
  · unfold St.rot; split <;> exact Nat.le_succ _
theorem Inv.act {S : St} (h : Inv S) (a : ActR) : Inv (S.act a).1 := by
  unfold St.act
  repeat' split
  all_goals first | exact h | exact h.write _ _ | exact h.sync | exact h.fail _ _ | exact h.start | exact h.arm _ _ _ | exact h.rot _ _ _
theorem run_len (S : St) : ∀ (l : List ActR), (S.run l).st.length = S.st.length := by
  intro l
  induction l generalizing S with
  | nil => rfl
  | cons a l ih => exact (ih (S.act a).1).trans (len_act S a)
theorem run_q (S : St) : ∀ (l : List ActR), (S.run l).q.length ≤ S.q.length + l.length := by
  intro l
  induction l generalizing S with
  | nil => exact Nat.le_refl _
  | cons a l ih =>
    have h1 := ih (S.act a).1
    have h2 := q_act S a
    simp only [List.length_cons]
    exact Nat.le_trans h1 (by omega)
theorem run_inv {S : St} (h : Inv S) : ∀ (l : List ActR), Inv (S.run l) := by
  intro l
  induction l generalizing S with
  | nil => exact h
  | cons a l ih => exact ih (h.act a)

/-! ### A disk that is on and not armed -/
structure On (S : St) : Prop where
  off : S.off = false
  ar : S.ar = none
theorem on_start (S : St) : On S.start := ⟨rfl, rfl⟩
theorem on_settled {S : St} (h : On S) : On S.settled := ⟨h.off, h.ar⟩
theorem sync_on {S : St} (h : On S) : S.sync = (S.settled, 0) := by
  have : S.count = (S, 0) := by simp [St.count, h.ar]
  simp [St.sync, h.off, this]
/-- Some writes more. -/
def St.more (S : St) (ps : List (Nat × ByteArray)) : St := { S with q := S.q ++ ps }
theorem more_nil (S : St) : S.more [] = S := by simp [St.more]
theorem more_snoc (S : St) (ps : List (Nat × ByteArray)) (p : Nat × ByteArray) : S.more (ps ++ [p]) = { S.more ps with q := (S.more ps).q ++ [p] } := by simp [St.more]
theorem on_more {S : St} (h : On S) (ps : List (Nat × ByteArray)) : On (S.more ps) := ⟨h.off, h.ar⟩
def goodW (N : Nat) (a : ActR) : Bool := decide (0 ≤ a.sector ∧ a.sector < N ∧ a.full.size = 64)
def wrs (N : Nat) (l : List ActR) : List (Nat × ByteArray) := (l.filter (goodW N)).map fun a => (a.sector.toNat, a.full)
theorem wrs_snoc (N : Nat) (l : List ActR) (a : ActR) : wrs N (l ++ [a]) = wrs N l ++ (if goodW N a then [(a.sector.toNat, a.full)] else []) := by
  unfold wrs
  rw [List.filter_append, List.map_append]
  cases h : goodW N a <;> simp [h]
theorem wrs_len (N : Nat) (l : List ActR) : (wrs N l).length ≤ l.length := by
  unfold wrs
  rw [List.length_map]
  exact List.length_filter_le _ _
theorem wrs_ok {N : Nat} {l : List ActR} : ∀ p ∈ wrs N l, p.1 < N ∧ p.2.size = 64 := by
  intro p hp
  obtain ⟨a, ha, rfl⟩ := List.mem_map.1 hp
  have := (List.mem_filter.1 ha).2
  have := of_decide_eq_true this
  simp only
  omega
theorem write_good {S : St} (h : On S) {N : Nat} (hN : S.st.length = N) {a : ActR} (hg : goodW N a = true) : S.write a.sector a.full = ({ S with q := S.q ++ [(a.sector.toNat, a.full)] }, 0) := by
  have hg' := of_decide_eq_true hg
  have h0 : S.at_ a.sector = 0 := by
    unfold St.at_
    rw [h.off]
    simp only [Bool.false_eq_true, if_false]
    rw [if_pos (by omega)]
  simp [St.write, h0, hg'.2.2, St.count, h.ar]
theorem write_bad {S : St} (h : On S) {N : Nat} (hN : S.st.length = N) {a : ActR} (hg : goodW N a = false) : S.write a.sector a.full = (S, 1) := by
  have hg' := of_decide_eq_false hg
  by_cases h1 : 0 ≤ a.sector ∧ a.sector < S.st.length
  · have h0 : S.at_ a.sector = 0 := by unfold St.at_; rw [h.off]; simp [h1]
    have h2 : ¬ a.full.size = 64 := by omega
    simp [St.write, h0, h2]
  · have h0 : S.at_ a.sector = 1 := by unfold St.at_; rw [h.off]; simp only [Bool.false_eq_true, if_false]; rw [if_neg h1]
    simp [St.write, h0]
theorem write_more {S : St} (h : On S) {N : Nat} (hN : S.st.length = N) (ps : List (Nat × ByteArray)) {a : ActR} : (S.more ps).write a.sector a.full = (S.more (ps ++ (if goodW N a then [(a.sector.toNat, a.full)] else [])), if goodW N a then 0 else 1) := by
  cases hg : goodW N a with
  | true =>
    have := write_good (on_more h ps) (N := N) hN hg
    rw [this]
    simp [more_snoc]
  | false =>
    have := write_bad (on_more h ps) (N := N) hN hg
    rw [this]
    simp
theorem more_inv {S : St} (h : Inv S) {ps : List (Nat × ByteArray)} (hp : ∀ p ∈ ps, p.1 < S.st.length ∧ p.2.size = 64) : Inv (S.more ps) :=
  ⟨h.sz, fun p hq => by
    rcases List.mem_append.1 hq with hq | hq
    · exact h.qs p hq
    · exact hp p hq, h.lo, h.hi⟩

theorem secP_set_ne {l : List ByteArray} {s i : Nat} {t : ByteArray} (h : s ≠ i) : secP (setP l s t) i = secP l i := by
  unfold secP setP
  rw [List.getElem?_set_ne h]
theorem secP_set_eq {l : List ByteArray} {s : Nat} {t : ByteArray} (h : s < l.length) : secP (setP l s t) s = mixB t (secP l s) := by
  unfold secP setP
  rw [List.getElem?_set_self h]; rfl
theorem secP_settle_ne : ∀ (ps : List (Nat × ByteArray)) (l : List ByteArray) {i : Nat}, (∀ p ∈ ps, p.1 ≠ i) → secP (settleP ps l) i = secP l i
  | [], l, i, _ => rfl
  | p :: ps, l, i, h => by
    show secP (settleP ps (setP l p.1 p.2)) i = _
    rw [secP_settle_ne ps _ fun q hq => h q (.tail _ hq), secP_set_ne (h p (.head _))]
theorem mixB_full {t o : ByteArray} (h : o.size ≤ t.size) : mixB t o = t := by
  unfold mixB
  have : o.data.toList.drop t.size = [] := List.drop_eq_nil_of_le (by simpa using h)
  rw [this, List.append_nil]
/-- What is read is what will be stable. -/
theorem cur_settle (S : St) (hi : Inv S) {i : Nat} (h : i < S.st.length) : S.cur i = secP (settleP S.q S.st) i := by
  have hq := hi.qs
  have hsz := hi.sz
  unfold St.cur
  generalize S.q = q at hq
  generalize S.st = l at *
  have key : ∀ (n : Nat) (q : List (Nat × ByteArray)), q.length = n → (∀ p ∈ q, p.1 < l.length ∧ p.2.size = 64) → (lastQ q i).getD (secP l i) = secP (settleP q l) i := by
    intro n
    induction n with
    | zero => intro q hn _; rw [List.eq_nil_of_length_eq_zero hn]; rfl
    | succ n ih =>
      intro q hn hq
      obtain ⟨r, p, rfl⟩ : ∃ r p, q = r ++ [p] := by
        rcases List.eq_nil_or_concat q with h | ⟨r, p, h⟩
        · rw [h] at hn; cases hn
        · exact ⟨r, p, by simpa using h⟩
      have hr := ih r (by simpa using hn) fun x hx => hq x (by simp [hx])
      have hp := hq p (by simp)
      rw [settleP_append]
      show _ = secP (setP (settleP r l) p.1 p.2) i
      have hl := length_settleP r l
      by_cases hpi : p.1 = i
      · subst hpi
        rw [secP_set_eq (by omega)]
        have h1 : lastQ (r ++ [p]) p.1 = some p.2 := by unfold lastQ; simp
        rw [h1]
        have h2 := secP_size (settleP_sz r l hsz fun x hx => hq x (by simp [hx])) (s := p.1) (by omega)
        rw [mixB_full (by omega)]; rfl
      · rw [secP_set_ne hpi, ← hr]
        have h1 : lastQ (r ++ [p]) i = lastQ r i := by unfold lastQ; simp [hpi]
        rw [h1]
  exact key _ q rfl hq
theorem cur_noq {S : St} (h : S.q = []) (i : Nat) : S.cur i = secP S.st i := by unfold St.cur; rw [h]; rfl
theorem mem_take_of {α : Type} {x : α} {l : List α} {n : Nat} (h : x ∈ l.take n) : x ∈ l := List.mem_of_mem_take h
/-- DiskStable. -/
theorem stable_pure {S : St} (hq : S.q = []) (h : On S) (ps : List (Nat × ByteArray)) (w b : Int) {i : Nat} (hi : ∀ p ∈ ps, p.1 ≠ i) : ((S.more ps).fail w b).start.cur i = S.cur i := by
  have hm : (S.more ps).q = ps := by simp [St.more, hq]
  have hf : (S.more ps).fail w b = ⟨tornP (settleP (ps.take (clampN w ps.length)) S.st) ps[clampN w ps.length]? (clampN b 64), [], true, none⟩ := by
    unfold St.fail
    rw [(on_more h ps).off, hm]
    rfl
  rw [hf, cur_noq rfl, cur_noq hq]
  show secP (tornP _ _ _) i = _
  have h1 : secP (settleP (ps.take (clampN w ps.length)) S.st) i = secP S.st i := secP_settle_ne _ _ fun p hp => hi p (mem_take_of hp)
  unfold tornP
  split
  · rename_i p hp
    split
    · rw [secP_set_ne (hi p (List.mem_of_getElem? hp))]; exact h1
    · exact h1
  · exact h1
end Go.Proofs.Ytmlodiiijicghaa
