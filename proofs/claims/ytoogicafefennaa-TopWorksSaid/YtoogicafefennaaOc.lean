/-
  Contracts: the longest chain of tasks (task.Critical).
-/
import Derived.Test.YtoogicafefennaaOb
namespace Go.Proofs.Ytoogicafefennaa
open Go.RowKit Go.Sy
set_option linter.unusedVariables false
set_option linter.unusedSimpArgs false
section
variable {P : Program} {N Be : Nat} {w0 : World} {H : Heap} {G : Bool} {e : Env} {ty : TypeId}
theorem ex_maxE {x y : Operand} {ts : Array TypeId} {k : IntKind} {m n r : Int} (hr : (if n > m then n else m) = r) (h1 : Ev G e x (.int k m)) (h2 : Ev G e y (.int k n)) : Ex P Be w0 H G e (.call ⟨.builtin .max, #[x, y], ts⟩) ty (.int k r) := hr ▸ ex_max h1 h2
end
theorem max_nat (a b : Nat) : (if (b : Int) > (a : Int) then (b : Int) else (a : Int)) = ((max a b : Nat) : Int) := by split <;> omega
theorem stC_get {xs : List Nat} {i : Nat} (h : i < xs.length) : (stC xs)[i]? = some (.int .i64 (xN xs i : Int)) := by
  unfold stC xN
  rw [List.getElem?_toArray, List.getElem?_map, List.getD_eq_getElem?_getD, List.getElem?_eq_getElem h]
  rfl
theorem xN_set {xs : List Nat} {i k v : Nat} (hi : i < xs.length) : xN (xs.set i v) k = if k = i then v else xN xs k := by
  unfold xN
  rw [List.getD_eq_getElem?_getD, List.getD_eq_getElem?_getD, List.getElem?_set]
  by_cases h : i = k
  · subst h; simp [hi]
  · rw [if_neg h, if_neg (fun q => h q.symm)]
theorem xN_rep (n k : Nat) : xN (List.replicate n 0) k = 0 := by
  unfold xN
  rw [List.getD_eq_getElem?_getD, List.getElem?_replicate]
  split <;> rfl
/-! Where a task stands in an order. -/
def posN : List Nat → Nat → Nat
  | [], _ => 0
  | x :: r, i => if x = i then 0 else posN r i + 1
theorem posN_at : ∀ {o : List Nat} {i : Nat}, i ∈ o → o[posN o i]? = some i
  | [], i, h => by cases h
  | x :: r, i, h => by
    unfold posN
    by_cases hx : x = i
    · rw [if_pos hx, hx]; rfl
    · rw [if_neg hx]
      rcases List.mem_cons.1 h with q | q
      · exact absurd q.symm hx
      · rw [List.getElem?_cons_succ]; exact posN_at q
theorem posN_le : ∀ {o : List Nat} {m i : Nat}, o[m]? = some i → posN o i ≤ m
  | [], m, i, h => by simp at h
  | x :: r, 0, i, h => by
    cases h
    unfold posN
    rw [if_pos rfl]; exact Nat.le_refl _
  | x :: r, m + 1, i, h => by
    unfold posN
    split
    · omega
    · have := posN_le (o := r) (m := m) (i := i) h
      omega
theorem posN_dep {l : List TaskR} {o : List Nat} (hT : Topo l o) (hn : ∀ i < l.length, i ∈ o) : ∀ i < l.length, ∀ k ∈ aft l i, posN o k.toNat < posN o i := fun i hi k hk => by
  have h1 := posN_at (hn i hi)
  have h2 := (hT _ _ h1).2.2
  have h3 := wt_false.1 h2 k hk
  have h4 := (doneOf_gt (fun x hx => hT.lt x (List.mem_of_mem_take hx)) _).1 h3
  obtain ⟨m, hm⟩ := List.getElem?_of_mem h4
  have hml : m < posN o i := by
    rcases Nat.lt_or_ge m (posN o i) with q | q
    · exact q
    · rw [List.getElem?_take, if_neg (by omega)] at hm; cases hm
  rw [List.getElem?_take, if_pos hml] at hm
  have := posN_le hm
  omega
theorem posN_inj {o : List Nat} {a b : Nat} (ha : a ∈ o) (hb : b ∈ o) (h : posN o a = posN o b) : a = b := by
  have h1 := posN_at ha
  rw [h, posN_at hb] at h1
  exact (Option.some.inj h1).symm
/-! What a call leaves. -/
def FR (E : Nat → Nat) (st en : List Nat) (k : Nat) : Prop := (xN st k = 0 ∧ xN en k = 0) ∨ (xN st k = 2 ∧ xN en k ≤ E k)
theorem FR.le {E : Nat → Nat} {st en : List Nat} {k : Nat} (h : FR E st en k) : xN en k ≤ E k := by rcases h with ⟨_, h⟩ | ⟨_, h⟩ <;> omega
structure CI (n : Nat) (pos E : Nat → Nat) (i : Nat) (st en st' en' : List Nat) : Prop where
  l1 : st'.length = n
  l2 : en'.length = n
  low : ∀ k < n, pos k ≤ pos i → FR E st' en' k
  high : ∀ k < n, pos i < pos k → xN st' k = xN st k ∧ xN en' k = xN en k
/-- In the middle of a call. -/
structure CM (n : Nat) (pos E : Nat → Nat) (i hi : Nat) (st en s1 e1 : List Nat) : Prop where
  l1 : s1.length = n
  l2 : e1.length = n
  here : xN e1 i + hi ≤ E i
  low : ∀ k < n, pos k < pos i → FR E s1 e1 k
  high : ∀ k < n, pos i < pos k → xN s1 k = xN st k ∧ xN e1 k = xN en k
theorem CM.start {n i h : Nat} {pos E : Nat → Nat} {st en : List Nat} (l1 : st.length = n) (l2 : en.length = n) (hi : i < n) (hFR : ∀ k < n, pos k ≤ pos i → FR E st en k) (h0 : xN en i = 0) (hE : h ≤ E i) : CM n pos E i h st en (st.set i 1) en := by
  refine ⟨by rw [List.length_set]; exact l1, l2, by omega, fun k hk hp => ?_, fun k hk hp => ?_⟩
  · have hne : ¬ k = i := fun q => by rw [q] at hp; omega
    have := hFR k hk (by omega)
    unfold FR at this ⊢
    rw [xN_set (by omega), if_neg hne]
    exact this
  · have hne : ¬ k = i := fun q => by rw [q] at hp; omega
    rw [xN_set (by omega), if_neg hne]
    exact ⟨rfl, rfl⟩
theorem CM.step {n i h K : Nat} {pos E : Nat → Nat} {st en s1 e1 s2 e2 : List Nat} (hM : CM n pos E i h st en s1 e1) (hi : i < n) (hK : K < n) (hp : pos K < pos i) (hC : CI n pos E K s1 e1 s2 e2) (hE : E K + h ≤ E i) : CM n pos E i h st en s2 (e2.set i (max (xN e2 i) (xN e2 K))) := by
  have h1 := (hC.high i hi hp).2
  have h2 := (hC.low K hK (Nat.le_refl _)).le
  have hh := hM.here
  refine ⟨hC.l1, by rw [List.length_set]; exact hC.l2, by rw [xN_set (by rw [hC.l2]; exact hi), if_pos rfl, h1]; omega, fun k hk hq => ?_, fun k hk hq => ?_⟩
  · have hne : ¬ k = i := fun q => by rw [q] at hq; omega
    unfold FR
    rw [xN_set (by rw [hC.l2]; exact hi), if_neg hne]
    rcases Nat.lt_or_ge (pos K) (pos k) with q | q
    · rw [(hC.high k hk q).1, (hC.high k hk q).2]
      exact hM.low k hk hq
    · exact hC.low k hk q
  · have hne : ¬ k = i := fun q => by rw [q] at hq; omega
    rw [xN_set (by rw [hC.l2]; exact hi), if_neg hne, (hC.high k hk (by omega)).1, (hC.high k hk (by omega)).2]
    exact hM.high k hk hq
theorem CM.end_ {n i h : Nat} {pos E : Nat → Nat} {st en s1 e1 : List Nat} (hM : CM n pos E i h st en s1 e1) (hinj : ∀ a < n, ∀ b < n, pos a = pos b → a = b) (hi : i < n) : CI n pos E i st en (s1.set i 2) (e1.set i (xN e1 i + h)) := by
  have hh := hM.here
  refine ⟨by rw [List.length_set]; exact hM.l1, by rw [List.length_set]; exact hM.l2, fun k hk hp => ?_, fun k hk hp => ?_⟩
  · unfold FR
    rw [xN_set (by rw [hM.l1]; exact hi), xN_set (by rw [hM.l2]; exact hi)]
    by_cases hki : k = i
    · rw [if_pos hki, if_pos hki, hki]; exact .inr ⟨rfl, hh⟩
    · rw [if_neg hki, if_neg hki]
      have : pos k ≠ pos i := fun q => hki (hinj k hk i hi q)
      exact hM.low k hk (by omega)
  · have hne : ¬ k = i := fun q => by rw [q] at hp; omega
    rw [xN_set (by rw [hM.l1]; exact hi), xN_set (by rw [hM.l2]; exact hi), if_neg hne, if_neg hne]
    exact hM.high k hk hp
theorem nat_row {w : World} {g n : Nat} {xs : List Nat} {tl : List Value} {T : TypeId} (hg : w.heap[g]? = some (.cells (xs.map iv ++ [iv 0] ++ tl).toArray T (0, 0))) (hl : xs.length = n) (hn : n < 9223372036854775807) : RdS w w.heap.size 1 natC (some ⟨g, 0, none⟩) (n + 1) (xs ++ [0]) :=
  RdS.ofRow (tail := tl) (by rw [nat_flat, List.map_append]; exact hg) (Array.getElem?_eq_some_iff.1 hg).1 (by rw [List.length_append, hl]; rfl) (by omega) (fun _ _ => rfl)
theorem Split.two {p q : Nat × Obj} {R : Heap} : Split (p :: q :: R) [p, q] R := Split.here (A := [p, q])
section
variable {P : Program} {N Be : Nat} {Q : Post} {e : Env} {w0 : World} {H : Heap} {ops : Array Oper} {rest : List Oper} {ty : TypeId} {pos : String} {after : Array Edge} {d : Nat}
/-- A call through a function value that changes the part A of the blocks. -/
theorem spl_callMv {c : Operand} {f : FuncId} {first cap : List Value} {xs : List Operand} {ts : Array TypeId} {vs : List Value} [TFn P f] {X : Type} {V : X → Value} {AA : X → Heap} {I : X → Prop} {A R : Heap} (hN : Nat.blt d N = true) (hcv : Ev true e c (.func (.func f) first.toArray cap.toArray)) (hx : Evs true e xs vs) (hs : Split H A R)
    (hc : ∀ w, Hp Be w0 (A ++ R) w → Calls P f (first ++ vs ++ cap).toArray w (RetX Be w0 V (fun x => AA x ++ R) I))
    (k : ∀ x, I x → Spl P N Be ops Q rest ((d, true, V x) :: e) w0 (AA x ++ R)) : Spl P N Be ops Q (⟨some d, .call ⟨.value c, xs.toArray, ts⟩, ty, pos, after, none⟩ :: rest) e w0 H := by
  intro a w hf hh
  have hd : d < N := by simpa [Nat.blt_eq] using hN
  refine wpList_plain rfl fun K hK => ?_
  unfold Oper.wp
  rw [exec_call (f := f) rfl (hcv N a hf rfl) (hx N a hf rfl), Oper.upon_enter]
  simp only [List.append_toArray]
  refine (hc w (hh.perm hs)).mono ?_
  rintro en w' ⟨x, rfl, hI, hw⟩
  exact hK _ _ (k x hI _ _ (hf.puttrue hd) hw)
end
end Go.Proofs.Ytoogicafefennaa
