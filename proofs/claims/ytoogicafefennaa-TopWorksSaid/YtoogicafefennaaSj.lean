/-
  The layer 'Sy': jumps back to a label.
-/
import Derived.Test.YtoogicafefennaaSm
import Derived.ScopeJumps
namespace Go.Sy
open Go.RowKit
set_option linter.unusedVariables false
set_option linter.unusedSimpArgs false
section
variable {P : Program} {N Be : Nat} {Q : Post} {e : Env} {w0 : World} {H : Heap} {K : Env → World → Heap → Prop}
def jumpQ (l : Nat) (K : Env → World → Heap → Prop) (Q : Post) : Post := fun x e w H => match x with | .goto l' => l' = l ∧ K e w H | x => Q x e w H
theorem sp_goto {l : Nat} (h : Q (.goto l) e w0 H) : Spc P N Be (.goto l) Q e w0 H := fun a w hf hh => wp_goto ⟨e, w0, H, hf, hh, h⟩
theorem then_g {l : Nat} (h : Q (.goto l) e w0 H) : thenQ K Q (.goto l) e w0 H := h
theorem block_g {id l : Nat} (h : Q (.goto l) e w0 H) : blockQ id Q (.goto l) e w0 H := h
theorem jump_n {l : Nat} (h : Q .normal e w0 H) : jumpQ l K Q .normal e w0 H := h
theorem jump_r {l : Nat} (h : Q .ret e w0 H) : jumpQ l K Q .ret e w0 H := h
theorem jump_e {l id : Nat} (h : Q (.exit id) e w0 H) : jumpQ l K Q (.exit id) e w0 H := h
theorem jump_g {l : Nat} (h : K e w0 H) : jumpQ l K Q (.goto l) e w0 H := ⟨rfl, h⟩
/-- What holds at a jump: a state of the family. -/
def jumpK {X : Type} (E : X → Env) (W : X → World) (HH : X → Heap) (I : X → Prop) (e' : Env) (w' : World) (H' : Heap) : Prop := ∃ x, I x ∧ ESub (E x) e' ∧ W x = w' ∧ HKeep w' (HH x) H'
def jumpM {X : Type} (E : X → Env) (W : X → World) (HH : X → Heap) (I : X → Prop) (m : X → Nat) (n : Nat) (e' : Env) (w' : World) (H' : Heap) : Prop := ∃ x, I x ∧ m x < n ∧ ESub (E x) e' ∧ W x = w' ∧ HKeep w' (HH x) H'
theorem sp_jumps {c rest : Code} {X : Type} (l : Nat) (E : X → Env) (W : X → World) (HH : X → Heap) (I : X → Prop) (m : X → Nat) (hf : findLabel c l = some (.seq .skip rest))
    (pass : ∀ x, I x → Spc P N Be rest (jumpQ l (jumpM E W HH I m (m x)) Q) (E x) (W x) (HH x))
    (first : (∀ x e H, I x → ESub (E x) e → HKeep (W x) (HH x) H → Spc P N Be rest (jumpQ l (jumpK E W HH I) Q) e (W x) H) → Spc P N Be c (jumpQ l (jumpK E W HH I) Q) e w0 H) : Spc P N Be (.scope c) Q e w0 H := by
  have first' := first (fun x e H hI he hH => by
    refine ((pass x hI).weaken he hH).mono fun ex e' w' H' hq => ?_
    cases ex <;> first | exact hq | skip
    obtain ⟨h1, x', h2, _, h3⟩ := hq
    exact ⟨h1, x', h2, h3⟩)
  intro a w hfr hh b k cs
  have hg : gotoIn l (.inScope c :: k) = some (.code (.seq .skip rest) :: .inScope c :: k) := by simp [gotoIn, hf]
  have key : ∀ (n : Nat) (x : X) (a : Act) (w : World), m x = n → I x → Fr N (E x) a → Hp Be (W x) (HH x) w →
      ∃ e a' w', lift N Be Q e a' w' ∧ Arrives P (lone (b.at a (.code (.seq .skip rest) :: .inScope c :: k)) cs w) b k cs e a' w' := by
    intro n
    induction n using Nat.strongRecOn with
    | _ n ih =>
      intro x a w hn hI hfr hh
      have hs : Spc P N Be (.seq .skip rest) (jumpQ l (jumpM E W HH I m (m x)) Q) (E x) (W x) (HH x) := sp_seq (sp_skip (pass x hI))
      obtain ⟨ex, a₁, w₁, hq, harr⟩ := hs a w hfr hh b (.inScope c :: k) cs
      obtain ⟨e', w', H', q1, q2, q3⟩ := hq
      cases ex with
      | normal => exact ⟨.normal, a₁, w₁, ⟨e', w', H', q1, q2, q3⟩, Steps.trans harr (.one step_inScope)⟩
      | exit id => exact ⟨.exit id, a₁, w₁, ⟨e', w', H', q1, q2, q3⟩, fun k' hk => harr k' (by simp [exitTo, hk])⟩
      | goto l' =>
        obtain ⟨rfl, x', h1, h2, h3, h4, h5⟩ := q3
        subst h4
        obtain ⟨e₂, a₂, w₂, hq₂, harr₂⟩ := ih (m x') (by omega) x' a₁ w₁ rfl h1 (q1.sub h3) (q2.sub h5)
        exact ⟨e₂, a₂, w₂, hq₂, .of_steps (harr _ hg) harr₂⟩
      | ret => exact ⟨_, a₁, w₁, ⟨e', w', H', q1, q2, q3⟩, harr⟩
      | panic ch => exact ⟨_, a₁, w₁, ⟨e', w', H', q1, q2, q3⟩, harr⟩
      | outgrown => exact ⟨_, a₁, w₁, ⟨e', w', H', q1, q2, q3⟩, harr⟩
  obtain ⟨ex, a₁, w₁, hq, harr⟩ := first' a w hfr hh b (.inScope c :: k) cs
  obtain ⟨e', w', H', q1, q2, q3⟩ := hq
  cases ex with
  | normal => exact ⟨.normal, a₁, w₁, ⟨e', w', H', q1, q2, q3⟩, .head step_scope (Steps.trans harr (.one step_inScope))⟩
  | exit id => exact ⟨.exit id, a₁, w₁, ⟨e', w', H', q1, q2, q3⟩, fun k' hk => .head step_scope (harr k' (by simp [exitTo, hk]))⟩
  | goto l' =>
    obtain ⟨rfl, x', h1, h3, h4, h5⟩ := q3
    subst h4
    obtain ⟨e₂, a₂, w₂, hq₂, harr₂⟩ := key _ x' a₁ w₁ rfl h1 (q1.sub h3) (q2.sub h5)
    exact ⟨e₂, a₂, w₂, hq₂, .of_steps (.head step_scope (harr _ hg)) harr₂⟩
  | ret => exact ⟨_, a₁, w₁, ⟨e', w', H', q1, q2, q3⟩, .of_steps (.one step_scope) harr⟩
  | panic ch => exact ⟨_, a₁, w₁, ⟨e', w', H', q1, q2, q3⟩, .of_steps (.one step_scope) harr⟩
  | outgrown => exact ⟨_, a₁, w₁, ⟨e', w', H', q1, q2, q3⟩, .of_steps (.one step_scope) harr⟩
theorem sp_straight {c : Code} (h : Spc P N Be c (jumpQ 0 (fun _ _ _ => False) Q) e w0 H) : Spc P N Be (.scope c) Q e w0 H := by
  intro a w hf hh
  refine wp_scope_straight (wp_mono (h a w hf hh) ?_)
  rintro x a w ⟨e, w0, H, h1, h2, h3⟩
  cases x <;> first | exact ⟨e, w0, H, h1, h2, h3⟩ | skip
  exact h3.2.elim
end
end Go.Sy
