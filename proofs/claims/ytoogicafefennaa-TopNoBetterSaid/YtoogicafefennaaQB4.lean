/-
  Panics: drawn regions in which a call may panic, calls that may panic, code behind a deferred call.
-/
import Derived.Test.YtoogicafefennaaQB3
import Derived.Test.YtoogicafefennaaQB2
import Derived.Recover
import Derived.RecoverIn
import Derived.WideLaws
namespace Go.Sy
set_option linter.unusedVariables false
open Go.RowKit
set_option linter.unusedVariables false
set_option linter.unusedSimpArgs false
section core
variable {P : Program} {ops : Array Oper} {md : Region.Mode}
abbrev PX := List PanicEntry → Act → World → Prop
def exP (PQ : PX) : Exit → Act → World → Prop := fun x a w => match x with | .panic ch => PQ ch a w | _ => False
def opP (P : Program) (PQ : PX) (ops : Array Oper) (i : Nat) (K : Act → World → Prop) (a : Act) (w : World) : Prop :=
  match ops[i]? with
  | none => K a w
  | some o => if Region.wanted o (yielded ops a.tmps) then o.wp P a w K (exP PQ) else K (a.put o.dst undef) w
def wpP (P : Program) (PQ : PX) (md : Region.Mode) (ops : Array Oper) (m : Nat) (C : World → Prop) (Q : Act → World → Prop) : Nat → Array Bool → Act → World → Prop
  | 0, listed, a, w => Region.ready md ops listed = [] ∧ Q a w
  | f + 1, listed, a, w => (Region.ready md ops listed = [] → Q a w) ∧ ∀ i ∈ Region.ready md ops listed, opP P PQ ops i (fun a' w' => (i < m → C w') ∧ wpP P PQ md ops m C Q f (listed.setIfInBounds i true) a' w') a w
theorem Oper.wp_mono3 {o : Oper} {a : Act} {w : World} {K K' : Act → World → Prop} {Q Q' : Exit → Act → World → Prop} (h : ∀ a w, K a w → K' a w) (hq : ∀ x a w, Q x a w → Q' x a w) (hh : o.wp P a w K Q) : o.wp P a w K' Q' := by
  unfold Oper.wp at *
  generalize (execOp a.eval o).run P w = r at *
  cases r with
  | ok n w' =>
    cases n <;> simp only [Oper.upon] at hh ⊢
    case enter f args =>
      refine hh.mono fun e w'' he => ?_
      cases e with
      | returned v => exact h _ _ he
      | panicked c => exact hq _ _ _ he
      | outgrown => obtain ⟨a0, w0, hf⟩ := he; exact ⟨a0, w0, hq _ _ _ hf⟩
    case row => exact hh.mono fun _ _ he => h _ _ he
    all_goals first | exact h _ _ hh | exact hh
  | halt x w' =>
    cases x <;> simp only [Oper.upon] at hh ⊢
    exact hq _ _ _ hh
theorem ReadsAs.opP {PQ : PX} {C : World → Prop} {i : Nat} {o : Oper} {v : Value} {a : Act} {w : World} {K : Act → World → Prop} (hi : ops[i]? = some o) (hy : ReadsAs P ops C o v a) (hC : C w) (h : K (a.put o.dst v) w) : opP P PQ ops i K a w := by
  unfold Go.Sy.opP
  simp only [hi]
  rcases hy with ⟨hw, hv⟩ | ⟨hw, rfl⟩
  · simp only [hw, if_true, Oper.wp, hv w hC, Oper.upon_value]; exact h
  · simp only [hw, Bool.false_eq_true, if_false]; exact h
theorem opP_put {PQ : PX} {C : World → Prop} {j : Nat} {oi oj : Oper} {v : Value} (hPQ : ∀ ch a w, PQ ch (a.put oi.dst v) w → PQ ch a w) (hj : ops[j]? = some oj) (hap : oi.apart ops oj = true)
    (hsi : ∀ cs b, oi.op ≠ .select cs b) (hsj : ∀ cs b, oj.op ≠ .select cs b) {K : Act → World → Prop} {a : Act} {w : World}
    (hy : ReadsAs P ops C oi v a) (hd : ∀ (a : Act) (d : Deferred), ReadsAs P ops C oi v a → ReadsAs P ops C oi v { a with defers := d :: a.defers }) (h : opP P PQ ops j K (a.put oi.dst v) w) :
    opP P PQ ops j (fun a' w' => ReadsAs P ops C oi v a' ∧ K (a'.put oi.dst v) w') a w := by
  obtain ⟨h1, h2, h3⟩ := Oper.apart_spec hap
  have keep : ∀ (a : Act), ReadsAs P ops C oi v a → ∀ u, ReadsAs P ops C oi v (a.put oj.dst u) := fun a hy u =>
    hy.of_same (execOp_put oi hsi a oj.dst u h3) (wanted_put oi a oj.dst u h3)
  unfold opP at *
  simp only [hj] at *
  rw [wanted_put oj a oi.dst v h1] at h
  split
  · rename_i hw
    simp only [hw, if_true] at h
    unfold Oper.wp at *
    rw [execOp_put oj hsj a oi.dst v h1] at h
    generalize (execOp a.eval oj).run P w = r at *
    cases r with
    | ok n w' =>
      cases n <;> simp only [Oper.upon] at h ⊢
      case value u => exact ⟨keep a hy u, by rw [← Act.put_comm a v u h2]; exact h⟩
      case skip => exact ⟨keep a hy _, by rw [← Act.put_comm a v undef h2]; exact h⟩
      case defer d => exact ⟨keep _ (hd a d hy) _, by rw [← put_defers _ _ _ _ _ _ h2]; exact h⟩
      case enter f args =>
        refine h.mono fun e w'' he => ?_
        cases e with
        | returned u => exact ⟨keep a hy u, by rw [← Act.put_comm a v u h2]; exact he⟩
        | panicked c => exact hPQ _ _ _ he
        | outgrown => obtain ⟨_, _, hf⟩ := he; exact hf.elim
      case row => exact h.mono fun u _ he => ⟨keep a hy u, by rw [← Act.put_comm a v u h2]; exact he⟩
      all_goals exact h
    | halt x w' =>
      cases x <;> simp only [Oper.upon] at h ⊢
      exact hPQ _ _ _ h
  · rename_i hw
    simp only [hw] at h
    exact ⟨keep a hy _, by rw [← Act.put_comm a v undef h2]; exact h⟩
theorem wpP_first {PQ : PX} {C : World → Prop} {Q : Act → World → Prop} {m i : Nat} {oi : Oper} {v : Value} (hPQ : ∀ ch a w, PQ ch (a.put oi.dst v) w → PQ ch a w) (hi : ops[i]? = some oi) (him : i < m) (htail : tailB md ops m = true) (hsel : ∀ (j : Nat) (o : Oper) cs b, ops[j]? = some o → o.op ≠ .select cs b) :
    ∀ (fuel : Nat) (listed : Array Bool) (a : Act) (w : World),
      (∀ j oj, ops[j]? = some oj → j ≠ i → listed.getD j true = false → (∀ e ∈ oj.after, Region.binds md e = true → e.on ≠ i) → oi.apart ops oj = true) →
      Cl md ops listed → i ∈ Region.ready md ops listed → ReadsAs P ops C oi v a → C w →
      wpP P PQ md ops m C Q fuel (listed.setIfInBounds i true) (a.put oi.dst v) w → wpP P PQ md ops m C Q (fuel + 1) listed a w := by
  intro fuel
  induction fuel with
  | zero =>
    intro listed a w _ _ hr hy hC H
    refine ⟨fun h => (by rw [h] at hr; cases hr), fun j hj => ?_⟩
    by_cases hji : j = i
    · subst hji; exact hy.opP hi hC ⟨fun _ => hC, H⟩
    · have := ready_mono hj hji
      rw [H.1] at this
      cases this
  | succ fuel ih =>
    intro listed a w hfree hcl hr hy hC H
    refine ⟨fun h => (by rw [h] at hr; cases hr), fun j hj => ?_⟩
    by_cases hji : j = i
    · subst hji; exact hy.opP hi hC ⟨fun _ => hC, H⟩
    · have h1 := H.2 j (ready_mono hj hji)
      obtain ⟨hjun, oj, hoj, hall⟩ := mem_ready.1 hj
      have hnot : ∀ e ∈ oj.after, Region.binds md e = true → e.on ≠ i := fun e he hb heq => by
        have h1 := hall e he hb
        have h0 := (mem_ready.1 hr).1
        rw [heq] at h1
        rcases Nat.lt_or_ge i listed.size with h' | h'
        · simp [h'] at h0 h1; rw [h0] at h1; cases h1
        · simp [Array.getElem?_eq_none h'] at h1
      have hjm : j < m := by
        rcases Nat.lt_or_ge j m with h' | h'
        · exact h'
        · exact (tailB_spec htail hoj (by omega) him hcl hj (mem_ready.1 hr).1 hji).elim
      have h2 := opP_put hPQ hoj (hfree j oj hoj hji hjun hnot) (fun cs b => hsel i oi cs b hi) (fun cs b => hsel j oj cs b hoj) hy (fun a d => reads_defers a d) h1
      have hfree' : ∀ k ok, ops[k]? = some ok → k ≠ i → (listed.setIfInBounds j true).getD k true = false →
          (∀ e ∈ ok.after, Region.binds md e = true → e.on ≠ i) → oi.apart ops ok = true := fun k ok hk hki hun hno => by
        refine hfree k ok hk hki ?_ hno
        by_cases hjk : j = k
        · subst hjk; exact hjun
        · rw [getD_set_ne true hjk] at hun; exact hun
      have hmono : ∀ {K K' : Act → World → Prop} {a : Act} {w : World}, (∀ a w, K a w → K' a w) → opP P PQ ops j K a w → opP P PQ ops j K' a w := by
        intro K K' a w hk ho
        unfold opP at *
        simp only [hoj] at *
        split
        · rename_i hw; simp only [hw, if_true] at ho; exact Oper.wp_mono3 hk (fun _ _ _ h => h) ho
        · rename_i hw; simp only [hw] at ho; exact hk _ _ ho
      refine hmono (fun a' w' h3 => ⟨fun _ => h3.2.1 hjm, ih (listed.setIfInBounds j true) a' w' hfree' (hcl.set hj) (ready_mono hr (Ne.symm hji)) h3.1 (h3.2.1 hjm) ?_⟩) h2
      rw [Array.setIfInBounds_comm _ _ hji]
      exact h3.2.2
theorem wpAny_of_wpP {PQ : PX} {C : World → Prop} {Q : Act → World → Prop} {m : Nat} {Q' : Exit → Act → World → Prop} (hQ : ∀ a w, Q a w → Q' .normal a w) (hP : ∀ ch a w, PQ ch a w → Q' (.panic ch) a w) : ∀ (fuel : Nat) (listed : Array Bool) (a : Act) (w : World),
    wpP P PQ md ops m C Q fuel listed a w → wpAny P md ops Q' fuel listed a w
  | 0, _, _, _, h => ⟨h.1, hQ _ _ h.2⟩
  | fuel + 1, listed, a, w, h => ⟨fun h0 => hQ _ _ (h.1 h0), fun i hi => by
      have h1 := h.2 i hi
      unfold opP at h1
      unfold wpOp
      split
      · rename_i ho; simp only [ho] at h1; exact wpAny_of_wpP hQ hP fuel _ _ _ h1.2
      · rename_i o ho
        simp only [ho] at h1
        split
        · rename_i hw; simp only [hw, if_true] at h1; exact .inl (Oper.wp_mono3 (fun a' w' h2 => wpAny_of_wpP hQ hP fuel _ _ _ h2.2) (fun x a w hx => by cases x <;> first | exact hP _ _ _ hx | exact hx.elim) h1)
        · rename_i hw; simp only [hw] at h1; exact wpAny_of_wpP hQ hP fuel _ _ _ h1.2⟩
end core
def wdp (a : Act) (D : List Deferred) : Act := { a with defers := a.defers ++ D }
theorem wdp_put (a : Act) (D : List Deferred) (d : Option Tmp) (v : Value) : (wdp a D).put d v = wdp (a.put d v) D := by cases d <;> rfl
theorem wdp_nil (a : Act) : wdp a [] = a := by cases a; simp [wdp]
theorem wdp_back (a : Act) : wdp { a with defers := [] } a.defers = a := by cases a; simp [wdp]
def noDef (l : List Oper) : Bool := l.all fun o => match o.op with | .defer _ => false | _ => true
section behind
variable {P : Program} {D : List Deferred}
theorem oper_d {o : Oper} {K K' : Act → World → Prop} {Q Q' : Exit → Act → World → Prop} (hK : ∀ a w, K a w → K' (wdp a D) w) (hQ : ∀ x a w, Q x a w → Q' x (wdp a D) w) {a : Act} {w : World} (h : o.wp P a w K Q) : o.wp P (wdp a D) w K' Q' := by
  have he : (wdp a D).eval = a.eval := rfl
  unfold Oper.wp at h ⊢
  rw [he]
  generalize (execOp a.eval o).run P w = res at h ⊢
  cases res with
  | ok x w' =>
    cases x <;> simp only [Oper.upon] at h <;> simp only [Oper.upon]
    case value v => rw [wdp_put]; exact hK _ _ h
    case skip => rw [wdp_put]; exact hK _ _ h
    case defer d =>
      have : ({ wdp a D with defers := d :: (wdp a D).defers } : Act) = wdp { a with defers := d :: a.defers } D := rfl
      rw [this, wdp_put]; exact hK _ _ h
    case enter f args =>
      refine h.mono fun en w'' he => ?_
      cases en with
      | returned v =>
        have h3 := hK _ _ he
        rw [← wdp_put] at h3
        exact h3
      | panicked c => exact hQ _ _ _ he
      | outgrown => obtain ⟨a0, w0, h0⟩ := he; exact ⟨_, _, hQ _ _ _ h0⟩
    case row row args => exact h.mono fun v w'' he => by rw [wdp_put]; exact hK _ _ he
    all_goals exact h
  | halt x w' =>
    cases x <;> simp only [Oper.upon] at h <;> simp only [Oper.upon]
    exact hQ _ _ _ h
theorem list_d {ops : Array Oper} {Q Q' : Exit → Act → World → Prop} (hQ : ∀ x a w, Q x a w → Q' x (wdp a D) w) : ∀ (l : List Oper) (a : Act) (w : World), wpList P ops Q l a w → (∀ a w, ¬ Q .outgrown a w) → wpList P ops Q' l (wdp a D) w
  | [], a, w, h, _ => hQ _ _ _ h
  | o :: l, a, w, h, hno => by
    simp only [wpList] at h
    simp only [wpList]
    have hy : yielded ops (wdp a D).tmps = yielded ops a.tmps := rfl
    rw [hy]
    split
    · rename_i hw
      rw [if_pos hw] at h
      rcases h with h | ⟨_, a0, w0, h⟩
      · exact .inl (oper_d (fun a w h => list_d hQ l a w h hno) hQ h)
      · exact (hno _ _ h).elim
    · rename_i hw
      rw [if_neg hw] at h
      rw [wdp_put]
      exact list_d hQ l _ _ h hno
theorem any_d {ops : Array Oper} {PQ : PX} {C : World → Prop} {Q : Act → World → Prop} {m : Nat} {Q' : Exit → Act → World → Prop} (hQ : ∀ a w, Q a w → Q' .normal (wdp a D) w) (hP : ∀ ch a w, PQ ch a w → Q' (.panic ch) (wdp a D) w) : ∀ (fuel : Nat) (listed : Array Bool) (a : Act) (w : World),
    wpP P PQ .any ops m C Q fuel listed a w → wpAny P .any ops Q' fuel listed (wdp a D) w
  | 0, _, _, _, h => ⟨h.1, hQ _ _ h.2⟩
  | fuel + 1, listed, a, w, h => ⟨fun h0 => hQ _ _ (h.1 h0), fun i hi => by
      have h1 := h.2 i hi
      unfold opP at h1
      unfold wpOp
      have hy : yielded ops (wdp a D).tmps = yielded ops a.tmps := rfl
      split
      · rename_i ho; simp only [ho] at h1; exact any_d hQ hP fuel _ _ _ h1.2
      · rename_i o ho
        simp only [ho] at h1
        rw [hy]
        split
        · rename_i hw; simp only [hw, if_true] at h1; exact .inl (oper_d (fun a' w' h2 => any_d hQ hP fuel _ _ _ h2.2) (fun x a w hx => by cases x <;> first | exact hP _ _ _ hx | exact hx.elim) h1)
        · rename_i hw; simp only [hw] at h1; rw [wdp_put]; exact any_d hQ hP fuel _ _ _ h1.2⟩
end behind
section walk
variable {P : Program} {N Be : Nat} {Q : Post} {e E0 : Env} {w0 : World} {H H1 : Heap} {ops : Array Oper} {ty : TypeId} {pos : String} {after : Array Edge} {d i m : Nat}
/-- What is asked behind an operation that comes up alone, and may panic; of the slots at a panic only E0 are known. -/
def effP (E0 : Env) (K : Env → World → Heap → Prop) (m : Nat) (Q : Post) (H1 : Heap) (i : Nat) (w0 : World) : Post := fun x e' w0' H' => match x with
  | .panic ch => ESub E0 e' ∧ Q (.panic ch) E0 w0' H'
  | .normal => w0' = w0 ∧ (i < m → HKeep w0 H1 H') ∧ K e' w0' H'
  | _ => False
def wlkP (P : Program) (N Be : Nat) (ops : Array Oper) (m : Nat) (E0 : Env) (Q : Post) (H1 : Heap) : Pt → Env → World → Heap → Prop
  | .nil, e, w0, H => Q .normal e w0 H
  | .rd i r, e, w0, H => ∃ (o : Oper) (d : Nat) (G : Bool) (v : Value), ops[i]? = some o ∧ o.dst = some d ∧ d < N ∧ Gd ops e o.guard G ∧ Ex P Be w0 H1 G e o.op o.type v ∧ wlkP P N Be ops m E0 Q H1 r ((d, G, v) :: e) w0 H
  | .ef i r, e, w0, H => ∃ o : Oper, ops[i]? = some o ∧ Spl P N Be ops (effP E0 (wlkP P N Be ops m E0 Q H1 r) m Q H1 i w0) [o] e w0 H
  | .fk i j r s, e, w0, H => (∃ o : Oper, ops[i]? = some o ∧ Spl P N Be ops (effP E0 (wlkP P N Be ops m E0 Q H1 r) m Q H1 i w0) [o] e w0 H) ∧
      ∃ o : Oper, ops[j]? = some o ∧ Spl P N Be ops (effP E0 (wlkP P N Be ops m E0 Q H1 s) m Q H1 j w0) [o] e w0 H
theorem wlp_nil (h : Q .normal e w0 H) : wlkP P N Be ops m E0 Q H1 .nil e w0 H := h
theorem wlp_read {r : Pt} {op : Op} {v : Value} (ho : ops[i]? = some ⟨some d, op, ty, pos, after, none⟩) (hN : Nat.blt d N = true) (hx : Ex P Be w0 H1 true e op ty v) (k : wlkP P N Be ops m E0 Q H1 r ((d, true, v) :: e) w0 H) :
    wlkP P N Be ops m E0 Q H1 (.rd i r) e w0 H := ⟨_, d, true, v, ho, rfl, by simpa [Nat.blt_eq] using hN, Gd.none, hx, k⟩
theorem wlp_read_g {r : Pt} {op : Op} {v : Value} {g : Option (Nat × Bool)} {G : Bool} (ho : ops[i]? = some ⟨some d, op, ty, pos, after, g⟩) (hN : Nat.blt d N = true) (hg : Gd ops e g G) (hx : Ex P Be w0 H1 G e op ty v) (k : wlkP P N Be ops m E0 Q H1 r ((d, G, v) :: e) w0 H) :
    wlkP P N Be ops m E0 Q H1 (.rd i r) e w0 H := ⟨_, d, G, v, ho, rfl, by simpa [Nat.blt_eq] using hN, hg, hx, k⟩
theorem wlp_eff {r : Pt} {dst : Option Tmp} {op : Op} {g : Option (Nat × Bool)} (ho : ops[i]? = some ⟨dst, op, ty, pos, after, g⟩) (h : Spl P N Be ops (effP E0 (wlkP P N Be ops m E0 Q H1 r) m Q H1 i w0) [⟨dst, op, ty, pos, after, g⟩] e w0 H) : wlkP P N Be ops m E0 Q H1 (.ef i r) e w0 H := ⟨_, ho, h⟩
theorem wlp_fork {j : Nat} {r s : Pt} {dst dst' : Option Tmp} {op op' : Op} {g g' : Option (Nat × Bool)} {ty' : TypeId} {pos' : String} {after' : Array Edge} (ho : ops[i]? = some ⟨dst, op, ty, pos, after, g⟩) (ho' : ops[j]? = some ⟨dst', op', ty', pos', after', g'⟩)
    (h : Spl P N Be ops (effP E0 (wlkP P N Be ops m E0 Q H1 r) m Q H1 i w0) [⟨dst, op, ty, pos, after, g⟩] e w0 H) (h' : Spl P N Be ops (effP E0 (wlkP P N Be ops m E0 Q H1 s) m Q H1 j w0) [⟨dst', op', ty', pos', after', g'⟩] e w0 H) : wlkP P N Be ops m E0 Q H1 (.fk i j r s) e w0 H := ⟨⟨_, ho, h⟩, _, ho', h'⟩
theorem effp {K : Env → World → Heap → Prop} (h : i < m → HKeep w0 H1 H) (k : K e w0 H) : effP E0 K m Q H1 i w0 .normal e w0 H := ⟨rfl, h, k⟩
theorem effp_p {K : Env → World → Heap → Prop} {w1 : World} {ch : List PanicEntry} (hs : ESub E0 e) (h : Q (.panic ch) E0 w0 H) : effP E0 K m Q H1 i w1 (.panic ch) e w0 H := ⟨hs, h⟩
def PQ0 (N Be : Nat) (E0 : Env) (Q : Post) : PX := fun ch a w => ∃ w0 H, Fr N E0 a ∧ Hp Be w0 H w ∧ Q (.panic ch) E0 w0 H
/-- None of the operations writes a slot of E0. -/
def offO (E0 : Env) : Option Nat → Bool
  | none => true
  | some d => E0.all fun p => !Nat.beq p.1 d
def offB (E0 : Env) (l : List Oper) : Bool := l.all fun o => offO E0 o.dst
theorem look_ne {E : Env} {d k : Nat} {g : Bool} {v : Value} (h : look E k = some (g, v)) (ho : (E.all fun p => !Nat.beq p.1 d) = true) : d ≠ k := by
  induction E with
  | nil => cases h
  | cons p E ih =>
    simp only [List.all_cons, Bool.and_eq_true] at ho
    simp only [look] at h
    cases hb : Nat.beq p.1 k with
    | true =>
      have h1 := Nat.eq_of_beq_eq_true hb
      intro he
      have h2 := ho.1
      rw [he, ← h1] at h2
      simp at h2
    | false => rw [hb] at h; exact ih h ho.2
theorem Fr.unput {a : Act} {d : Option Nat} {v : Value} (h : Fr N E0 (a.put d v)) (ho : offO E0 d = true) : Fr N E0 a := by
  cases d with
  | none => exact h
  | some d =>
    refine ⟨h.defers, by have := h.size; simpa [Act.put] using this, fun k g u hl => ?_⟩
    have := h.get k g u hl
    rw [← this]
    have hne := look_ne hl ho
    simp only [Act.put, Array.getD_eq_getD_getElem?, Array.getElem?_setIfInBounds]
    rw [if_neg hne]
theorem PQ0.unput {l : List Oper} (ho : offB E0 l = true) {i : Nat} {o : Oper} (hi : l.toArray[i]? = some o) {v : Value} (ch : List PanicEntry) (a : Act) (w : World) (h : PQ0 N Be E0 Q ch (a.put o.dst v) w) : PQ0 N Be E0 Q ch a w := by
  obtain ⟨w0, H, h1, h2, h3⟩ := h
  refine ⟨w0, H, h1.unput ?_, h2, h3⟩
  have := List.all_eq_true.1 ho o (by simpa using Array.mem_of_getElem? hi)
  exact this
theorem effect_soundP {K : Env → World → Heap → Prop} {a : Act} {w : World} {o : Oper} {j : Nat} {K' : Act → World → Prop} (ho : ops[j]? = some o) (hk : Spl P N Be ops (effP E0 K m Q H1 j w0) [o] e w0 H) (hf : Fr N e a) (hh : Hp Be w0 H w) (fin : ∀ a' w', lift N Be (effP E0 K m Q H1 j w0) .normal a' w' → K' a' w') : opP P (PQ0 N Be E0 Q) ops j K' a w := by
  have h1 := hk a w hf hh
  have hx : ∀ x a w, lift N Be (effP E0 K m Q H1 j w0) x a w → x ≠ .normal → exP (PQ0 N Be E0 Q) x a w := by
    rintro x a w ⟨e', w0', H', q1, q2, q3⟩ hne
    cases x <;> first | exact absurd rfl hne | exact q3.elim | exact ⟨w0', H', q1.sub q3.1, q2, q3.2⟩
  unfold opP
  simp only [ho]
  simp only [wpList] at h1
  split at h1
  · rename_i hw
    simp only [hw, if_true]
    rcases h1 with h1 | ⟨_, h1⟩
    · unfold Oper.wp at *
      generalize (execOp a.eval o).run P w = res at *
      cases res with
      | ok n w' =>
        cases n <;> simp only [Oper.upon] at h1 ⊢
        case enter f args =>
          refine h1.mono fun en w'' he => ?_
          cases en with
          | returned u => exact fin _ _ he
          | panicked c => exact hx _ _ _ he (by simp)
          | outgrown => obtain ⟨a1, w1, h2⟩ := he; exact ⟨a1, w1, hx _ _ _ h2 (by simp)⟩
        case row => exact h1.mono fun _ _ he => fin _ _ he
        all_goals first | exact fin _ _ h1 | exact h1
      | halt x w' =>
        cases x <;> simp only [Oper.upon] at h1 ⊢
        exact hx _ _ _ h1 (by simp)
    · obtain ⟨_, _, _, _, _, _, _, h3⟩ := h1
      exact h3.elim
  · rename_i hw
    simp only [hw]
    exact fin _ _ h1
theorem wlkP_sound {l0 : List Oper} (hops : ops = l0.toArray) (ho0 : offB E0 l0 = true) (hm' : tailB .any ops m = true) (hs : Region.noSelect ops = true) : ∀ (l : Pt) (listed : Array Bool) (bar : Bool) (a : Act) (w : World) (e : Env) (H : Heap), canonT .any ops m listed bar l = true →
    Cl .any ops listed → Fr N e a → Hp Be w0 H w → (bar = false → Hp Be w0 H1 w) → wlkP P N Be ops m E0 Q H1 l e w0 H → wpP P (PQ0 N Be E0 Q) .any ops m (Hp Be w0 H1) (fun a' w' => lift N Be Q .normal a' w') l.len listed a w := by
  subst hops
  intro l
  induction l with
  | nil =>
    intro listed bar a w e H hB _ hf hh _ h
    exact ⟨by simpa [canonT] using hB, e, w0, H, hf, hh, h⟩
  | rd i r ih =>
    intro listed bar a w e H hB hcl hf hh hC h
    obtain ⟨o, d, G, v, ho, hd, hdN, hg, hx, hk⟩ := h
    simp only [canonT, Bool.and_eq_true, Bool.not_eq_true', decide_eq_true_eq, List.contains_eq_mem] at hB
    obtain ⟨⟨⟨⟨hbar, him⟩, hr⟩, hfree⟩, hB'⟩ := hB
    have hgd := hg N a o hf rfl
    refine wpP_first (v := if G then v else undef) (fun ch a w => PQ0.unput ho0 ho ch a w) ho him hm' (Region.noSelect_spec hs) r.len listed a w (Region.free_spec ho hfree) hcl hr ?_ (hC hbar) (ih _ bar _ w _ H hB' (hcl.set hr) ?_ hh hC hk)
    · cases hG : G with
      | true => exact .inl ⟨by rw [hgd, hG], fun w' hw' => hx N a w' o rfl rfl hf hw' hG⟩
      | false => exact .inr ⟨by rw [hgd, hG], rfl⟩
    · rw [hd]
      cases hG : G with
      | true => exact hf.puttrue hdN
      | false => exact hf.put hdN
  | ef i r ih =>
    intro listed bar a w e H hB hcl hf hh hC h
    obtain ⟨o, ho, hk⟩ := h
    simp only [canonT, Bool.and_eq_true, beq_iff_eq] at hB
    obtain ⟨hr, hB'⟩ := hB
    refine ⟨fun h0 => (by rw [hr] at h0; cases h0), fun j hj => ?_⟩
    rw [hr] at hj
    simp only [List.mem_singleton] at hj
    subst hj
    have hcl' := hcl.set (show j ∈ Region.ready .any l0.toArray listed by rw [hr]; exact List.mem_singleton.2 rfl)
    refine effect_soundP ho hk hf hh ?_
    rintro a' w' ⟨e', w0', H', hf', hh', rfl, hkeep, hk'⟩
    refine ⟨fun hjm => hh'.sub (hkeep hjm), ih _ _ a' w' e' H' hB' hcl' hf' hh' (fun hb => ?_) hk'⟩
    simp only [Bool.or_eq_false_iff, decide_eq_false_iff_not] at hb
    exact hh'.sub (hkeep (by omega))
  | fk i j r s ih1 ih2 =>
    intro listed bar a w e H hB hcl hf hh hC h
    obtain ⟨⟨o, ho, hk⟩, o2, ho2, hk2⟩ := h
    simp only [canonT, Bool.and_eq_true, beq_iff_eq] at hB
    obtain ⟨hr, hlen, hB1, hB2⟩ := hB
    have hlen' : r.len = s.len := Nat.eq_of_beq_eq_true hlen
    refine ⟨fun h0 => (by rw [hr] at h0; cases h0), fun q hq => ?_⟩
    have hcl' := hcl.set hq
    rw [hr] at hq
    simp only [List.mem_cons, List.not_mem_nil, or_false] at hq
    rcases hq with rfl | rfl
    · refine effect_soundP ho hk hf hh ?_
      rintro a' w' ⟨e', w0', H', hf', hh', rfl, hkeep, hk'⟩
      refine ⟨fun hjm => hh'.sub (hkeep hjm), ih1 _ _ a' w' e' H' hB1 hcl' hf' hh' (fun hb => ?_) hk'⟩
      simp only [Bool.or_eq_false_iff, decide_eq_false_iff_not] at hb
      exact hh'.sub (hkeep (by omega))
    · refine effect_soundP ho2 hk2 hf hh ?_
      rintro a' w' ⟨e', w0', H', hf', hh', rfl, hkeep, hk'⟩
      refine ⟨fun hjm => hh'.sub (hkeep hjm), ?_⟩
      show wpP P _ .any _ m _ _ r.len _ _ _
      rw [hlen']
      refine ih2 _ _ a' w' e' H' hB2 hcl' hf' hh' (fun hb => ?_) hk'
      simp only [Bool.or_eq_false_iff, decide_eq_false_iff_not] at hb
      exact hh'.sub (hkeep (by omega))
theorem sp_drawnP {id : Nat} {l : List Oper} (p : Pt) (m : Nat) (E0 : Env) (H1 : Heap) (hm : P.follows .mixedOrders = true) (hB : drawnT l.toArray m p = true) (hE : offB E0 l = true) (hk : HKeep w0 H1 H) (h : wlkP P N Be l.toArray m E0 Q H1 p e w0 H) :
    Spc P N Be (.region id l.toArray true) Q e w0 H := by
  intro a w hf hh
  simp only [drawnT, Bool.and_eq_true, decide_eq_true_eq] at hB
  obtain ⟨⟨⟨h1, h2⟩, h3⟩, h4⟩ := hB
  refine wp_region_any hm ?_
  have := wlkP_sound rfl hE h2 h1 p _ false a _ e H h4 (Cl.start rfl) hf hh.drew (fun _ => (hh.drew).sub hk) h
  rw [h3] at this
  exact wpAny_of_wpP (fun _ _ hq => hq) (fun ch a w ⟨w0, H, q1, q2, q3⟩ => ⟨E0, w0, H, q1, q2, q3⟩) _ _ _ _ this

/-! ### Functions that may panic -/
theorem then_p {K : Env → World → Heap → Prop} {ch : List PanicEntry} (h : Q (.panic ch) e w0 H) : thenQ K Q (.panic ch) e w0 H := h
theorem block_p {id : Nat} {ch : List PanicEntry} (h : Q (.panic ch) e w0 H) : blockQ id Q (.panic ch) e w0 H := h
def retFQ (P : Program) (fn : Func) (Be : Nat) (R : Ending → World → Prop) : Post := fun x e w0 H =>
  match x with
  | .ret | .normal => ∃ v, Res fn.results P Be e w0 H v ∧ ∀ w', Hp Be w0 H w' → R (.returned v) w'
  | .panic ch => ∀ w', Hp Be w0 H w' → R (.panicked ch) w'
  | _ => False
theorem sp_enterF {f : FuncId} {fn : Func} {c : Code} {vs : List Value} {w : World} {R : Ending → World → Prop} (hf : P.funcs[f]? = some fn) (hb : fn.body = some c) (hN : fn.ntmps = N) (hl : Nat.ble vs.length N = true) (hh : Hp Be w0 H w)
    (h : Spc P N Be c (retFQ P fn Be R) (envOf 0 vs) w0 H) : Calls P f vs.toArray w R := by
  refine calls_of_wp hf hb (wp_mono (h _ w ?_ hh) ?_)
  · have hl' : vs.length ≤ N := Nat.le_of_ble_eq_true hl
    refine ⟨rfl, by simp [hN]; omega, fun k g v hk => ?_⟩
    obtain ⟨rfl, _, h3⟩ := look_envOf vs 0 k g v hk
    simp only [Nat.sub_zero] at h3
    have hk : k < vs.length := (List.getElem?_eq_some_iff.1 h3).1
    simp [Array.getElem?_append, hk, gv]
    have := (List.getElem?_eq_some_iff.1 h3).2
    simpa using this
  · rintro x a w' ⟨e, w0, H, h1, h2, h3⟩
    cases x with
    | normal => obtain ⟨v, hv, hR⟩ := h3; exact ⟨h1.defers, v, hv _ _ _ fn rfl h1 h2, hR w' h2⟩
    | ret => obtain ⟨v, hv, hR⟩ := h3; exact ⟨h1.defers, v, hv _ _ _ fn rfl h1 h2, hR w' h2⟩
    | exit _ => exact h3.elim
    | goto _ => exact h3.elim
    | panic _ => exact ⟨h1.defers, h3 w' h2⟩
    | outgrown => exact h3.elim
/-- It returns, or panics with something of F; then only R is known. -/
def RetF {X : Type} (Be : Nat) (w0 : World) (V : X → Value) (HH : X → Heap) (I : X → Prop) (F : List PanicEntry → Prop) (R : Heap) : Ending → World → Prop := fun en w' =>
  (∃ x, en = .returned (V x) ∧ I x ∧ Hp Be w0 (HH x) w') ∨ ∃ ch, en = .panicked ch ∧ F ch ∧ Hp Be w0 R w'
section
variable {fn : Func} {rs : Array ResultVar} {H' R : Heap} {v : Value} {X : Type} {V : X → Value} {HH : X → Heap} {I : X → Prop} {F : List PanicEntry → Prop}
theorem retF_ok (hr : fn.results = rs) (h : Res rs P Be e w0 H' v) (hv : ∃ x, v = V x ∧ I x ∧ HKeep w0 (HH x) H') : retFQ P fn Be (RetF Be w0 V HH I F R) .ret e w0 H' := by
  subst hr
  obtain ⟨x, rfl, hI, hk⟩ := hv
  exact ⟨_, h, fun w' hh => .inl ⟨x, rfl, hI, hh.sub hk⟩⟩
theorem endF_ok (hr : fn.results = rs) (h : Res rs P Be e w0 H' v) (hv : ∃ x, v = V x ∧ I x ∧ HKeep w0 (HH x) H') : retFQ P fn Be (RetF Be w0 V HH I F R) .normal e w0 H' := by
  subst hr
  obtain ⟨x, rfl, hI, hk⟩ := hv
  exact ⟨_, h, fun w' hh => .inl ⟨x, rfl, hI, hh.sub hk⟩⟩
theorem retF_pan {ch : List PanicEntry} (hF : F ch) (hk : HKeep w0 R H') : retFQ P fn Be (RetF Be w0 V HH I F R) (.panic ch) e w0 H' := fun w' hh => .inr ⟨ch, rfl, hF, hh.sub hk⟩
end
section
variable {rest : List Oper}
theorem spl_callF {f : FuncId} {xs : List Operand} {ts : Array TypeId} {vs : List Value} [TFn P f] {X : Type} {V : X → Value} {AA : X → Heap} {I : X → Prop} {F : List PanicEntry → Prop} {A R : Heap} (hN : Nat.blt d N = true) (hx : Evs true e xs vs) (hs : Split H A R)
    (hc : ∀ w, Hp Be w0 (A ++ R) w → Calls P f vs.toArray w (RetF Be w0 V (fun x => AA x ++ R) I F R))
    (kp : ∀ ch, F ch → Q (.panic ch) e w0 R) (k : ∀ x, I x → Spl P N Be ops Q rest ((d, true, V x) :: e) w0 (AA x ++ R)) : Spl P N Be ops Q (⟨some d, .call ⟨.value (.func f), xs.toArray, ts⟩, ty, pos, after, none⟩ :: rest) e w0 H := by
  intro a w hf hh
  have hd : d < N := by simpa [Nat.blt_eq] using hN
  refine wpList_plain rfl fun K hK => ?_
  unfold Oper.wp
  rw [exec_call (f := f) (first := #[]) (cap := #[]) rfl rfl (hx N a hf rfl), Oper.upon_enter]
  simp only [List.nil_append, List.append_toArray, List.append_nil]
  refine (hc w (hh.perm hs)).mono ?_
  rintro en w' (⟨x, rfl, hI, hw⟩ | ⟨ch, rfl, hF, hw⟩)
  · exact hK _ _ (k x hI _ _ (hf.puttrue hd) hw)
  · exact ⟨e, w0, R, hf, hw, kp ch hF⟩
/-- The text's own panic. -/
theorem spl_panic {x : Operand} {T : TypeId} {u : Value} (hx : Ev true e x (.iface T u)) (k : Q (.panic [{ v := .iface T u, recovered := false }]) e w0 H) : Spl P N Be ops Q (⟨none, .panic x, ty, pos, after, none⟩ :: rest) e w0 H := by
  intro a w hf hh
  refine wpList_plain rfl fun K hK => ?_
  have hr : (execOp a.eval ⟨none, .panic x, ty, pos, after, none⟩).run P w = .halt (.panic (.iface T u)) w := by
    simp only [execOp, hx N a hf rfl]
    rfl
  unfold Oper.wp
  rw [hr, Oper.upon_panic]
  exact ⟨e, w0, H, hf, hh, k⟩
end
end walk
def Holds (R : Heap) (w : World) : Prop := ∀ p ∈ R, w.heap[p.1]? = some p.2
class InSub (H R : Heap) : Prop where
  sub : ∀ p ∈ R, p ∈ H
instance InSub.rfl' {R : Heap} : InSub R R := ⟨fun _ h => h⟩
instance (priority := low) InSub.cons {H R : Heap} {q : Nat × Obj} [h : InSub H R] : InSub (q :: H) R := ⟨fun p hp => .tail _ (h.sub p hp)⟩
instance (priority := low) InSub.app {B H R : Heap} [h : InSub H R] : InSub (B ++ H) R := ⟨fun p hp => List.mem_append.2 (.inr (h.sub p hp))⟩
instance (priority := low) InSub.appL {B H R : Heap} [h : InSub B R] : InSub (B ++ H) R := ⟨fun p hp => List.mem_append.2 (.inl (h.sub p hp))⟩
theorem Hp.holds {Be : Nat} {w0 w : World} {H R : Heap} (hh : Hp Be w0 H w) [h : InSub H R] : Holds R w := fun p hp => hh.own p (h.sub p hp)
theorem Holds.sub {H R : Heap} {w : World} (h : Holds H w) (hs : ∀ p ∈ R, p ∈ H) : Holds R w := fun p hp => h p (hs p hp)
theorem Holds.below {R : Heap} {w w' : World} (h : Holds R w) (hb : Below w.heap.size w w') : Holds R w' := fun p hp => by
  have h1 := h p hp
  rw [hb.block p.1 (Array.getElem?_eq_some_iff.1 h1).1]; exact h1
end Go.Sy
/-
  A function with one deferred call: its code behind the 'defer' statement.
-/
namespace Go.Sy
set_option linter.unusedVariables false
open Go.RowKit
set_option linter.unusedVariables false
set_option linter.unusedSimpArgs false
class NoOutP (Q : Post) : Prop where
  no : ∀ e w H, ¬ Q .outgrown e w H
instance NoOutP.then {K : Env → World → Heap → Prop} {Q : Post} [h : NoOutP Q] : NoOutP (thenQ K Q) := ⟨fun e w H => h.no e w H⟩
instance NoOutP.block {id : Nat} {Q : Post} [h : NoOutP Q] : NoOutP (blockQ id Q) := ⟨fun e w H => h.no e w H⟩
theorem NoOutP.lift {N Be : Nat} {Q : Post} [h : NoOutP Q] (a : Act) (w : World) : ¬ lift N Be Q .outgrown a w := fun ⟨_, _, _, _, _, hq⟩ => h.no _ _ _ hq
abbrev PostD := List Deferred → Post
def liftD (N Be : Nat) (Q : PostD) : Exit → Act → World → Prop := fun x a w => ∃ e w0 H, Fr N e { a with defers := [] } ∧ Hp Be w0 H w ∧ Q a.defers x e w0 H
/-- Code of a function, with deferred calls D to come behind it. -/
def SpcD (D : List Deferred) (P : Program) (N Be : Nat) (c : Code) (Q : PostD) (e : Env) (w0 : World) (H : Heap) : Prop := ∀ a w, Fr N e a → Hp Be w0 H w → c.wp P (liftD N Be Q) (wdp a D) w
section rules
variable {P : Program} {D : List Deferred} {N Be : Nat} {Q : PostD} {e E0 : Env} {w0 : World} {H : Heap}
theorem liftD_of {a : Act} {w : World} {x : Exit} (hf : Fr N e a) (hh : Hp Be w0 H w) (h : Q D x e w0 H) : liftD N Be Q x (wdp a D) w := by
  have hd := hf.defers
  refine ⟨e, w0, H, ⟨rfl, hf.size, hf.get⟩, hh, ?_⟩
  show Q (a.defers ++ D) x e w0 H
  rw [hd]; exact h
theorem liftD_lift {a : Act} {w : World} {x : Exit} (h : lift N Be (Q D) x a w) : liftD N Be Q x (wdp a D) w := by
  obtain ⟨e, w0, H, hf, hh, h⟩ := h
  exact liftD_of hf hh h
theorem spd_region {id : Nat} {l : List Oper} [NoOutP (Q D)] (h : Spl P N Be l.toArray (Q D) l e w0 H) : SpcD D P N Be (.region id l.toArray false) Q e w0 H :=
  fun a w hf hh => wp_region_lit (list_d (Q := lift N Be (Q D)) (fun _ _ _ h => liftD_lift h) l a w (h a w hf hh) NoOutP.lift)
theorem spd_drawnP {id : Nat} {l : List Oper} (p : Pt) (m : Nat) (E0 : Env) (H1 : Heap) (hm : P.follows .mixedOrders = true) (hB : drawnT l.toArray m p = true) (hE : offB E0 l = true) (hk : HKeep w0 H1 H) (h : wlkP P N Be l.toArray m E0 (Q D) H1 p e w0 H) :
    SpcD D P N Be (.region id l.toArray true) Q e w0 H := by
  intro a w hf hh
  simp only [drawnT, Bool.and_eq_true, decide_eq_true_eq] at hB
  obtain ⟨⟨⟨h1, h2⟩, h3⟩, h4⟩ := hB
  refine wp_region_any hm ?_
  have := wlkP_sound rfl hE h2 h1 p _ false a _ e H h4 (Cl.start rfl) hf hh.drew (fun _ => (hh.drew).sub hk) h
  rw [h3] at this
  exact any_d (fun _ _ hq => liftD_lift hq) (fun ch a w ⟨w0, H, q1, q2, q3⟩ => liftD_of q1 q2 q3) _ _ _ _ this
theorem spd_seq {x y : Code} (h : SpcD D P N Be x (fun D' => thenQ (fun e w H => SpcD D' P N Be y Q e w H) (Q D')) e w0 H) : SpcD D P N Be (.seq x y) Q e w0 H := by
  intro a w hf hh
  refine wp_seq (wp_mono (h a w hf hh) ?_)
  rintro x a w ⟨e, w0, H, h1, h2, h3⟩
  cases x <;> first | exact (wdp_back a ▸ h3 _ w h1 h2 : Code.wp _ _ _ a w) | exact ⟨e, w0, H, h1, h2, h3⟩
theorem spd_skip (h : Q D .normal e w0 H) : SpcD D P N Be .skip Q e w0 H := fun a w hf hh => wp_skip (liftD_of hf hh h)
theorem spd_exit {id : Nat} (h : Q D (.exit id) e w0 H) : SpcD D P N Be (.exit id) Q e w0 H := fun a w hf hh => wp_exit (liftD_of hf hh h)
theorem spd_ret (h : Q D .ret e w0 H) : SpcD D P N Be .ret Q e w0 H := fun a w hf hh => wp_ret (liftD_of hf hh h)
theorem spd_block {id : Nat} {c : Code} (h : SpcD D P N Be c (fun D' => blockQ id (Q D')) e w0 H) : SpcD D P N Be (.block id c) Q e w0 H := by
  intro a w hf hh
  refine wp_block (wp_mono (h a w hf hh) ?_)
  rintro x a w ⟨e, w0, H, h1, h2, h3⟩
  cases x <;> first | exact ⟨e, w0, H, h1, h2, h3⟩ | skip
  rename_i id'
  simp only [blockQ] at h3
  simp only [Exit.inBlock]
  split at h3
  · rename_i he; rw [if_pos he]; exact ⟨e, w0, H, h1, h2, h3⟩
  · rename_i he; rw [if_neg he]; exact ⟨e, w0, H, h1, h2, h3⟩
theorem spd_cond {c : Operand} {x y : Code} {b : Bool} (hc : Ev true e c (.bool b)) (ht : b = true → SpcD D P N Be x Q e w0 H) (hf : b = false → SpcD D P N Be y Q e w0 H) : SpcD D P N Be (.cond c x y) Q e w0 H :=
  fun a w h1 h2 => wp_cond_split (a := wdp a D) (hc N a h1 rfl) (fun hb => ht hb a w h1 h2) (fun hb => hf hb a w h1 h2)
theorem spd_cond_t {c : Operand} {x y : Code} {b : Bool} (hc : Ev true e c (.bool b)) (hb : b = true) (ht : SpcD D P N Be x Q e w0 H) : SpcD D P N Be (.cond c x y) Q e w0 H :=
  spd_cond hc (fun _ => ht) (fun h => by rw [hb] at h; cases h)
theorem spd_cond_f {c : Operand} {x y : Code} {b : Bool} (hc : Ev true e c (.bool b)) (hb : b = false) (hf : SpcD D P N Be y Q e w0 H) : SpcD D P N Be (.cond c x y) Q e w0 H :=
  spd_cond hc (fun h => by rw [hb] at h; cases h) (fun _ => hf)
theorem spd_loop {c : Code} {X : Type} (E : X → Env) (W : X → World) (HH : X → Heap) (I : X → Prop) (m : X → Nat) (x0 : X) (h0 : I x0) (he : ESub (E x0) e) (hw : W x0 = w0) (hH : HKeep w0 (HH x0) H)
    (round : ∀ x, I x → SpcD D P N Be c (fun D' => thenQ (fun e' w' H' => D' = D ∧ ∃ x', I x' ∧ m x' < m x ∧ ESub (E x') e' ∧ W x' = w' ∧ HKeep w' (HH x') H') (Q D')) (E x) (W x) (HH x)) : SpcD D P N Be (.loop c) Q e w0 H := by
  intro a w hf hh
  subst hw
  refine wp_loop_ghost (fun n a w => ∃ x b, a = wdp b D ∧ m x = n ∧ I x ∧ Fr N (E x) b ∧ Hp Be (W x) (HH x) w) (m x0) ⟨x0, a, rfl, rfl, h0, hf.sub he, hh.sub hH⟩ ?_
  rintro n a w ⟨x, b, rfl, rfl, hI, hf, hh⟩
  refine wp_mono (round x hI b w hf hh) ?_
  rintro ex a' w' ⟨e', w0', H', h1, h2, h3⟩
  cases ex <;> first | exact ⟨e', w0', H', h1, h2, h3⟩ | skip
  obtain ⟨hD, x', hI', hm, hs, hW, hH'⟩ := h3
  subst hW
  exact ⟨m x', hm, x', { a' with defers := [] }, by rw [← hD]; exact (wdp_back a').symm, rfl, hI', h1.sub hs, h2.sub hH'⟩
/-- The statement 'defer' of a closure without arguments. -/
theorem spd_defer {id d : Nat} {f : FuncId} {cap : List Operand} {cs : List Value} {ts : Array TypeId} {ty ty' : TypeId} {pos pos' : String} {after after' : Array Edge} [NoOutP (Q ({ target := .fn (.func f) cs.toArray, args := #[] } :: D))] (hN : Nat.blt d N = true) (hc : Evs true e cap cs)
    (h : Q ({ target := .fn (.func f) cs.toArray, args := #[] } :: D) .normal ((d, true, .func (.func f) #[] cs.toArray) :: e) w0 H) :
    SpcD D P N Be (.region id #[⟨some d, .makeFunc (.func f) #[] cap.toArray, ty, pos, after, none⟩, ⟨none, .defer ⟨.value (.tmp d), #[], ts⟩, ty', pos', after', none⟩] false) Q e w0 H := by
  intro a w hf hh
  have hd : d < N := by simpa [Nat.blt_eq] using hN
  have hx := ex_makeFunc (P := P) (Be := Be) (w0 := w0) (H := H) (fn := .func f) (ty := ty) (first := []) Evs.nil hc
  refine wp_region_lit (l := [_, _]) ?_
  refine wpList_plain rfl fun K hK => ?_
  unfold Oper.wp
  have he : (wdp a D).eval = a.eval := rfl
  rw [he, hx N a w _ rfl rfl hf hh rfl, Oper.upon_value]
  refine hK _ _ ?_
  rw [wdp_put]
  have hf2 := hf.puttrue (v := .func (.func f) #[] cs.toArray) hd
  refine wpList_plain rfl fun K hK => ?_
  have hev : (wdp (a.put (some d) (.func (.func f) #[] cs.toArray)) D).eval (.tmp d) = .func (.func f) #[] cs.toArray := by
    show (a.put (some d) (.func (.func f) #[] cs.toArray)).eval (.tmp d) = _
    exact (Ev.tmpT (by simp [look]) : Ev true ((d, true, .func (.func f) #[] cs.toArray) :: e) (.tmp d) (.func (.func f) #[] cs.toArray)) N _ hf2 rfl
  have hr : (execOp (wdp (a.put (some d) (.func (.func f) #[] cs.toArray)) D).eval ⟨none, .defer ⟨.value (.tmp d), #[], ts⟩, ty', pos', after', none⟩).run P w = .ok (.defer { target := .fn (.func f) cs.toArray, args := #[] }) w := by
    simp only [execOp, resolve, hev]
    simp [Deferred.ofValue]
  unfold Oper.wp
  rw [show (⟨some d, Op.makeFunc (.func f) #[] cap.toArray, ty, pos, after, none⟩ : Oper).dst = some d from rfl]
  rw [hr, Oper.upon_defer]
  refine hK _ _ (wpList_nil ?_)
  refine ⟨_, w0, H, ⟨rfl, ?_, hf2.get⟩, hh, ?_⟩
  · exact hf2.size
  · show Q ({ target := .fn (.func f) cs.toArray, args := #[] } :: ((a.put (some d) _).defers ++ D)) .normal _ w0 H
    rw [hf2.defers]
    exact h
/-- What is asked where the function leaves: the deferred calls are to be made. -/
def leaveQ (P : Program) (fn : Func) (Be : Nat) (R : Ending → World → Prop) : PostD := fun D x e w0 H =>
  match x with
  | .ret | .normal => ∀ a w', Fr fn.ntmps e a → Hp Be w0 H w' → Leaves P fn a.tmps R D .returning w'
  | .panic ch => ∀ a w', Fr fn.ntmps e a → Hp Be w0 H w' → Leaves P fn a.tmps R D (.panicking ch) w'
  | _ => False
instance NoOutP.leave {fn : Func} {R : Ending → World → Prop} {D : List Deferred} : NoOutP (leaveQ P fn Be R D) := ⟨fun e w H h => h⟩
theorem sp_enterL {f : FuncId} {fn : Func} {c : Code} {vs : List Value} {w : World} {R : Ending → World → Prop} (hf : P.funcs[f]? = some fn) (hb : fn.body = some c) (hN : fn.ntmps = N) (hl : Nat.ble vs.length N = true)
    (h : SpcD [] P N w.heap.size c (leaveQ P fn w.heap.size R) (envOf 0 vs) w []) : Calls P f vs.toArray w R := by
  subst hN
  refine calls_of_wp_defers hf hb (wp_mono (wdp_nil _ ▸ h { tmps := vs.toArray ++ Array.replicate (fn.ntmps - vs.toArray.size) undef, defers := [] } w ?_ (Hp.start w) : Code.wp P c _ _ w) ?_)
  · rintro x a w' ⟨e, w0, H, h1, h2, h3⟩
    cases x with
    | normal => exact h3 { a with defers := [] } w' h1 h2
    | ret => exact h3 { a with defers := [] } w' h1 h2
    | panic ch => exact h3 { a with defers := [] } w' h1 h2
    | exit _ => exact h3.elim
    | goto _ => exact h3.elim
    | outgrown => exact h3.elim
  · have hl' : vs.length ≤ fn.ntmps := Nat.le_of_ble_eq_true hl
    refine ⟨rfl, by simp; omega, fun k g v hk => ?_⟩
    obtain ⟨rfl, _, h3⟩ := look_envOf vs 0 k g v hk
    simp only [Nat.sub_zero] at h3
    have hk : k < vs.length := (List.getElem?_eq_some_iff.1 h3).1
    simp [Array.getElem?_append, hk, gv]
    have := (List.getElem?_eq_some_iff.1 h3).2
    simpa using this
theorem leave_r {fn : Func} {R : Ending → World → Prop} (h : ∀ a w', Fr fn.ntmps e a → Hp Be w0 H w' → Leaves P fn a.tmps R D .returning w') : leaveQ P fn Be R D .ret e w0 H := h
theorem leave_n {fn : Func} {R : Ending → World → Prop} (h : ∀ a w', Fr fn.ntmps e a → Hp Be w0 H w' → Leaves P fn a.tmps R D .returning w') : leaveQ P fn Be R D .normal e w0 H := h
theorem leave_p {fn : Func} {ch : List PanicEntry} {R : Ending → World → Prop} (h : ∀ a w', Fr fn.ntmps e a → Hp Be w0 H w' → Leaves P fn a.tmps R D (.panicking ch) w') : leaveQ P fn Be R D (.panic ch) e w0 H := h
/-- The deferred closure: it asks 'recover' first. -/
theorem recover_run {a : Act} {w : World} {d : Nat} {ts : Array TypeId} {ty : TypeId} {pos : String} {after : Array Edge} : (execOp a.eval ⟨some d, .call ⟨.builtin .recover, #[], ts⟩, ty, pos, after, none⟩).run P w = .ok .recover w := by
  simp [execOp, resolve, invoke, builtin]
theorem callsD_rec {f : FuncId} {fn : Func} {c : Code} {id d : Nat} {ts : Array TypeId} {ty : TypeId} {pos : String} {after : Array Edge} {vs : List Value} {w : World} {R : Ending → World → Prop} {v : Value} {older : List PanicEntry} (hf : P.funcs[f]? = some fn) (hb : fn.body = some (.seq (.region id #[⟨some d, .call ⟨.builtin .recover, #[], ts⟩, ty, pos, after, none⟩] false) c)) (hN : fn.ntmps = N) (hd : Nat.blt d N = true) (hl : Nat.ble vs.length N = true) (hh : Hp Be w0 H w)
    (h : Spc P N Be c (retQ P fn Be R) ((d, true, v) :: envOf 0 vs) w0 H) :
    CallsD P f vs.toArray (.panicking ({ v, recovered := false } :: older)) w fun en u' w' => u' = .panicking ({ v, recovered := true } :: older) ∧ R en w' := by
  have hl' : vs.length ≤ N := Nat.le_of_ble_eq_true hl
  have hd' : d < N := by simpa [Nat.blt_eq] using hd
  have hF : Fr N (envOf 0 vs) { tmps := vs.toArray ++ Array.replicate (fn.ntmps - vs.toArray.size) undef, defers := [] } := by
    refine ⟨rfl, by simp [hN]; omega, fun k g v hk => ?_⟩
    obtain ⟨rfl, _, h3⟩ := look_envOf vs 0 k g v hk
    simp only [Nat.sub_zero] at h3
    have hk : k < vs.length := (List.getElem?_eq_some_iff.1 h3).1
    simp [Array.getElem?_append, hk, gv]
    have := (List.getElem?_eq_some_iff.1 h3).2
    simpa using this
  refine callsD_of_wpS hf hb fun c₀ cs hu => ?_
  apply wpS_seq
  apply wpS_region
  show wpOpsS P _ _ [0] _ _ _
  have hw : ∀ (ops : Array Oper) (tmps : Array Value), Region.wanted ⟨some d, .call ⟨.builtin .recover, #[], ts⟩, ty, pos, after, none⟩ (yielded ops tmps) = true := fun _ _ => by simp [Region.wanted]
  have hrc : recoverD (c₀ :: cs) = some (v, { c₀ with mode := .panicking ({ v, recovered := true } :: older) } :: cs) := by
    simp only [recoverD, hu]
  simp only [wpOpsS, List.getElem?_toArray, List.getElem?_cons_zero, hw, if_true, recover_run, hrc]
  show Exit.thenS _ _ .normal _ _ w
  refine wpS_of_wp (wp_mono (h _ w (hF.puttrue hd') hh) ?_)
  rintro x a w' ⟨e, w0, H, h1, h2, h3⟩
  cases x with
  | normal => obtain ⟨u, hv, hR⟩ := h3; exact ⟨h1.defers, _, rfl, u, hv _ _ _ fn rfl h1 h2, rfl, hR w' h2⟩
  | ret => obtain ⟨u, hv, hR⟩ := h3; exact ⟨h1.defers, _, rfl, u, hv _ _ _ fn rfl h1 h2, rfl, hR w' h2⟩
  | exit _ => exact h3.elim
  | goto _ => exact h3.elim
  | panic _ => exact h3.elim
  | outgrown => exact h3.elim
theorem callsD_idle {f : FuncId} {fn : Func} {c : Code} {id d : Nat} {ts : Array TypeId} {ty : TypeId} {pos : String} {after : Array Edge} {vs : List Value} {w : World} {R : Ending → World → Prop} (hf : P.funcs[f]? = some fn) (hb : fn.body = some (.seq (.region id #[⟨some d, .call ⟨.builtin .recover, #[], ts⟩, ty, pos, after, none⟩] false) c)) (hN : fn.ntmps = N) (hd : Nat.blt d N = true) (hl : Nat.ble vs.length N = true) (hh : Hp Be w0 H w)
    (h : Spc P N Be c (retQ P fn Be R) ((d, true, .nilIface) :: envOf 0 vs) w0 H) :
    CallsD P f vs.toArray .returning w fun en u' w' => u' = .returning ∧ R en w' := by
  have hl' : vs.length ≤ N := Nat.le_of_ble_eq_true hl
  have hd' : d < N := by simpa [Nat.blt_eq] using hd
  have hF : Fr N (envOf 0 vs) { tmps := vs.toArray ++ Array.replicate (fn.ntmps - vs.toArray.size) undef, defers := [] } := by
    refine ⟨rfl, by simp [hN]; omega, fun k g v hk => ?_⟩
    obtain ⟨rfl, _, h3⟩ := look_envOf vs 0 k g v hk
    simp only [Nat.sub_zero] at h3
    have hk : k < vs.length := (List.getElem?_eq_some_iff.1 h3).1
    simp [Array.getElem?_append, hk, gv]
    have := (List.getElem?_eq_some_iff.1 h3).2
    simpa using this
  refine callsD_of_wpS hf hb fun c₀ cs hu => ?_
  apply wpS_seq
  apply wpS_region
  show wpOpsS P _ _ [0] _ _ _
  have hw : ∀ (ops : Array Oper) (tmps : Array Value), Region.wanted ⟨some d, .call ⟨.builtin .recover, #[], ts⟩, ty, pos, after, none⟩ (yielded ops tmps) = true := fun _ _ => by simp [Region.wanted]
  have hrc : recoverD (c₀ :: cs) = none := by
    simp only [recoverD, hu]
  simp only [wpOpsS, List.getElem?_toArray, List.getElem?_cons_zero, hw, if_true, recover_run, hrc]
  show Exit.thenS _ _ .normal _ _ w
  refine wpS_of_wp (wp_mono (h _ w (hF.puttrue hd') hh) ?_)
  have hc : ({ c₀ with mode := .returning } : Frame) = c₀ := by cases c₀; simp only at hu; subst hu; rfl
  rintro x a w' ⟨e, w0, H, h1, h2, h3⟩
  cases x with
  | normal => obtain ⟨u, hv, hR⟩ := h3; exact ⟨h1.defers, .returning, by rw [hc], u, hv _ _ _ fn rfl h1 h2, rfl, hR w' h2⟩
  | ret => obtain ⟨u, hv, hR⟩ := h3; exact ⟨h1.defers, .returning, by rw [hc], u, hv _ _ _ fn rfl h1 h2, rfl, hR w' h2⟩
  | exit _ => exact h3.elim
  | goto _ => exact h3.elim
  | panic _ => exact h3.elim
  | outgrown => exact h3.elim
end rules
theorem invoke_fn {P : Program} {f : FuncId} [TFn P f] {w : World} {cs : Array Value} : (invoke (.fn (.func f) cs) #[]).run P w = .ok (.enter f cs) w := by
  show (callFunc f (#[] ++ cs)).run P w = _
  rw [TFn.run w, Array.empty_append]
section leave
variable {P : Program} {N Be : Nat} {e : Env} {w0 : World} {H : Heap}
/-- Leaving with one deferred closure that has nothing to do. -/
theorem leave_idle {fn : Func} {rs : Array ResultVar} {R : Ending → World → Prop} {v : Value} {f : FuncId} {cs : List Value} [TFn P f] {X : Type} {V : X → Value} {I : X → Prop} (hr : fn.results = rs)
    (hc : ∀ w', Hp Be w0 H w' → CallsD P f cs.toArray .returning w' fun en u' w2 => u' = .returning ∧ RetX Be w0 V (fun _ => H) I en w2) (h : Res rs P Be e w0 H v) (k : ∀ w', Hp Be w0 H w' → R (.returned v) w') :
    leaveQ P fn Be R [{ target := .fn (.func f) cs.toArray, args := #[] }] .ret e w0 H := by
  intro a w' hf hh
  refine leaves_cons (by simp) invoke_fn ((hc w' hh).mono ?_)
  rintro en u' w2 ⟨rfl, x, rfl, -, hw2⟩
  exact ⟨v, h _ a w2 fn hr hf hw2, k w2 hw2⟩
/-- Leaving by a panic with one deferred closure that recovers it. -/
theorem leave_rec {fn : Func} {rs : Array ResultVar} {R : Ending → World → Prop} {v u : Value} {ch : List PanicEntry} {H2 : Heap} {f : FuncId} {cs : List Value} [TFn P f] {X : Type} {V : X → Value} {I : X → Prop} (hr : fn.results = rs)
    (hc : ∀ w', Hp Be w0 H w' → CallsD P f cs.toArray (.panicking ch) w' fun en u' w2 => u' = .panicking [{ v := u, recovered := true }] ∧ RetX Be w0 V (fun _ => H2) I en w2) (h : Res rs P Be e w0 H2 v) (k : ∀ w', Hp Be w0 H2 w' → R (.returned v) w') :
    leaveQ P fn Be R [{ target := .fn (.func f) cs.toArray, args := #[] }] (.panic ch) e w0 H := by
  intro a w' hf hh
  refine leaves_cons (by simp) invoke_fn ((hc w' hh).mono ?_)
  rintro en u' w2 ⟨rfl, x, rfl, -, hw2⟩
  exact ⟨v, h _ a w2 fn hr hf hw2, k w2 hw2⟩
end leave
end Go.Sy
/-
  What a player keeps: situations as a player sees them, the map of choices; calls that may panic.
-/
namespace Go.Proofs.Ytoogicafefennaa
set_option linter.unusedVariables false
open Go.RowKit Go.Sy
set_option linter.unusedVariables false
set_option linter.unusedSimpArgs false
section
variable {P : Program} {N Be : Nat} {Q : Post} {e : Env} {w0 : World} {H : Heap} {ops : Array Oper} {rest : List Oper} {ty : TypeId} {pos : String} {after : Array Edge} {d : Nat}
/-- A call that leaves what was there and may panic. -/
theorem spl_callhF {f : FuncId} {xs : List Operand} {ts : Array TypeId} {vs : List Value} [TFn P f] {X : Type} {V : X → Value} {HH : X → Heap} {I : X → Prop} {F : List PanicEntry → Prop} (hN : Nat.blt d N = true) (hx : Evs true e xs vs)
    (hc : ∀ w, Hp Be w0 H w → Calls P f vs.toArray w (RetF w.heap.size w V HH I F []))
    (kp : ∀ ch, F ch → Q (.panic ch) e w0 H) (k : ∀ x, I x → (∀ p ∈ HH x, w0.heap.size ≤ p.1) → Spl P N Be ops Q rest ((d, true, V x) :: e) w0 (HH x ++ H)) : Spl P N Be ops Q (⟨some d, .call ⟨.value (.func f), xs.toArray, ts⟩, ty, pos, after, none⟩ :: rest) e w0 H := by
  intro a w hf hh
  have hd : d < N := by simpa [Nat.blt_eq] using hN
  refine wpList_plain rfl fun K hK => ?_
  unfold Oper.wp
  rw [exec_call (f := f) (first := #[]) (cap := #[]) rfl rfl (hx N a hf rfl), Oper.upon_enter]
  simp only [List.nil_append, List.append_toArray, List.append_nil]
  refine (hc w hh).mono ?_
  rintro en w' (⟨x, rfl, hI, hw⟩ | ⟨ch, rfl, hF, hw⟩)
  · exact hK _ _ (k x hI (fun p hp => Nat.le_trans hh.size (hw.low p hp)) _ _ (hf.puttrue hd) (hh.append hw))
  · exact ⟨e, w0, H, hf, hh.append hw, kp ch hF⟩
end
def plC (g : GaR) (gc : Nat) : Array Value := #[.slice g.sl.a g.sl.n g.sl.c, .slice g.dl.a g.dl.n g.dl.c, .int .i64 g.bd, .map (some gc)]
instance plC.one (g : GaR) (gc : Nat) : Ones (plC g gc) := ⟨by intro v hv; simp [plC] at hv; rcases hv with h | h | h | h <;> subst h <;> rfl⟩
/-! A state as a player sees it. -/
def pOf (m : Nat) (s : GS) : PK := ⟨(s.turn : Int), (m : Int), (s.budget : Int), s.starts.map (fun n : Nat => (n : Int)), s.failed⟩
theorem pOf_ok {m : Nat} (hm : m ≤ 6) {s : GS} (h : s.Ok) : (pOf m s).Ok := by
  have h1 := h.t
  have h2 := h.b
  refine ⟨W64.of (by show _ ≤ (s.turn : Int); omega) (by show (s.turn : Int) < _; omega), W64.of (by show _ ≤ (m : Int); omega) (by show (m : Int) < _; omega), W64.of (by show _ ≤ (s.budget : Int); omega) (by show (s.budget : Int) < _; omega), ?_, fun x hx => ?_, h.l2⟩
  · show (s.starts.map _).length = 6
    rw [List.length_map]; exact h.l1
  · obtain ⟨n, hn, rfl⟩ := List.mem_map.1 (show x ∈ s.starts.map (fun n : Nat => (n : Int)) from hx)
    have := h.sb n hn
    exact W64.of (by omega) (by omega)
def pkOf {m : Nat} (hm : m ≤ 6) {s : GS} (h : s.Ok) : PKs := ⟨pOf m s, pOf_ok hm h⟩
theorem pOf_size {m : Nat} {s : GS} (h : s.Ok) : (pOf m s).C.size = 15 := PK.size (by show (s.starts.map _).length = 6; rw [List.length_map]; exact h.l1) h.l2
theorem pOf_c0 {m : Nat} {s : GS} : (pOf m s).C[0]? = some (.int .i64 (s.turn : Int)) := rfl
theorem pOf_c1 {m : Nat} {s : GS} : (pOf m s).C[1]? = some (.int .i64 (m : Int)) := rfl
theorem pOf_c2 {m : Nat} {s : GS} : (pOf m s).C[2]? = some (.int .i64 (s.budget : Int)) := rfl
theorem pOf_l1 {s : GS} (h : s.Ok) : (List.map zv (List.map (fun n : Nat => (n : Int)) s.starts)).length = 6 := by rw [List.length_map, List.length_map]; exact h.l1
theorem pOf_c3 {m v : Nat} {s : GS} (h : s.Ok) (hv : v < 6) : (pOf m s).C[3 + v]? = some (.int .i64 ((sAt s v : Nat) : Int)) := by
  unfold PK.C PK.L pOf sAt
  rw [List.getElem?_toArray, Nat.add_comm 3 v, List.getElem?_cons_succ, List.getElem?_cons_succ, List.getElem?_cons_succ, List.getElem?_append_left (by rw [pOf_l1 h]; exact hv), List.getElem?_map, List.getElem?_map, List.getD_eq_getElem?_getD, List.getElem?_eq_getElem (by rw [h.l1]; exact hv)]
  all_goals rfl
theorem pOf_c9 {m v : Nat} {s : GS} (h : s.Ok) (hv : v < 6) : (pOf m s).C[9 + v]? = some (.bool (gt s.failed v)) := by
  unfold PK.C PK.L pOf gt
  rw [List.getElem?_toArray, show 9 + v = (6 + v) + 3 by omega, List.getElem?_cons_succ, List.getElem?_cons_succ, List.getElem?_cons_succ, List.getElem?_append_right (by rw [pOf_l1 h]; omega), pOf_l1 h, Nat.add_sub_cancel_left, List.append_nil, List.getElem?_map, List.getD_eq_getElem?_getD, List.getElem?_eq_getElem (by rw [h.l2]; exact hv)]
  all_goals rfl
theorem pOf_s0 {m : Nat} {s : GS} : (pOf m s).C.setIfInBounds 0 (.int .i64 ((s.turn + 1 : Nat) : Int)) = (pOf m (waitS s)).C := rfl
theorem pOf_s0v {m v : Nat} {s : GS} : (pOf m { s with starts := s.starts.set v (sAt s v - 1) }).C.setIfInBounds 0 (.int .i64 ((s.turn + 1 : Nat) : Int)) = (pOf m (stepS s v)).C := rfl
theorem pOf_s2 {m n : Nat} {s : GS} : (pOf m s).C.setIfInBounds 2 (.int .i64 (n : Int)) = (pOf m { s with budget := n }).C := rfl
theorem pOf_s3 {m v n : Nat} {s : GS} (h : s.Ok) (hv : v < 6) : (pOf m s).C.setIfInBounds (3 + v) (.int .i64 (n : Int)) = (pOf m { s with starts := s.starts.set v n }).C := by
  apply Array.ext'
  unfold PK.C PK.L pOf
  rw [Array.toList_setIfInBounds, Nat.add_comm 3 v, List.set_cons_succ, List.set_cons_succ, List.set_cons_succ, List.set_append_left _ _ (by rw [pOf_l1 h]; exact hv), List.map_set, List.map_set]
  all_goals rfl
theorem pOf_s9 {m v : Nat} {s : GS} (h : s.Ok) (hv : v < 6) : (pOf m s).C.setIfInBounds (9 + v) (.bool true) = (pOf m { s with failed := s.failed.set v true }).C := by
  apply Array.ext'
  unfold PK.C PK.L pOf
  rw [Array.toList_setIfInBounds, show 9 + v = (6 + v) + 3 by omega, List.set_cons_succ, List.set_cons_succ, List.set_cons_succ, List.set_append_right _ _ (by rw [pOf_l1 h]; omega), pOf_l1 h, Nat.add_sub_cancel_left, List.append_nil, List.append_nil, List.map_set]
  all_goals rfl
/-! The choices. -/
theorem sitP_ok {p : PosR} (hw : PosW p) : (sitP p).Ok := by
  unfold sitP
  by_cases h : sitOk p = true
  · have h2 := h
    unfold sitOk at h2
    rw [Bool.not_eq_true', Bool.or_eq_false_iff, decide_eq_false_iff_not] at h2
    have hn := hw.n
    have hfn := hw.f
    have hf : p.fl.n = p.sl.n := by
      have := h2.2
      simp only [Bool.not_eq_false', decide_eq_true_eq] at this
      omega
    rw [if_pos h]
    refine ⟨hw.t, W64.of (by show _ ≤ (p.sl.n : Int); omega) (by show (p.sl.n : Int) < _; omega), hw.b, padZ_len (by omega), fun x hx => ?_, padB_len (by omega)⟩
    have hx' : x ∈ padZ p.starts := hx
    unfold padZ at hx'
    rcases List.mem_append.1 hx' with q | q
    · exact hw.s x q
    · rw [(List.mem_replicate.1 q).2]
      exact W64.of (by omega) (by omega)
  · rw [if_neg h]
    refine ⟨W64.of (by decide) (by decide), W64.of (by decide) (by decide), W64.of (by decide) (by decide), rfl, fun x hx => ?_, rfl⟩
    have : x = 0 := (List.mem_replicate.1 (show x ∈ List.replicate 6 (0 : Int) from hx)).2
    rw [this]
    exact W64.of (by decide) (by decide)
def ppKey {p : PosR} (hw : PosW p) : PKs := ⟨sitP p, sitP_ok hw⟩
theorem sitP_size {p : PosR} (hw : PosW p) : (sitP p).C.size = 15 := PK.size (sitP_ok hw).l_starts (sitP_ok hw).l_failed
def isAt (k : PK) (p : PosR) : Bool := sitOk p && decide (sitP p = k)
def lookC (ps : List PosR) (k : PK) : Option Int := (ps.find? (isAt k)).map (·.choice)
def CMap (ps : List PosR) (ces : List (PKs × Value × Nat)) : Prop := ∀ k : PKs, getL k ces = (lookC ps k.1).map fun c => .int .i64 c
theorem CMap.nil : CMap [] [] := fun k => rfl
theorem lookC_snoc {ps : List PosR} {p : PosR} {k : PK} : lookC (ps ++ [p]) k = match lookC ps k with | some c => some c | none => if isAt k p = true then some p.choice else none := by
  unfold lookC
  rw [List.find?_append]
  cases hf : ps.find? (isAt k) with
  | some q => rfl
  | none =>
    cases hi : isAt k p with
    | true => rw [List.find?_cons, hi]; rfl
    | false => rw [List.find?_cons, hi]; rfl
theorem CMap.put {ps : List PosR} {p : PosR} {ces : List (PKs × Value × Nat)} {c : Nat} (h : CMap ps ces) (hw : PosW p) (ho : sitOk p = true) (hn : getL (ppKey hw) ces = none) : CMap (ps ++ [p]) (putL (ppKey hw) (.int .i64 p.choice) c ces) := fun k => by
  rw [getL_put, lookC_snoc]
  by_cases he : k = ppKey hw
  · subst he
    have h1 := h (ppKey hw)
    rw [hn] at h1
    cases hl : lookC ps (ppKey hw).1 with
    | some c => rw [hl] at h1; cases h1
    | none =>
      have hi : isAt (ppKey hw).1 p = true := by unfold isAt; rw [ho, decide_eq_true (show sitP p = (ppKey hw).1 from rfl)]; rfl
      rw [if_pos rfl]
      show _ = Option.map _ (if isAt (ppKey hw).1 p = true then some p.choice else none)
      rw [if_pos hi]; rfl
  · rw [if_neg he, h k]
    have hi : isAt k.1 p = false := by
      unfold isAt
      rw [decide_eq_false (fun q => he (Subtype.ext q.symm)), Bool.and_false]
    cases hl : lookC ps k.1 with
    | some c => rfl
    | none =>
      show _ = Option.map _ (if isAt k.1 p = true then some p.choice else none)
      rw [hi]; rfl
theorem CMap.skip {ps : List PosR} {p : PosR} {ces : List (PKs × Value × Nat)} (h : CMap ps ces) (hw : PosW p) (ho : sitOk p = false ∨ getL (ppKey hw) ces ≠ none) : CMap (ps ++ [p]) ces := fun k => by
  rw [lookC_snoc, h k]
  cases hl : lookC ps k.1 with
  | some c => rfl
  | none =>
    show _ = Option.map _ (if isAt k.1 p = true then some p.choice else none)
    cases hi : isAt k.1 p with
    | false => rfl
    | true =>
      unfold isAt at hi
      rw [Bool.and_eq_true, decide_eq_true_iff] at hi
      rcases ho with ho | ho
      · rw [ho] at hi; cases hi.1
      · have he : k = ppKey hw := Subtype.ext hi.2.symm
        subst he
        rw [h, hl] at ho
        exact absurd rfl ho
end Go.Proofs.Ytoogicafefennaa
/-
  Contracts: play.newPlayer.
-/
namespace Go.Proofs.Ytoogicafefennaa
set_option linter.unusedVariables false
open Go.RowKit Go.Sy
set_option linter.unusedVariables false
set_option linter.unusedSimpArgs false
attribute [local irreducible] Calls thenQ blockQ retQ jumpQ Spc Spl Spq Ex Ev Evs Gd Upd ESub HKeep Res Res1 wlk effQ Rem SrcAt Split PK.C mobj PosR.C plC sitP
set_option maxRecDepth 100000 in
set_option maxHeartbeats 16000000 in
theorem player_c {w0 : World} {g : GaR} {n c : Nat} {A : Option Addr} {ps : List PosR} (hps : RdPlan w0 w0.heap.size A n ps) (hpw : ∀ p ∈ ps, PosW p) :
    Calls Try.prog 48 #[.agg g.C, .slice A n c] w0 (RetH w0 (fun x : Nat × List (PKs × Value × Nat) × Nat => .agg (plC g x.1)) (fun x => [(x.1, mobj pkV x.2.1 x.2.2)]) (fun x => CMap ps x.2.1)) := by
  have hln := hps.rows.len
  have hbd := hps.rows.bound
  have hz4 : ∀ gc, (plC g gc).size = 4 := fun gc => by unfold plC; rfl
  have hmk : mobj pkV [] 0 = Obj.map #[] 0 := by unfold mobj; rfl
  have hpc : ∀ gc : Nat, #[.slice g.sl.a g.sl.n g.sl.c, .slice g.dl.a g.dl.n g.dl.c, .int .i64 g.bd, .map (some gc)] = plC g gc := fun gc => by unfold plC; rfl
  refine sp_enter (vs := [_, _]) Try.func48 rfl Try.ntmps48 rfl ?_
  repeat (first|(apply spl_makeMap rfl;intro gc hgc;have hzg := hz4 gc)|apply then_n|apply sp_seq|apply sp_region|apply spl_nil|apply sp_block|((apply spl_pure rfl);(·(first|(apply ex_buildE (r:=plC g gc);(·(repeat (first|exact eN|(apply eS;(·exact eT rfl)))));(·rfl);(·exact hpc gc))|((first|apply ex_move|apply ex_len)<;>(first|exact eT rfl|exact eC))|((apply ex_loadowns)<;>(first|exact eT rfl|exact Bk.own InH.mem|(rfl))))))|(apply spl_box;(·exact eT rfl);(·rfl);intro _ _)|(apply spl_alloc rfl;intro _ _)|(apply spl_stores;(·exact eT rfl);(·exact eT rfl);(·(repeat (exact Upd.here)));(·(rfl));(·(assumption));(·exact Ones.one)))
  rename_i g2 hg2 g4 hg4 g5 hg5
  rw [← hmk]
  refine sp_loop (X := Nat × List (PKs × Value × Nat) × Nat) (fun y => [(17, true, .int .i64 (y.1 : Int)), (16, true, .int .i64 (n : Int)), (15, true, .slice A n c), (5, true, .pointer (some ⟨g5, 0, none⟩)), (4, true, .pointer (some ⟨g4, 0, none⟩))]) (fun _ => w0)
    (fun y => (gc, mobj pkV y.2.1 y.2.2) :: (g5, .cells (plC g gc) 92 (0, 0)) :: [(g4, .cells #[.slice none 0 0, .slice none 0 0, .int .i64 0, .map none] 92 (0, 0))]) (fun y => y.1 ≤ n ∧ CMap (ps.take y.1) y.2.1) (fun y => n - y.1) (0, [], 0) ⟨Nat.zero_le _, CMap.nil⟩ (by (repeat (first|exact ESub.nil|apply ESub.cons rfl))) rfl (by (repeat (first|exact HKeep.refl|apply HKeep.keep|(apply HKeep.pick;(·(repeat (first|exact Rem.here|apply Rem.there))))|apply HKeep.drop (by first|assumption|omega)))) ?_
  rintro ⟨i, ces, cc⟩ ⟨hi, hM⟩
  replace hi : i ≤ n := hi
  replace hM : CMap (ps.take i) ces := hM
  dsimp only
  have hzg := hz4 gc
  have hc3 : (plC g gc)[3]? = some (.map (some gc)) := by unfold plC; rfl
  by_cases hlt : i < n
  · have hlt' : (i : Int) < (n : Int) := by omega
    obtain ⟨ad, p, hA, hb, hp, hsz, hc⟩ := hps.rows.at_ hlt
    have hpm := List.mem_of_getElem? hp
    have hpp := hps.pos p hpm
    have hw := hpw p hpm
    have hz6 : p.C.size = 6 := by unfold PosR.C; rfl
    have hc4 : p.C[4]? = some (.int .i64 p.choice) := by unfold PosR.C; rfl
    have hz15 := sitP_size hw
    have htk := take_succ hp
    cases hok : sitOk p with
    | false =>
      have hof := fun (H : Heap) (w' : World) (hh : Hp w0.heap.size w0 H w') => (hok ▸ of_c (hpp.hp hh) : Calls Try.prog 85 #[.agg p.C] w' (Ret w' (.tuple #[.agg (sitP p).C, .bool false])))
      have hM2 := hM.skip hw (.inl hok)
      rw [← htk] at hM2
      obtain ⟨v0, hv0⟩ : ∃ v0 : Int × Bool, (getL (ppKey hw) ces).getD (.int .i64 0) = .int .i64 v0.1 ∧ (getL (ppKey hw) ces).isSome = v0.2 := by
        rw [hM (ppKey hw)]
        cases lookC (ps.take i) (ppKey hw).1 with
        | none => exact ⟨(0, false), rfl, rfl⟩
        | some c => exact ⟨(c, true), rfl, rfl⟩
      obtain ⟨v1, b1⟩ := v0
      obtain ⟨hva, hv2⟩ := hv0
      have hv1 : ∀ z : Value, z = .int .i64 0 → (getL (ppKey hw) ces).getD z = .int .i64 v1 := fun z hz => by rw [hz]; exact hva
      repeat (first|(apply spl_callp rfl;(·(repeat (first|exact eN|(apply eS;(·exact eT rfl)))));(·exact fun w' hh => hof _ w' hh))|(apply sp_cond_f;(·exact eT rfl);(·rfl))|apply then_n|apply block_n|apply sp_seq|apply sp_region|apply spl_nil|((apply sp_cond_t);(·exact eT rfl);(·(rfl)))|apply sp_skip|apply sp_block|((first|apply spl_pure rfl|(apply spl_pure_g rfl;(·exact Gd.tt rfl rfl)));(·(first|(apply ex_lssT hlt';(·exact eT rfl);(·exact eT rfl))|(apply ex_indexAddr;(·exact eT rfl);(·exact eT rfl);(·exact hA);(·exact hlt))|(apply ex_loadelem (C:=PosR.C) (i:=i) (y:=p);(·exact eT rfl);(·exact hps.rows);(·exact hA);(·exact hp))|(exact ex_off rfl)|(refine ex_lookupOk (k:=ppKey hw) (kv:=pkV) (g:=gc) (c:=cc) (hv1 _ rfl) hv2 ?_ ?_ ?_;(·exact eT rfl);(·exact eT rfl);(·exact Bk.own InH.mem))|((first|apply ex_move|apply ex_assign|apply ex_fieldAddr'|apply ex_andT)<;>(first|exact eT rfl|exact eG rfl))|(apply ex_addn<;>(first|exact eT rfl|exact eC|(constructor<;>omega)))|((first|apply ex_loadown|apply ex_extract)<;>(first|exact eT rfl|exact Bk.own InH.mem|rfl|assumption))|((apply ex_loadowns)<;>(first|exact eT rfl|exact Bk.own InH.mem|(assumption))))))|(apply spl_alloc rfl;intro _ _)|(apply spl_stores;(·exact eT rfl);(·exact eT rfl);(·(repeat (exact Upd.here)));(·(rfl));(·(assumption));(·exact Ones.one)))
      exact ⟨(i + 1, ces, cc), ⟨hlt, hM2⟩, by (show n - (i + 1) < n - i; omega), (by (repeat (first|exact ESub.nil|apply ESub.cons rfl))), rfl, (by (repeat (first|exact HKeep.refl|(apply HKeep.pick;(·(repeat (first|exact Rem.here|apply Rem.there))))|apply HKeep.drop (by first|assumption|omega))))⟩
    | true =>
      have hof := fun (H : Heap) (w' : World) (hh : Hp w0.heap.size w0 H w') => (hok ▸ of_c (hpp.hp hh) : Calls Try.prog 85 #[.agg p.C] w' (Ret w' (.tuple #[.agg (sitP p).C, .bool true])))
      cases hgl : getL (ppKey hw) ces with
      | some v =>
        have hM2 := hM.skip hw (.inr (by rw [hgl]; exact fun q => by cases q))
        rw [← htk] at hM2
        have hv1 : ∀ z, (getL (ppKey hw) ces).getD z = v := fun z => by rw [hgl]; rfl
        have hv2 : (getL (ppKey hw) ces).isSome = true := by rw [hgl]; rfl
        repeat (first|(apply spl_callp rfl;(·(repeat (first|exact eN|(apply eS;(·exact eT rfl)))));(·exact fun w' hh => hof _ w' hh))|(apply sp_cond_f;(·exact eT rfl);(·rfl))|apply then_n|apply block_n|apply sp_seq|apply sp_region|apply spl_nil|((apply sp_cond_t);(·exact eT rfl);(·(rfl)))|apply sp_skip|apply sp_block|((first|apply spl_pure rfl|(apply spl_pure_g rfl;(·exact Gd.tt rfl rfl)));(·(first|(apply ex_lssT hlt';(·exact eT rfl);(·exact eT rfl))|(apply ex_indexAddr;(·exact eT rfl);(·exact eT rfl);(·exact hA);(·exact hlt))|(apply ex_loadelem (C:=PosR.C) (i:=i) (y:=p);(·exact eT rfl);(·exact hps.rows);(·exact hA);(·exact hp))|(refine ex_lookupOk (k:=ppKey hw) (kv:=pkV) (g:=gc) (c:=cc) (hv1 _) hv2 ?_ ?_ ?_;(·exact eT rfl);(·exact eT rfl);(·exact Bk.own InH.mem))|((first|apply ex_move|apply ex_assign|apply ex_fieldAddr'|apply ex_not|apply ex_andT)<;>(exact eT rfl))|(apply ex_addn<;>(first|exact eT rfl|exact eC|(constructor<;>omega)))|((first|apply ex_loadown|apply ex_extract)<;>(first|exact eT rfl|exact Bk.own InH.mem|rfl|assumption))|((apply ex_loadowns)<;>(first|exact eT rfl|exact Bk.own InH.mem|(assumption))))))|(apply spl_alloc rfl;intro _ _)|(apply spl_stores;(·exact eT rfl);(·exact eT rfl);(·(repeat (exact Upd.here)));(·(rfl));(·(assumption));(·exact Ones.one)))
        exact ⟨(i + 1, ces, cc), ⟨hlt, hM2⟩, by (show n - (i + 1) < n - i; omega), (by (repeat (first|exact ESub.nil|apply ESub.cons rfl))), rfl, (by (repeat (first|exact HKeep.refl|(apply HKeep.pick;(·(repeat (first|exact Rem.here|apply Rem.there))))|apply HKeep.drop (by first|assumption|omega))))⟩
      | none =>
        have hM2 := hM.put (c := cc) hw hok hgl
        rw [← htk] at hM2
        have hv1 : ∀ z, (getL (ppKey hw) ces).getD z = z := fun z => by rw [hgl]; rfl
        have hv2 : (getL (ppKey hw) ces).isSome = false := by rw [hgl]; rfl
        repeat (first|(apply spl_callp rfl;(·(repeat (first|exact eN|(apply eS;(·exact eT rfl)))));(·exact fun w' hh => hof _ w' hh))|(apply sp_cond_t;(·exact eT rfl);(·rfl))|(refine spl_mapUpdate (k:=ppKey hw) (kv:=pkV) (g:=gc) (c:=cc) (es:=ces) (v:=.int .i64 p.choice) (by (exact eT rfl)) (by (exact eT rfl)) (by (exact eT rfl)) (by (repeat (first|exact Upd.here|apply Upd.there))) ?_)|apply then_n|apply block_n|apply sp_seq|apply sp_region|apply spl_nil|apply sp_skip|apply sp_block|((first|apply spl_pure rfl|(apply spl_pure_g rfl;(·exact Gd.tt rfl rfl)));(·(first|(apply ex_lssT hlt';(·exact eT rfl);(·exact eT rfl))|(apply ex_indexAddr;(·exact eT rfl);(·exact eT rfl);(·exact hA);(·exact hlt))|(apply ex_loadelem (C:=PosR.C) (i:=i) (y:=p);(·exact eT rfl);(·exact hps.rows);(·exact hA);(·exact hp))|(refine ex_lookupOk (k:=ppKey hw) (kv:=pkV) (g:=gc) (c:=cc) (hv1 _) hv2 ?_ ?_ ?_;(·exact eT rfl);(·exact eT rfl);(·exact Bk.own InH.mem))|((first|apply ex_move|apply ex_assign|apply ex_fieldAddr'|apply ex_not|apply ex_andT)<;>(exact eT rfl))|(apply ex_addn<;>(first|exact eT rfl|exact eC|(constructor<;>omega)))|((first|apply ex_loadown|apply ex_extract)<;>(first|exact eT rfl|exact Bk.own InH.mem|rfl|assumption))|((apply ex_loadowns)<;>(first|exact eT rfl|exact Bk.own InH.mem|(assumption))))))|(apply spl_alloc rfl;intro _ _)|(apply spl_stores;(·exact eT rfl);(·exact eT rfl);(·(repeat (exact Upd.here)));(·(rfl));(·(assumption));(·exact Ones.one)))
        exact ⟨(i + 1, putL (ppKey hw) (.int .i64 p.choice) cc ces, tick (ppKey hw) cc ces), ⟨hlt, hM2⟩, by (show n - (i + 1) < n - i; omega), (by (repeat (first|exact ESub.nil|apply ESub.cons rfl))), rfl, (by (repeat (first|exact HKeep.refl|(apply HKeep.pick;(·(repeat (first|exact Rem.here|apply Rem.there))))|apply HKeep.drop (by first|assumption|omega))))⟩
  · have hin : i = n := by omega
    have hlt' : ¬ (i : Int) < (n : Int) := by omega
    rw [hin, List.take_of_length_le (by omega)] at hM
    repeat (first|(apply sp_cond_f;(·exact eT rfl);(·rfl))|apply then_n|apply sp_seq|apply sp_region|apply spl_nil|apply then_e|apply block_here|apply sp_ret|apply sp_exit|((apply spl_pure rfl);(·(first|(apply ex_lssF hlt';(·exact eT rfl);(·exact eT rfl))|((apply ex_loadowns)<;>(first|exact eT rfl|exact Bk.own InH.mem|(assumption))))))|(apply spl_stores;(·exact eT rfl);(·exact eT rfl);(·(repeat (first|exact Upd.here|apply Upd.there)));(·(rfl));(·(assumption));(·exact Ones.one)))
    (apply retH_ok rfl;(·((apply Res.ofOne;((apply Res1.cell;(·rfl);(·exact InH.mem);(·(assumption))))))))
    exact ⟨(gc, ces, cc), rfl, hM, by (repeat (first|exact HKeep.refl|apply HKeep.keep|apply HKeep.drop (by first|assumption|omega)))⟩
end Go.Proofs.Ytoogicafefennaa
/-
  Contracts: player.begin.
-/
namespace Go.Proofs.Ytoogicafefennaa
set_option linter.unusedVariables false
open Go.RowKit Go.Sy
set_option linter.unusedVariables false
set_option linter.unusedSimpArgs false
/-- The position at the beginning. -/
def posB (g : GaR) (gm : Nat) : PosR := { turn := 0, sl := g.sl, starts := g.starts, fl := ⟨some ⟨gm, 0, none⟩, g.sl.n, g.sl.n⟩, failed := List.replicate g.sl.n false, budget := g.bd, choice := 0, bound := 0 }
theorem posB_ok {g : GaR} {gm : Nat} (h : g.sl.n ≤ 6) : sitOk (posB g gm) = true := by
  unfold sitOk posB
  dsimp only
  rw [decide_eq_false (by omega), decide_eq_true rfl]; rfl
theorem posB_sit {g : GaR} {gm B : Nat} {ns : List Nat} {ds : List (Sl × List Nat)} (h : g.sl.n ≤ 6) (hp : Plain g ns ds B) (hl : ns.length = g.sl.n) : sitP (posB g gm) = pOf ns.length (gs0 ns B) := by
  unfold sitP
  rw [if_pos (posB_ok h)]
  unfold posB q0 pOf gs0 padZ padS padB
  dsimp only
  rw [hp.ns, hp.bd, ← hl]
  simp only [List.map_append, List.map_replicate, List.length_map, List.length_replicate]
  rw [List.replicate_append_replicate, show ns.length + (6 - ns.length) = 6 by omega]
  all_goals rfl
attribute [local irreducible] Calls thenQ blockQ retQ jumpQ Spc Spl Spq Ex Ev Evs Gd Upd ESub HKeep Res Res1 wlk effQ wlkQ effQt Rem SrcAt Split PK.C mobj PosR.C plC sitP posB pOf
set_option maxRecDepth 100000 in
set_option maxHeartbeats 16000000 in
theorem begin_c {w0 : World} {g : GaR} {ns : List Nat} {ds : List (Sl × List Nat)} {B gc : Nat} (h : RdGa w0 w0.heap.size g) (hv : validG g = true) (hp : Plain g ns ds B) :
    Calls Try.prog 80 #[.agg (plC g gc)] w0 (Ret w0 (.agg (pOf ns.length (gs0 ns B)).C)) := by
  have hk := gaOk_of hv
  have hs0 := hp.start hk h
  have hm6 : g.sl.n ≤ 6 := hk.m
  have hml : ns.length = g.sl.n := by
    have := h.st.len
    rw [hp.ns, List.length_map] at this
    exact this
  have hz15 := pOf_size (m := ns.length) hs0.ok
  have hz4 : (plC g gc).size = 4 := by unfold plC; rfl
  have hc0 : (plC g gc)[0]? = some (.slice g.sl.a g.sl.n g.sl.c) := by unfold plC; rfl
  have hc2 : (plC g gc)[2]? = some (.int .i64 g.bd) := by unfold plC; rfl
  have hpc : ∀ gm : Nat, #[.int .i64 0, .slice g.sl.a g.sl.n g.sl.c, .slice (some ⟨gm, 0, none⟩) g.sl.n g.sl.n, .int .i64 g.bd, .int .i64 0, .int .i64 0] = (posB g gm).C := fun gm => by unfold posB PosR.C; rfl
  have hz6 : ∀ gm : Nat, (posB g gm).C.size = 6 := fun gm => by unfold PosR.C; rfl
  have hofc := fun (H : Heap) (w' : World) (gm : Nat) (hh : Hp w0.heap.size w0 H w') (hg : w'.heap[gm]? = some (.cells (List.replicate g.sl.n (.bool false)).toArray 4 (0, 0))) => (by
    have h1 : RdPos w' w'.heap.size (posB g gm) := by
      refine ⟨by unfold posB; exact h.st.hp' hh, ?_⟩
      unfold posB
      refine RdS.ofBlock hg (Array.getElem?_eq_some_iff.1 hg).1 (by rw [List.length_replicate]) (by show g.sl.n ≤ _; omega) (fun x hx => rfl) fun i x hx j v hj => ?_
      have hi : i < g.sl.n := by
        have := (List.getElem?_eq_some_iff.1 hx).1
        rwa [List.length_replicate] at this
      rw [List.getElem?_replicate, if_pos hi] at hx
      cases hx
      have hj0 : j = 0 := by
        have := (Array.getElem?_eq_some_iff.1 hj).1
        have h2 : (boolC false).size = 1 := rfl
        omega
      subst hj0
      cases hj
      rw [List.getElem?_toArray, List.getElem?_replicate, if_pos (by omega)]
      all_goals rfl
    have h2 := of_c h1
    rw [posB_ok hm6, posB_sit hm6 hp hml] at h2
    exact h2 : Calls Try.prog 85 #[.agg (posB g gm).C] w' (Ret w' (.tuple #[.agg (pOf ns.length (gs0 ns B)).C, .bool true])))
  refine sp_enter (vs := [_]) Try.func80 rfl Try.ntmps80 rfl ?_
  repeat (first|apply then_n|apply sp_seq|apply sp_region|apply spl_nil|(apply spl_box;(·exact eT rfl);(·rfl);intro _ _)|(apply spl_alloc rfl;intro _ _))
  rename_i g1 hg1 g2 hg2
  refine spc_cutN (X := Nat) (fun x => [(3, true, .pointer (some ⟨x, 0, none⟩)), (2, true, .pointer (some ⟨g2, 0, none⟩))]) (fun x => (x, .cells (pOf ns.length (gs0 ns B)).C 132 (0, 0)) :: [(g2, .cells #[.int .i64 0, .int .i64 0, .int .i64 0, .int .i64 0, .int .i64 0, .int .i64 0, .int .i64 0, .int .i64 0, .int .i64 0, .bool false, .bool false, .bool false, .bool false, .bool false, .bool false] 132 (0, 0))]) (fun x => w0.heap.size ≤ x) ?_ ?_
  · refine sp_drawnQ (.rd 0 (.rd 1 (.rd 2 (.rd 3 (.rd 4 (.rd 5 (.rd 6 (.rd 8 (.rd 9 (.rd 10 (.fk 7 16 (.rd 11 (.fk 12 16 (.rd 13 (.rd 14 (.rd 15 (.ef 16 (.ef 17 (.rd 18 .nil)))))) (.ef 12 (.rd 13 (.rd 14 (.rd 15 (.ef 17 (.rd 18 .nil)))))))) (.ef 7 (.rd 11 (.ef 12 (.rd 13 (.rd 14 (.rd 15 (.ef 17 (.rd 18 .nil))))))))))))))))))) 19 _ mixed (by kernel_rfl) HKeep.refl ?_
    repeat (first|(exact ⟨g3, hg3, (by (repeat (first|exact ESub.nil|apply ESub.cons rfl))), rfl, (by (repeat (first|exact HKeep.refl|apply HKeep.keep|(apply HKeep.pick;(·(repeat (first|exact Rem.here|apply Rem.there))))|apply HKeep.drop (by first|assumption|omega))))⟩)|(apply spl_callp rfl;(·(repeat (first|exact eN|(apply eS;(·exact eT rfl)))));(·exact fun w' hh => hofc _ w' gm hh hh.ownI))|(apply spl_makeSlice rfl;(·exact eT rfl);(·exact eT rfl);(·rfl);(·omega);(·omega);intro gm hgm;have hzm := hz6 gm)|(apply spl_alloc rfl;intro g3 hg3)|((apply wlq_read rfl rfl);(·(first|(apply ex_buildE (r:=(posB g gm).C);(·(repeat (first|exact eN|(apply eS;(·exact eT rfl)))));(·rfl);(·exact hpc gm))|((first|apply ex_move|apply ex_assign|apply ex_fieldAddr'|apply ex_len)<;>(exact eT rfl))|((first|apply ex_loadown|apply ex_extract)<;>(first|exact eT rfl|exact Bk.own InH.mem|rfl|assumption)))))|apply wlq_nil|apply wlq_eff rfl|apply wlq_fork rfl rfl|(apply effqt;(·(intro h_;((repeat (first|exact HKeep.refl|(apply HKeep.pick;(·(repeat (first|exact Rem.here|apply Rem.there))))|apply HKeep.drop (by first|assumption|omega)))))))|apply then_n|apply spl_nil|(apply spl_stores;(·exact eT rfl);(·exact eT rfl);(·(repeat (first|exact Upd.here|apply Upd.there)));(·(rfl));(·(assumption));(·exact Ones.one)))
  · intro g3 hg3
    repeat (first|apply then_n|apply sp_seq|apply sp_region|apply spl_nil|apply sp_ret|((apply spl_pure rfl);(·((apply ex_loadowns<;>(first|exact eT rfl|exact Bk.own InH.mem|(assumption))))))|(apply spl_stores;(·exact eT rfl);(·exact eT rfl);(·(repeat (first|exact Upd.here|apply Upd.there)));(·(rfl));(·(assumption));(·exact Ones.one)))
    (apply ret_ok rfl;(·((apply Res.ofOne;((apply Res1.cell;(·rfl);(·exact InH.mem);(·(assumption)))))))); rfl
end Go.Proofs.Ytoogicafefennaa
/-
  Contracts: a position that a judge takes in.
-/
namespace Go.Proofs.Ytoogicafefennaa
set_option linter.unusedVariables false
open Go.RowKit Go.Sy
set_option linter.unusedVariables false
set_option linter.unusedSimpArgs false
def rangeP (f : Func) : Code × Code := match f.body with | some (.seq _ (.seq _ (.seq _ (.seq _ (.seq (.seq _ (.block _ (.rangeFunc _ _ a b))) _))))) => (a, b) | _ => (.skip, .skip)
theorem Split.six {p q r s t : Nat × Obj} {C R : Heap} : Split (p :: q :: r :: s :: t :: (C ++ R)) (p :: q :: r :: s :: t :: C) R := Split.here (A := p :: q :: r :: s :: t :: C)
attribute [local irreducible] Calls thenQ blockQ retQ jumpQ Spc Spl Spq Ex Ev Evs Gd Upd ESub HKeep Res Res1 wlk effQ Rem SrcAt Split SplI SpcM YieldAt JK.C mobj markQ rndQ asgQ PosR.C
set_option maxRecDepth 100000 in
set_option maxHeartbeats 4000000 in
theorem take_round {w0 : World} {p : PosR} {ps : List PosR} (hp : RdPos w0 w0.heap.size p) (hw : PosW p) {l d0 g7 gp : Nat} {fn : FuncId} {tmps : Array Value} {ix : Value} {pes : List (JKs × Value × Nat)} {pc : Nat} {R R' : Heap} (hM : PMap ps pes)
    {rec : Loop} (hrec : rec = { state := .ready, pending := none, fn, tmps, params := #[32, 33], assign := (rangeP Try.f20).1, body := (rangeP Try.f20).2, defers := d0 }) :
    SpcM (some l) [] Try.prog 139 w0.heap.size (rangeP Try.f20).1 (asgQ Try.prog 139 w0.heap.size l rec w0 (fun _ : Heap => true) (fun y => y ++ R')
      (fun y => ∃ pes pc, PMap (p :: ps) pes ∧ y = (l, .loop rec) :: (d0, .deferred (some [])) :: (g7, .cells #[.map (some gp)] 95 (0, 0)) :: (gp, mobj jkV pes pc) :: R))
      ((33, true, .agg p.C) :: (32, true, ix) :: [(7, true, .pointer (some ⟨g7, 0, none⟩))]) w0 ((l, .loop rec) :: (d0, .deferred (some [])) :: (g7, .cells #[.map (some gp)] 95 (0, 0)) :: (gp, mobj jkV pes pc) :: (R ++ R')) := by
  have hz6 : p.C.size = 6 := by unfold PosR.C; rfl
  have hz10 : (sitJ p).C.size = 10 := JK.size (sitJ_len hw)
  repeat (first|apply spm_region rfl|apply spl_nil|(apply spl_alloc rfl;intro _ _)|(apply spl_stores;(·exact eT rfl);(·exact eT rfl);(·(repeat (exact Upd.here)));(·(rfl));(·(assumption));(·exact Ones.one)))
  rename_i g9 hg9
  refine asg_n ((g9, .cells p.C 100 (0, 0)) :: (d0, .deferred (some [])) :: (g7, .cells #[.map (some gp)] 95 (0, 0)) :: (gp, mobj jkV pes pc) :: (R ++ R')) (List.Perm.swap _ _ _) ?_
  subst hrec
  dsimp only
  cases hok : sitOk p with
  | false =>
    repeat (first|apply spm_skip|apply spm_seq|apply spm_region rfl|apply spm_block|(refine spm_cond_f (b := sitOk p) ?_ hok ?_;(·exact eT rfl))|(apply spl_callp rfl;(·(repeat (first|exact eN|(apply eS;(·exact eT rfl)))));(·exact fun w' hh => sit_c (hp.hp hh)))|apply then_n|apply block_n|apply spl_nil|((apply spl_pure rfl);(·(first|((first|apply ex_move|apply ex_assign)<;>(exact eT rfl))|((apply ex_extract)<;>(first|exact eT rfl|rfl))|((apply ex_loadowns)<;>(first|exact eT rfl|exact Bk.own InH.mem|(assumption))))))|(apply spl_alloc rfl;intro _ _)|(apply spl_stores;(·exact eT rfl);(·exact eT rfl);(·(repeat (exact Upd.here)));(·(rfl));(·(assumption));(·exact Ones.one)))
    rename_i gs hgs
    refine rnd_n _ ((l, _) :: (d0, _) :: (g7, _) :: (gp, _) :: R) ((List.Perm.swap _ _ _).trans (List.Perm.cons _ (List.Perm.refl _))) ⟨pes, pc, hM.skip hok, rfl⟩ rfl ?_
    show HKeep w0 ((l, _) :: (d0, _) :: (g7, _) :: (gp, _) :: (R ++ R')) _
    (repeat (first|exact HKeep.refl|apply HKeep.keep|(apply HKeep.app;(·(repeat (first|exact Split.here|apply Split.cons))))|(apply HKeep.pick;(·(repeat (first|exact Rem.here|apply Rem.there))))|apply HKeep.drop (by first|assumption|omega)))
  | true =>
    repeat (first|apply spm_seq|apply spm_region rfl|apply spm_block|(refine spm_cond_t (b := sitOk p) ?_ hok ?_;(·exact eT rfl))|(apply spl_callp rfl;(·(repeat (first|exact eN|(apply eS;(·exact eT rfl)))));(·exact fun w' hh => sit_c (hp.hp hh)))|(refine spl_mapUpdate (k:=psKey hw hok) (kv:=jkV) (g:=gp) (c:=pc) (es:=pes) (v:=.agg p.C) (by (exact eT rfl)) (by (exact eT rfl)) (by (exact eT rfl)) (by (repeat (first|exact Upd.here|apply Upd.there))) ?_)|apply then_n|apply block_n|apply spl_nil|((apply spl_pure rfl);(·(first|((first|apply ex_move|apply ex_assign)<;>(exact eT rfl))|((first|apply ex_loadown|apply ex_extract)<;>(first|exact eT rfl|exact Bk.own InH.mem|rfl))|((apply ex_loadowns)<;>(first|exact eT rfl|exact Bk.own InH.mem|(assumption))))))|(apply spl_alloc rfl;intro _ _)|(apply spl_stores;(·exact eT rfl);(·exact eT rfl);(·(repeat (exact Upd.here)));(·(rfl));(·(assumption));(·exact Ones.one)))
    rename_i gs hgs
    refine rnd_n _ ((l, _) :: (d0, _) :: (g7, _) :: (gp, _) :: R) ((List.Perm.swap _ _ _).trans (List.Perm.cons _ (List.Perm.refl _))) ⟨putL (psKey hw hok) (.agg p.C) pc pes, tick (psKey hw hok) pc pes, hM.put hw hok, rfl⟩ rfl ?_
    show HKeep w0 ((l, _) :: (d0, _) :: (g7, _) :: (gp, _) :: (R ++ R')) _
    (repeat (first|exact HKeep.refl|apply HKeep.keep|(apply HKeep.app;(·(repeat (first|exact Split.here|apply Split.cons))))|(apply HKeep.pick;(·(repeat (first|exact Rem.here|apply Rem.there))))|apply HKeep.drop (by first|assumption|omega)))
end Go.Proofs.Ytoogicafefennaa
/-
  Contracts: judge.Accept.
-/
namespace Go.Proofs.Ytoogicafefennaa
set_option linter.unusedVariables false
open Go.RowKit Go.Sy
set_option linter.unusedVariables false
set_option linter.unusedSimpArgs false
def lookG (ps : List PosR) (m : Nat) : GS → Option PosR := fun x => lookP ps (jOf m x)
theorem lookG_posM {ps : List PosR} {pes : List (JKs × Value × Nat)} {m : Nat} {hm : m ≤ 6} (h : PMap ps pes) : PosM m hm pes (lookG ps m) := fun x hx => h (jkOf hm hx)
def acc (ns : List Nat) (ds : List (Sl × List Nat)) (B : Nat) (ps : List PosR) (bound : Int) : Prop := if ds = [] then 0 ≤ bound else acceptP (gpOf ns ds) (lookG ps ns.length) bound (gs0 ns B)
theorem drop_step {ps : List PosR} {n k : Nat} {p : PosR} (hl : ps.length = n) (hk : k < n) (h : ps[n - 1 - k]? = some p) : ps.drop (n - (k + 1)) = p :: ps.drop (n - k) := by
  have h1 : n - 1 - k < ps.length := by omega
  rw [show n - (k + 1) = n - 1 - k by omega, List.drop_eq_getElem_cons h1, show n - 1 - k + 1 = n - k by omega]
  rw [List.getElem?_eq_getElem h1] at h
  cases h
  rfl
theorem Split.five {p q r s t : Nat × Obj} {R : Heap} : Split (p :: q :: r :: s :: t :: R) [p, q, r, s, t] R := Split.here (A := [p, q, r, s, t])
theorem acceptP_pass {G : GP} {look : GS → Option PosR} {b : Int} {s0 : GS} (h : acceptP G look b s0) : passP G look b s0 := h.1
theorem acc_P {ns : List Nat} {ds : List (Sl × List Nat)} {B : Nat} {ps : List PosR} {bound : Int} (h : ds ≠ []) : acc ns ds B ps bound ↔ acceptP (gpOf ns ds) (lookG ps ns.length) bound (gs0 ns B) := by unfold acc; rw [if_neg h]
theorem lookG_eq {ps : List PosR} {m : Nat} {x : GS} {p : PosR} (h : lookG ps m x = some p) : lookP ps (jOf m x) = some p := h
theorem Split.six1 {s t a c p q : Nat × Obj} {R : Heap} : Split (p :: q :: a :: s :: t :: c :: R) [p, q, a, s, t, c] R := Split.here (A := [p, q, a, s, t, c])
theorem nil_or_snoc {α : Type} (l : List α) : l = [] ∨ ∃ r x, l = r ++ [x] := by
  rcases List.eq_nil_or_concat l with h | ⟨r, x, h⟩
  · exact .inl h
  · exact .inr ⟨r, x, by rw [h, List.concat_eq_append]⟩
theorem ex_leqT {P : Program} {Be : Nat} {w0 : World} {H : Heap} {G : Bool} {e : Env} {ty t t' : TypeId} {x y : Operand} {k : IntKind} {m n : Int} (h : m ≤ n) (h1 : Ev G e x (.int k m)) (h2 : Ev G e y (.int k n)) : Ex P Be w0 H G e (.binOp .leq t x y t') ty (.bool true) := by
  have := ex_leq (P := P) (Be := Be) (w0 := w0) (H := H) (ty := ty) (t := t) (t' := t') h1 h2
  rwa [decide_eq_true h] at this
theorem ex_leqF {P : Program} {Be : Nat} {w0 : World} {H : Heap} {G : Bool} {e : Env} {ty t t' : TypeId} {x y : Operand} {k : IntKind} {m n : Int} (h : ¬ m ≤ n) (h1 : Ev G e x (.int k m)) (h2 : Ev G e y (.int k n)) : Ex P Be w0 H G e (.binOp .leq t x y t') ty (.bool false) := by
  have := ex_leq (P := P) (Be := Be) (w0 := w0) (H := H) (ty := ty) (t := t) (t' := t') h1 h2
  rwa [decide_eq_false h] at this
theorem ex_slice_hN {P : Program} {Be : Nat} {w0 : World} {H : Heap} {G : Bool} {e : Env} {ty t el sz : TypeId} {x y : Operand} {A : Option Addr} {n c : Nat} {k : IntKind} {h : Nat} (h1 : Ev G e x (.slice A n c)) (h2 : Ev G e y (.int k (h : Int))) (hb : h ≤ c) [ht : TSlice P t el] [hs : TSize P el sz] : Ex P Be w0 H G e (.slice t x none (some y) none) ty (.slice A h c) :=
  ex_slice_h h1 h2 (by omega)
theorem js0_ok {m b : Nat} {hm : m ≤ 6} : JS.Ok m hm b ⟨[], 0, RowS.start, [], []⟩ := ⟨DoneM.nil, RowS.ok_start, RowS.fresh_start⟩
theorem flat_intC : ∀ l : List Int, l.flatMap (fun x => (intC x).toList) = l.map zv
  | [] => rfl
  | x :: r => by rw [List.flatMap_cons, flat_intC r]; rfl
attribute [local irreducible] Calls thenQ blockQ retQ jumpQ Spc Spl Spq Ex Ev Evs Gd Upd ESub HKeep Res Res1 wlk effQ Rem SrcAt Split SplI SpcM YieldAt JK.C mobj markQ rndQ asgQ PosR.C jL jOf maskN movesL validG acceptP passP lookG wT
set_option maxRecDepth 100000 in
set_option maxHeartbeats 16000000 in
theorem accept_c {w0 : World} {g : GaR} {ns : List Nat} {ds : List (Sl × List Nat)} {B n c : Nat} {A : Option Addr} {ps : List PosR} {bound : Int} (h : RdGa w0 w0.heap.size g) (hv : validG g = true) (hp : Plain g ns ds B) (hps : RdPlan w0 w0.heap.size A n ps) (hpw : ∀ p ∈ ps, PosW p) :
    Calls Try.prog 20 #[.agg g.C, .slice A n c, .int .i64 bound] w0 (RetH w0 (fun b : Bool => .bool b) (fun _ => []) (fun b => b = true ↔ acc ns ds B ps bound)) := by
  have hk := gaOk_of hv
  have hG := hp.ok hk h
  have hs0 := hp.start hk h
  have hdl : ds.length = g.dl.n := by
    have := h.rows.len
    rw [hp.ds, List.length_map] at this
    exact this
  have hval := fun (H : Heap) (w' : World) (hh : Hp w0.heap.size w0 H w') => (by have := jvalid_c (h.hp hh); rwa [hv] at this : Calls Try.prog 50 #[.agg g.C] w' (Ret w' (.bool true)))
  have hz3 : g.C.size = 3 := rfl
  refine sp_enterD (vs := [_, _, _]) Try.func20 rfl Try.ntmps20 rfl ?_
  by_cases hds : ds = []
  · have hn0 : (g.dl.n : Int) = 0 := by rw [← hdl, hds]; rfl
    repeat (first|apply spm_skip|apply spm_seq|apply spm_region rfl|apply spm_ret|((apply spm_cond_t);(·exact eT rfl);(·(rfl)))|(apply spm_cond_f;(·exact eT rfl);(·(rfl)))|(apply spl_callp rfl;(·(repeat (first|exact eN|(apply eS;(·exact eT rfl)))));(·exact fun w' hh => hval _ w' hh))|apply then_n|apply spl_nil|apply then_r|((apply spl_pure rfl);(·(first|(apply ex_eqlT hn0;(·exact eT rfl);(·exact eC))|((first|apply ex_move|apply ex_assign|apply ex_fieldAddr'|apply ex_not|apply ex_geq|apply ex_len)<;>(first|exact eT rfl|exact eC))|((apply ex_loadown)<;>(first|exact eT rfl|exact Bk.own InH.mem|rfl))|((apply ex_loadowns)<;>(first|exact eT rfl|exact Bk.own InH.mem|(rfl))))))|(apply spl_box;(·exact eT rfl);(·rfl);intro _ _))
    refine markH_none rfl (by ((apply Res.ofOne;((apply Res1.tmp;(·rfl)))))) ⟨decide (0 ≤ bound), rfl, ?_, by (repeat (first|exact HKeep.refl|apply HKeep.drop (by first|assumption|omega)))⟩
    unfold acc
    rw [if_pos hds, decide_eq_true_iff]
  · have hn0 : (g.dl.n : Int) ≠ 0 := fun q => hds (List.eq_nil_of_length_eq_zero (by omega))
    repeat (first|apply spm_skip|apply spm_seq|apply spm_region rfl|apply spm_block|(apply spm_cond_f;(·exact eT rfl);(·(rfl)))|(apply spl_callp rfl;(·(repeat (first|exact eN|(apply eS;(·exact eT rfl)))));(·exact fun w' hh => hval _ w' hh))|(apply spl_makeMap rfl;intro gp hgp)|(apply spl_callh rfl;(·(repeat (first|exact eN|(apply eS;(·exact eT rfl)))));(·exact fun w' hh => backward_c);(intro g1 htr hf1;have hg1 : w0.heap.size ≤ g1 := hf1 _ (.head _);simp only [List.cons_append, List.nil_append]))|apply then_n|apply spl_nil|((apply spl_pure rfl);(·(first|(apply ex_eqlF hn0;(·exact eT rfl);(·exact eC))|((first|apply ex_move|apply ex_assign|apply ex_fieldAddr'|apply ex_not|apply ex_len)<;>(first|exact eT rfl|exact eC))|((apply ex_loadown)<;>(first|exact eT rfl|exact Bk.own InH.mem|rfl))|((apply ex_loadowns)<;>(first|exact eT rfl|exact Bk.own InH.mem|(rfl))))))|(apply spl_box;(·exact eT rfl);(·rfl);intro _ _)|(apply spl_alloc rfl;intro _ _)|(apply spl_store1;(·exact eT rfl);(·exact eT rfl);(·rfl);(·(repeat (exact Upd.here)));(·rfl)))
    rename_i g3 hg3 g7 hg7
    have hml : ns.length = g.sl.n := by
      have := h.st.len
      rw [hp.ns, List.length_map] at this
      exact this
    have hm6 : g.sl.n ≤ 6 := hk.m
    have hpc : #[.int .i64 0, .int .i64 g.bd, .int .i64 (g.sl.n : Int), .int .i64 0, .int .i64 0, .int .i64 0, .int .i64 0, .int .i64 0, .int .i64 0, .int .i64 0] = (j0 0 (B : Int) ns.length [] 0).C := by rw [hp.bd, ← hml]; unfold JK.C; rfl
    have hz0 : (j0 0 (B : Int) ns.length [] 0).C.size = 10 := JK.size rfl
    have hvl : (g.starts.map zv).length = g.sl.n := by rw [List.length_map, hp.ns, List.length_map, hml]
    have hfit : 0 + 3 + (g.starts.map zv).length ≤ (j0 0 (B : Int) ns.length [] 0).C.size := by rw [hvl, hz0]; omega
    have hon : ∀ v ∈ g.starts.map zv, v.oneCell' = true := fun v hv => by obtain ⟨b, _, rfl⟩ := List.mem_map.1 hv; rfl
    have hcp : setL (j0 0 (B : Int) ns.length [] 0).C 3 (g.starts.map zv) = (jOf ns.length (gs0 ns B)).C := by rw [← j0_gs0, ← hp.ns]; exact copy_jk _ _ _ _ (by rw [List.length_map] at hvl; omega)
    have hfl2 : g.starts.flatMap (fun x => (intC x).toList) = g.starts.map zv := flat_intC _
    have hsrc := fun (H : Heap) (w' : World) (hh : Hp w0.heap.size w0 H w') => hfl2 ▸ CellsAt.rd (h.st.hp' hh)
    have hmk : mobj jkV [] 0 = Obj.map #[] 0 := by unfold mobj; rfl
    rw [← hmk]
    refine SpcM.sub (e := [(31, true, .func (.func 90) #[] #[.pointer (some ⟨g1, 0, none⟩)]), (2, true, .int .i64 bound), (3, true, .pointer (some ⟨g3, 0, none⟩)), (7, true, .pointer (some ⟨g7, 0, none⟩))])
      (H := (g7, .cells #[.map (some gp)] 95 (0, 0)) :: (gp, mobj jkV [] 0) :: (g3, .cells g.C 47 (0, 0)) :: [(g1, .cells #[.slice A n c] 48 (0, 0))]) ?_ (by (repeat (first|exact ESub.nil|apply ESub.cons rfl))) (by (repeat (first|exact HKeep.refl|(apply HKeep.pick;(·(repeat (first|exact Rem.here|apply Rem.there)))))))
    refine spm_rangeFunc (gf := 90) (caps := [.pointer (some ⟨g1, 0, none⟩)]) (X := List (JKs × Value × Nat) × Nat) (V := fun _ => .tuple #[]) (st := fun _ => .ready) (pend := fun _ => none)
      (HX := fun x => (g7, .cells #[.map (some gp)] 95 (0, 0)) :: (gp, mobj jkV x.1 x.2) :: (g3, .cells g.C 47 (0, 0)) :: [(g1, .cells #[.slice A n c] 48 (0, 0))]) (I := fun x => PMap ps x.1) (by (exact eT rfl)) ?_ ?_
    · intro fn tmps l d0 hfr2 hl hd0 w1 hw1
      have hfr' : Fr 139 [(7, true, .pointer (some ⟨g7, 0, none⟩))] { tmps := tmps, defers := [] } := hfr2.sub (by (repeat (first|exact ESub.nil|apply ESub.cons rfl)))
      obtain ⟨rec, hrec⟩ : ∃ rec : Loop, rec = { state := .ready, pending := none, fn, tmps, params := #[32, 33], assign := (rangeP Try.f20).1, body := (rangeP Try.f20).2, defers := d0 } := ⟨_, rfl⟩
      have hst : rec.state = .ready := by rw [hrec]
      have hpr : rec.params = #[32, 33] := by rw [hrec]
      have htm : rec.tmps = tmps := by rw [hrec]
      have has : rec.assign = (rangeP Try.f20).1 := by rw [hrec]
      obtain ⟨J, hJd⟩ : ∃ J : Nat → Heap → Prop, J = fun k y => ∃ pes pc, PMap (ps.drop (n - k)) pes ∧ y = (l, .loop rec) :: (d0, .deferred (some [])) :: (g7, .cells #[.map (some gp)] 95 (0, 0)) :: (gp, mobj jkV pes pc) :: [(g3, .cells g.C 47 (0, 0))] := ⟨_, rfl⟩
      have hY : ∀ k p H R', J k H → k < n → ps[n - 1 - k]? = some p → ∀ w', Hp w0.heap.size w0 (H ++ R') w' → YieldAt Fence.wide 0 Try.prog l #[.int .i64 ((n : Int) - 1 - (k : Int)), .agg p.C] w' (RetX w0.heap.size w0 (fun _ : Heap => .bool true) (fun y => y ++ R') (fun y => J (k + 1) y)) := by
        intro k p H R' hJ hk hx w' hw'
        rw [hJd] at hJ ⊢
        obtain ⟨es1, ck1, hM1, rfl⟩ := hJ
        have hpm := List.mem_of_getElem? hx
        have h1 := take_round (l := l) (g7 := g7) (gp := gp) (pc := ck1) (ix := .int .i64 ((n : Int) - 1 - (k : Int))) (R := [(g3, .cells g.C 47 (0, 0))]) (R' := R') (hps.pos p hpm) (hpw p hpm) hM1 hrec
        rw [← has, ← drop_step hps.rows.len hk hx] at h1
        exact yield_round2 hst hpr (by rw [htm]; exact hfr') rfl rfl h1 w' hw'
      have hc := iterB_c (c := c) (g1 := g1) hps hY (H := (l, .loop rec) :: (d0, .deferred (some [])) :: (g7, .cells #[.map (some gp)] 95 (0, 0)) :: (gp, mobj jkV [] 0) :: [(g3, .cells g.C 47 (0, 0))]) (by
        rw [hJd]
        refine ⟨[], 0, ?_, rfl⟩
        rw [Nat.sub_zero, List.drop_eq_nil_of_le (Nat.le_of_eq hps.rows.len)]
        exact PMap.nil) (w := w1) (by rw [hrec]; exact hw1)
      refine hc.mono ?_
      rintro en w2 ⟨H', rfl, hJ2, hq⟩
      rw [hJd] at hJ2
      obtain ⟨es2, ck2, hM2, hH'⟩ := hJ2
      subst hH'
      rw [Nat.sub_self, List.drop_zero] at hM2
      rw [hrec] at hq
      exact ⟨(es2, ck2), rfl, hM2, hq⟩
    · rintro d0 ⟨pes, pc⟩ hM hd0
      refine ⟨by simp, ?_⟩
      dsimp only at hM ⊢
      have hPM : PosM (gpOf ns ds).m hG.m pes (lookG ps ns.length) := lookG_posM hM
      repeat (first|apply spm_seq|apply spm_region rfl|(apply spl_makeMap rfl;intro gd hgd)|apply then_n|apply block_n|apply spl_nil|((apply spl_pure rfl);(·(first|(apply ex_buildE (r:=(j0 0 (B : Int) ns.length [] 0).C);(·(repeat (first|exact eN|(apply eS;(·exact eT rfl)))));(·rfl);(·exact hpc))|((first|apply ex_assign|apply ex_fieldAddr'|apply ex_len)<;>(exact eT rfl))|((apply ex_loadown)<;>(first|exact eT rfl|exact Bk.own InH.mem|rfl))|((apply ex_makeFunc)<;>(((repeat (first|exact eN|(apply eS;(·exact eT rfl))));done))))))|(apply spl_alloc rfl;intro _ _)|(apply spl_store1;(·exact eT rfl);(·exact eT rfl);(·rfl);(·(repeat (exact Upd.here)));(·rfl))|(apply spl_stores;(·exact eT rfl);(·exact eT rfl);(·(repeat (exact Upd.here)));(·(rfl));(·(assumption));(·exact Ones.one)))
      rename_i g12 hg12 g13 hg13 g15 hg15
      rw [← hmk]
      have hzg := jOf_size (m := ns.length) hs0.ok
      refine SpcM.sub (e := [(15, true, .pointer (some ⟨g15, 0, none⟩)), (14, true, .func (.func 53) #[] #[.pointer (some ⟨g7, 0, none⟩), .pointer (some ⟨g12, 0, none⟩), .pointer (some ⟨g13, 0, none⟩)]), (13, true, .pointer (some ⟨g13, 0, none⟩)), (2, true, .int .i64 bound), (3, true, .pointer (some ⟨g3, 0, none⟩)), (7, true, .pointer (some ⟨g7, 0, none⟩))])
        (H := (g7, .cells #[.map (some gp)] 95 (0, 0)) :: (gp, mobj jkV pes pc) :: (g12, .cells #[.map (some gd)] 105 (0, 0)) :: (gd, mobj jkV [] 0) :: (g13, .cells #[.slice none 0 0] 106 (0, 0)) :: (g15, .cells (j0 0 (B : Int) ns.length [] 0).C 102 (0, 0)) :: (d0, .deferred (some [])) :: [(g3, .cells g.C 47 (0, 0))]) ?_ (by (repeat (first|exact ESub.nil|apply ESub.cons rfl))) (by (repeat (first|exact HKeep.refl|apply HKeep.keep|(apply HKeep.pick;(·(repeat (first|exact Rem.here|apply Rem.there))))|apply HKeep.drop (by first|assumption|omega))))
      refine spm_drawn [(0, true), (1, true), (2, true), (3, true), (4, false)] 4 _ mixed (by kernel_rfl) rfl HKeep.refl ?_
      have hcall := fun (w2 : World) (R : Heap) (hh2 : Hp w0.heap.size w0 ((g7, .cells #[.map (some gp)] 95 (0, 0)) :: (gp, mobj jkV pes pc) :: (g12, .cells #[.map (some gd)] 105 (0, 0)) :: (gd, mobj jkV [] 0) :: (g13, .cells #[.slice none 0 0] 106 (0, 0)) :: R) w2) =>
        reach_c (J := ⟨g7, gp, g12, gd, g13⟩) (X := ⟨[], 0, RowS.start, [], []⟩) (bound := bound) hG hG.m hs0 hPM js0_ok (Nat.zero_le _) hh2
      repeat (first|apply spm_seq|apply spm_region rfl|(apply spl_copyA (cs' := (jOf ns.length (gs0 ns B)).C) (vs := g.starts.map zv) rfl;(·exact eT rfl);(·exact eT rfl);(·exact fun w' hh => hsrc _ w' hh);(·exact hvl);(·exact hm6);(·exact hon);(·exact hcp);(·(repeat (first|exact Upd.here|apply Upd.there)));(·exact hfit))|(apply spl_callMw (f:=53) (first:=[]) (cap:=[.pointer (some ⟨g7, 0, none⟩), .pointer (some ⟨g12, 0, none⟩), .pointer (some ⟨g13, 0, none⟩)]) (X:=Bool × JS) (V:=fun x => .bool x.1) (A:=[(g7, .cells #[.map (some gp)] 95 (0, 0)), (gp, mobj jkV pes pc), (g12, .cells #[.map (some gd)] 105 (0, 0)), (gd, mobj jkV [] 0), (g13, .cells #[.slice none 0 0] 106 (0, 0))]) (AA:=fun x => (g7, .cells #[.map (some gp)] 95 (0, 0)) :: (gp, mobj jkV pes pc) :: (g12, .cells #[.map (some gd)] 105 (0, 0)) :: (gd, mobj jkV x.2.des x.2.dc) :: (g13, .cells #[x.2.r.val x.2.T.length] 106 (0, 0)) :: x.2.r.hp (jL ns.length x.2.T) 102) (I:=fun x => x.2.Ok ns.length hG.m w0.heap.size ∧ (x.1 = true → (x.2.D, x.2.T) = stepsDT (movesL ns.length (gs0 ns B)) (movesL ns.length (gs0 ns B)).length ([], [])) ∧ (x.1 = true ↔ passP (gpOf ns ds) (lookG ps ns.length) bound (gs0 ns B))) rfl;(·exact eT rfl);(·(repeat (first|exact eN|(apply eS;(·exact eT rfl)))));(·exact Split.five);(·exact fun w2 hh2 => hcall w2 _ hh2);(rintro ⟨b, X⟩ hX;simp only [List.cons_append, List.nil_append]))|apply then_n|apply spl_nil|((first|apply spl_pure rfl|apply wlk_read rfl rfl);(·(first|(apply ex_sliceArr;(·exact eT rfl))|((first|apply ex_move|apply ex_fieldAddr'|apply ex_not)<;>(exact eT rfl))|((apply ex_loadown)<;>(first|exact eT rfl|exact Bk.own InH.mem|rfl))|((apply ex_loadowns)<;>(first|exact eT rfl|exact Bk.own InH.mem|(assumption))))))|(apply effq;(·(intro h_;((exact absurd h_ (by decide))))))|apply wlk_nil|apply wlk_eff rfl)
      obtain ⟨hX, hX1, hX2⟩ := hX
      dsimp only at hX hX1 hX2
      have hrow := RowS.drop (xs := jL ns.length X.T) (T := 102) hX.fr
      cases b with
      | false =>
        repeat (first|apply spm_seq|apply spm_region rfl|apply spm_ret|((apply spm_cond_t);(·exact eT rfl);(·(rfl)))|apply then_n|apply spl_nil|apply then_r|((apply spl_pure rfl);(·(((apply ex_assign)<;>(exact eC))))))
        refine markH_one rfl (by (repeat (first|exact Upd.here|apply Upd.there|apply Upd.app))) (by ((apply Res.ofOne;((apply Res1.tmp;(·rfl)))))) ⟨false, rfl, ?_, by (repeat (first|exact HKeep.refl|apply HKeep.drop (by first|assumption|omega)|apply HKeep.dropA (by assumption)))⟩
        have hnp : ¬ passP (gpOf ns ds) (lookG ps ns.length) bound (gs0 ns B) := fun q => by cases hX2.2 q
        unfold acc
        rw [if_neg hds]
        exact ⟨fun q => (by cases q), fun q => absurd (acceptP_pass q) hnp⟩
      | true =>
        have hN : (gpOf ns ds).deps.length = g.dl.n := by show (ds.map Prod.snd).length = _; rw [List.length_map, hdl]
        have hA0 := AInv.init hG hs0 rfl (by omega) (hX2.1 rfl) (hX1 rfl)
        repeat (first|apply spm_skip|apply spm_seq|apply spm_block|(apply spm_cond_f;(·exact eT rfl);(·(rfl)))|apply then_n)
        refine spm_loop (X := JS) (fun _ => [(14, true, .func (.func 53) #[] #[.pointer (some ⟨g7, 0, none⟩), .pointer (some ⟨g12, 0, none⟩), .pointer (some ⟨g13, 0, none⟩)]), (13, true, .pointer (some ⟨g13, 0, none⟩)), (7, true, .pointer (some ⟨g7, 0, none⟩)), (3, true, .pointer (some ⟨g3, 0, none⟩))]) (fun _ => w0) (fun y => (g7, .cells #[.map (some gp)] 95 (0, 0)) :: (gp, mobj jkV pes pc) :: (g12, .cells #[.map (some gd)] 105 (0, 0)) :: (gd, mobj jkV y.des y.dc) :: (g13, .cells #[y.r.val y.T.length] 106 (0, 0)) :: (y.r.hp (jL ns.length y.T) 102 ++ [(d0, .deferred (some [])), (g3, .cells g.C 47 (0, 0))])) (fun y => y.Ok ns.length hG.m w0.heap.size ∧ AInv (gpOf ns ds) (lookG ps ns.length) bound (gs0 ns B) y.D y.T) (fun y => wT (gpOf ns ds).deps.length y.T) X ⟨hX, hA0⟩ (by (repeat (first|exact ESub.nil|apply ESub.cons rfl))) rfl (by (repeat (first|exact HKeep.refl|apply HKeep.keep|(apply HKeep.app;(·(repeat (exact Split.here))))|(apply HKeep.pick;(·(repeat (first|exact Rem.here|apply Rem.there))))|apply HKeep.drop (by first|assumption|omega)))) ?_
        clear hX hX1 hX2 hA0 hrow
        rintro ⟨des, dc, r, D, T⟩ ⟨hY, hA⟩
        dsimp only at hA ⊢
        have hrow := RowS.drop (xs := jL ns.length T) (T := 102) hY.fr
        rcases nil_or_snoc T with rfl | ⟨T', x, rfl⟩
        · have h0 : ¬ (((([] : List GS).length : Nat) : Int) > 0) := by simp
          repeat (first|apply spm_seq|apply spm_region rfl|apply spm_ret|apply spm_exit|(apply spm_cond_f;(·exact eT rfl);(·(exact decide_eq_false (by omega))))|apply then_n|apply spl_nil|apply then_e|apply block_here|((apply spl_pure rfl);(·(first|(apply ex_gtrF h0;(·exact eT rfl);(·exact eC))|((first|apply ex_assign|apply ex_len)<;>(first|exact eT rfl|exact eC))|((apply ex_loadown)<;>(first|exact eT rfl|exact Bk.own InH.mem|rfl))))))
          refine markH_one rfl (by (repeat (first|exact Upd.here|apply Upd.there|apply Upd.app))) (by ((apply Res.ofOne;((apply Res1.tmp;(·rfl)))))) ⟨true, rfl, ⟨fun _ => (acc_P hds).2 hA.all, fun _ => rfl⟩, by (repeat (first|exact HKeep.refl|apply HKeep.drop (by first|assumption|omega)|apply HKeep.dropA (by assumption)))⟩
        · have hlen : (T' ++ [x]).length = T'.length + 1 := by rw [List.length_append]; rfl
          obtain ⟨gr, cap, tl, rfl⟩ := RowS.some_of hY.row (by show 0 < (T' ++ [x]).length; omega)
          obtain ⟨hxr, hxi, hxt, p, hlk, hpb0⟩ := hA.reach x (hA.sub x (by simp))
          have hxo := hxi.ok
          have hTok : ∀ y ∈ T' ++ [x], y.Ok := fun y hy => (hA.reach y (hA.sub y hy)).2.1.ok
          have hzx := jOf_size (m := ns.length) hxo
          obtain ⟨hr1, hr2, hr3⟩ := (show (T' ++ [x]).length ≤ cap ∧ (jL ns.length (T' ++ [x]) ++ tl).length = cap * 10 ∧ (jL ns.length (T' ++ [x])).length = (T' ++ [x]).length * 10 from hY.row)
          obtain ⟨tl2, htl2⟩ : ∃ tl2, tl2 = (jOf ns.length x).C.toList ++ tl := ⟨_, rfl⟩
          have hrw : jL ns.length (T' ++ [x]) ++ tl = jL ns.length T' ++ tl2 := by rw [jL_snoc, htl2, List.append_assoc]
          have hY2 : JS.Ok ns.length hG.m w0.heap.size ⟨des, dc, ⟨some gr, cap, tl2⟩, D, T'⟩ := by
            refine ⟨hY.dn, ?_, hY.fr⟩
            show T'.length ≤ cap ∧ (jL ns.length T' ++ tl2).length = cap * 10 ∧ (jL ns.length T').length = T'.length * 10
            have hx10 : (jOf ns.length x).C.toList.length = 10 := by rw [Array.length_toList, hzx]
            rw [jL_snoc, List.length_append, hx10] at hr3
            exact ⟨by omega, by rw [← hrw]; exact hr2, by omega⟩
          have hTl : T'.length ≤ 1000000000000 := by
            have h1 := hA.size
            have h2 := len_wT (n := (gpOf ns ds).deps.length) (T' ++ [x])
            have h3 : 8 ^ (gpOf ns ds).deps.length ≤ 8 ^ 12 := Nat.pow_le_pow_right (by decide) hG.n
            omega
          have hcap : T'.length ≤ cap := by omega
          have hgr : w0.heap.size ≤ gr := hY.fr gr rfl
          have hxl : (T' ++ [x])[T'.length]? = some x := by simp
          have hpm := hpw p (lookP_mem (lookG_eq hlk))
          have hpbd := hpm.bd.bd
          have hpx := hPM x hxo
          rw [hlk] at hpx
          have hv3 : ∀ z, (getL (jkOf hG.m hxo) pes).getD z = .agg p.C := fun z => by rw [hpx]; rfl
          have hc4 : p.C[4]? = some (.int .i64 p.choice) := by unfold PosR.C; rfl
          have hc5 : p.C[5]? = some (.int .i64 p.bound) := by unfold PosR.C; rfl
          have hz6 : p.C.size = 6 := by unfold PosR.C; rfl
          have hx0 : (jOf ns.length x).C[0]? = some (.int .i64 (x.turn : Int)) := jOf_c0
          have hst0 : (jOf ns.length x).C.setIfInBounds 0 (.int .i64 ((x.turn + 1 : Nat) : Int)) = (jOf ns.length (waitS x)).C := jOf_s0
          have hl0 : 0 < (jOf ns.length x).C.size := by omega
          have hadd : (x.turn : Int) + 1 = ((x.turn + 1 : Nat) : Int) := by omega
          have hw0c : (jOf ns.length (waitS x)).C[0]? = some (.int .i64 ((x.turn + 1 : Nat) : Int)) := jOf_c0
          have hwi := waitS_in hG hxi hxt
          have hzw := jOf_size (m := ns.length) hwi.ok
          have hxo0 := hxo.t
          rw [hN] at hxt
          have hgt : ((T'.length + 1 : Nat) : Int) > 0 := by omega
          have hsub : ((T'.length + 1 : Nat) : Int) - 1 = ((T'.length : Nat) : Int) := by omega
          show SpcM none _ _ 139 w0.heap.size _ _ _ w0 ((g7, .cells #[.map (some gp)] 95 (0, 0)) :: (gp, mobj jkV pes pc) :: (g12, .cells #[.map (some gd)] 105 (0, 0)) :: (gd, mobj jkV des dc) :: (g13, .cells #[.slice (some ⟨gr, 0, none⟩) (T' ++ [x]).length cap] 106 (0, 0)) :: (gr, .cells (jL ns.length (T' ++ [x]) ++ tl).toArray 102 (0, 0)) :: [(d0, .deferred (some [])), (g3, .cells g.C 47 (0, 0))])
          rw [hrw, hlen]
          clear hrow
          by_cases hc : p.choice = -1
          · obtain ⟨nx, hnxd⟩ : ∃ nx, nx = waitS x := ⟨_, rfl⟩
            obtain ⟨bb, hbb⟩ : ∃ bb, bb = p.bound - 1 := ⟨_, rfl⟩
            obtain ⟨L, hL⟩ : ∃ L : Int, L = 1 := ⟨_, rfl⟩
            have hnx : nextS x p = nx := by rw [hnxd]; unfold nextS; rw [if_pos hc]
            have hlost : lostN p = L := by rw [hL]; unfold lostN; rw [if_pos hc]
            have hcho : okCh (gpOf ns ds) x p := .inl hc
            have hnxi : nx.In (gpOf ns ds) := by rw [hnxd]; exact hwi
            have hcall := fun (w2 : World) (R : Heap) (hh2 : Hp w0.heap.size w0 ((g7, .cells #[.map (some gp)] 95 (0, 0)) :: (gp, mobj jkV pes pc) :: (g12, .cells #[.map (some gd)] 105 (0, 0)) :: (gd, mobj jkV des dc) :: (g13, .cells #[.slice (some ⟨gr, 0, none⟩) T'.length cap] 106 (0, 0)) :: (gr, .cells (jL ns.length T' ++ tl2).toArray 102 (0, 0)) :: R) w2) => reach_c (J := ⟨g7, gp, g12, gd, g13⟩) (X := ⟨des, dc, ⟨some gr, cap, tl2⟩, D, T'⟩) (bound := bb) hG hG.m hnxi hPM hY2 hTl hh2
            rw [← hnxd] at hst0 hw0c hzw
            subst hL
            by_cases hlast : x.turn + 1 = g.dl.n
            · have hli : ((x.turn + 1 : Nat) : Int) = (g.dl.n : Int) := by omega
              have hnt : (nextS x p).turn = (gpOf ns ds).deps.length := by rw [nextS_turn, hN]; exact hlast
              by_cases hbl : p.bound < 1
              · skip
                repeat (first|apply spm_skip|apply spm_seq|apply spm_region rfl|apply spm_block|apply spm_ret|((apply spm_cond_t);(·exact eT rfl);(·(rfl)))|(apply spm_cond_f;(·exact eT rfl);(·(rfl)))|(apply spl_store1E hst0;(·exact eT rfl);(·exact eT rfl);(·rfl);(·(repeat (exact Upd.here)));(·exact hl0))|apply then_n|apply spl_nil|apply then_r|apply block_r|((apply spl_pure rfl);(·(first|(apply ex_gtrT hgt;(·exact eT rfl);(·exact eC))|(apply ex_subE hsub;(·exact eT rfl);(·exact eC);(·(constructor<;>omega)))|(apply ex_loadJ (i:=T'.length) (y:=x) (xs:=T' ++ [x]) (tail:=tl);(·exact eT rfl);(·rfl);(·(rw [hrw];first|exact Bk.own InH.mem|exact Bk.old (by assumption) (Nat.le_refl _)));(·exact hTok);(·exact hxl))|(apply ex_slice_hN (h:=T'.length);(·exact eT rfl);(·exact eT rfl);(·exact hcap))|(refine ex_lookup (k:=jkOf hG.m hxo) (kv:=jkV) (g:=gp) (c:=pc) (hv3 _) ?_ ?_ ?_;(·exact eT rfl);(·exact eT rfl);(·exact Bk.own InH.mem))|(apply ex_addK hadd;(·exact eT rfl);(·exact eC);(·(constructor<;>omega)))|(apply ex_eqlT hli;(·exact eT rfl);(·exact eT rfl))|(apply ex_lssT hbl;(·exact eT rfl);(·exact eT rfl))|(apply ex_neqF hc;(·exact eT rfl);(·exact eC))|((first|apply ex_move|apply ex_assign|apply ex_fieldAddr'|apply ex_len)<;>(first|exact eT rfl|exact eC))|((first|apply ex_loadown|apply ex_indexAddr)<;>(first|exact eT rfl|exact Bk.own InH.mem|rfl|assumption|omega))|((apply ex_loadowns)<;>(first|exact eT rfl|exact Bk.own InH.mem|(assumption))))))|(apply spl_alloc rfl;intro _ _)|(apply spl_store1;(·exact eT rfl);(·exact eT rfl);(·rfl);(·(repeat (first|exact Upd.here|apply Upd.there)));(·rfl))|(apply spl_stores;(·exact eT rfl);(·exact eT rfl);(·(repeat (exact Upd.here)));(·(rfl));(·(assumption));(·exact Ones.one)))
                refine markH_one rfl (by (repeat (first|exact Upd.here|apply Upd.there))) (by ((apply Res.ofOne;((apply Res1.tmp;(·rfl)))))) ⟨false, rfl, ?_, by (repeat (first|exact HKeep.refl|apply HKeep.drop (by first|assumption|omega)))⟩
                refine ⟨fun q => (by cases q), fun q => absurd ((acc_P hds).1 q) (hA.not hlk ?_)⟩
                rintro ⟨_, q⟩
                rw [if_pos hnt, hlost] at q
                omega
              · obtain ⟨hA2, hw2⟩ := hA.last hlk hcho hnt (by rw [hlost]; omega)
                repeat (first|apply spm_skip|apply spm_seq|apply spm_region rfl|apply spm_block|apply spm_exit|((apply spm_cond_t);(·exact eT rfl);(·(rfl)))|(apply spm_cond_f;(·exact eT rfl);(·(rfl)))|(apply spl_store1E hst0;(·exact eT rfl);(·exact eT rfl);(·rfl);(·(repeat (exact Upd.here)));(·exact hl0))|apply then_n|apply spl_nil|apply then_e|apply block_here|((apply spl_pure rfl);(·(first|(apply ex_gtrT hgt;(·exact eT rfl);(·exact eC))|(apply ex_subE hsub;(·exact eT rfl);(·exact eC);(·(constructor<;>omega)))|(apply ex_loadJ (i:=T'.length) (y:=x) (xs:=T' ++ [x]) (tail:=tl);(·exact eT rfl);(·rfl);(·(rw [hrw];first|exact Bk.own InH.mem|exact Bk.old (by assumption) (Nat.le_refl _)));(·exact hTok);(·exact hxl))|(apply ex_slice_hN (h:=T'.length);(·exact eT rfl);(·exact eT rfl);(·exact hcap))|(refine ex_lookup (k:=jkOf hG.m hxo) (kv:=jkV) (g:=gp) (c:=pc) (hv3 _) ?_ ?_ ?_;(·exact eT rfl);(·exact eT rfl);(·exact Bk.own InH.mem))|(apply ex_addK hadd;(·exact eT rfl);(·exact eC);(·(constructor<;>omega)))|(apply ex_eqlT hli;(·exact eT rfl);(·exact eT rfl))|(apply ex_lssF hbl;(·exact eT rfl);(·exact eT rfl))|(apply ex_neqF hc;(·exact eT rfl);(·exact eC))|((first|apply ex_move|apply ex_assign|apply ex_fieldAddr'|apply ex_len)<;>(first|exact eT rfl|exact eC))|((first|apply ex_loadown|apply ex_indexAddr)<;>(first|exact eT rfl|exact Bk.own InH.mem|rfl|assumption|omega))|((apply ex_loadowns)<;>(first|exact eT rfl|exact Bk.own InH.mem|(assumption))))))|(apply spl_alloc rfl;intro _ _)|(apply spl_store1;(·exact eT rfl);(·exact eT rfl);(·rfl);(·(repeat (first|exact Upd.here|apply Upd.there)));(·rfl))|(apply spl_stores;(·exact eT rfl);(·exact eT rfl);(·(repeat (exact Upd.here)));(·(rfl));(·(assumption));(·exact Ones.one)))
                exact ⟨rfl, ⟨des, dc, ⟨some gr, cap, tl2⟩, D, T'⟩, ⟨hY2, hA2⟩, hw2, (by (repeat (first|exact ESub.nil|apply ESub.cons rfl))), rfl, (by (repeat (first|exact HKeep.refl|(apply HKeep.app;(·(repeat (first|exact Split.one|apply Split.cons))))|(apply HKeep.pick;(·(repeat (first|exact Rem.here|apply Rem.there))))|apply HKeep.drop (by first|assumption|omega))))⟩
            · have hli : ((x.turn + 1 : Nat) : Int) ≠ (g.dl.n : Int) := by omega
              have hnt : (nextS x p).turn < (gpOf ns ds).deps.length := by rw [nextS_turn, hN]; omega
              have hnn : ¬ (nextS x p).turn = (gpOf ns ds).deps.length := by omega
              have hsb : p.bound - 1 = bb := hbb.symm
              repeat (first|apply spm_skip|apply spm_seq|apply spm_region rfl|apply spm_block|(apply spl_callMw (f:=53) (first:=[]) (cap:=[.pointer (some ⟨g7, 0, none⟩), .pointer (some ⟨g12, 0, none⟩), .pointer (some ⟨g13, 0, none⟩)]) (X:=Bool × JS) (V:=fun x => .bool x.1) (A:=(g7, .cells #[.map (some gp)] 95 (0, 0)) :: (gp, mobj jkV pes pc) :: (g12, .cells #[.map (some gd)] 105 (0, 0)) :: (gd, mobj jkV des dc) :: (g13, .cells #[.slice (some ⟨gr, 0, none⟩) T'.length cap] 106 (0, 0)) :: [(gr, .cells (jL ns.length T' ++ tl2).toArray 102 (0, 0))]) (AA:=fun x => (g7, .cells #[.map (some gp)] 95 (0, 0)) :: (gp, mobj jkV pes pc) :: (g12, .cells #[.map (some gd)] 105 (0, 0)) :: (gd, mobj jkV x.2.des x.2.dc) :: (g13, .cells #[x.2.r.val x.2.T.length] 106 (0, 0)) :: x.2.r.hp (jL ns.length x.2.T) 102) (I:=fun y => y.2.Ok ns.length hG.m w0.heap.size ∧ (y.1 = true → (y.2.D, y.2.T) = stepsDT (movesL ns.length nx) (movesL ns.length nx).length (D, T')) ∧ (y.1 = true ↔ passP (gpOf ns ds) (lookG ps ns.length) bb nx)) rfl;(·exact eT rfl);(·(repeat (first|exact eN|(apply eS;(·exact eT rfl)))));(·(apply Split.cons;apply Split.cons;apply Split.cons;exact Split.six1));(·exact fun w2 hh2 => hcall w2 _ hh2);(rintro ⟨b, Z⟩ hZ;simp only [List.cons_append, List.nil_append]))|((apply spm_cond_t);(·exact eT rfl);(·(rfl)))|(apply spm_cond_f;(·exact eT rfl);(·(rfl)))|(apply spl_store1E hst0;(·exact eT rfl);(·exact eT rfl);(·rfl);(·(repeat (exact Upd.here)));(·exact hl0))|apply then_n|apply spl_nil|((apply spl_pure rfl);(·(first|(apply ex_gtrT hgt;(·exact eT rfl);(·exact eC))|(apply ex_subE hsub;(·exact eT rfl);(·exact eC);(·(constructor<;>omega)))|(apply ex_loadJ (i:=T'.length) (y:=x) (xs:=T' ++ [x]) (tail:=tl);(·exact eT rfl);(·rfl);(·(rw [hrw];first|exact Bk.own InH.mem|exact Bk.old (by assumption) (Nat.le_refl _)));(·exact hTok);(·exact hxl))|(apply ex_slice_hN (h:=T'.length);(·exact eT rfl);(·exact eT rfl);(·exact hcap))|(refine ex_lookup (k:=jkOf hG.m hxo) (kv:=jkV) (g:=gp) (c:=pc) (hv3 _) ?_ ?_ ?_;(·exact eT rfl);(·exact eT rfl);(·exact Bk.own InH.mem))|(apply ex_addK hadd;(·exact eT rfl);(·exact eC);(·(constructor<;>omega)))|(apply ex_eqlF hli;(·exact eT rfl);(·exact eT rfl))|(apply ex_subE hsb;(·exact eT rfl);(·exact eT rfl);(·(constructor<;>omega)))|(apply ex_neqF hc;(·exact eT rfl);(·exact eC))|((first|apply ex_move|apply ex_assign|apply ex_fieldAddr'|apply ex_not|apply ex_len)<;>(first|exact eT rfl|exact eC))|((first|apply ex_loadown|apply ex_indexAddr)<;>(first|exact eT rfl|exact Bk.own InH.mem|rfl|assumption|omega))|((apply ex_loadowns)<;>(first|exact eT rfl|exact Bk.own InH.mem|(assumption))))))|(apply spl_alloc rfl;intro _ _)|(apply spl_store1;(·exact eT rfl);(·exact eT rfl);(·rfl);(·(repeat (first|exact Upd.here|apply Upd.there)));(·rfl))|(apply spl_stores;(·exact eT rfl);(·exact eT rfl);(·(repeat (exact Upd.here)));(·(rfl));(·(assumption));(·exact Ones.one)))
              obtain ⟨hZ0, hZ1, hZ2⟩ := hZ
              dsimp only at hZ0 hZ1 hZ2
              have hrow3 := RowS.drop (xs := jL ns.length Z.T) (T := 102) hZ0.fr
              cases b with
              | false =>
                repeat (first|apply spm_seq|apply spm_region rfl|apply spm_ret|((apply spm_cond_t);(·exact eT rfl);(·(rfl)))|apply then_n|apply spl_nil|apply then_r|apply block_r|((apply spl_pure rfl);(·(((apply ex_assign)<;>(exact eC))))))
                refine markH_one rfl (by (repeat (first|exact Upd.here|apply Upd.there|apply Upd.app))) (by ((apply Res.ofOne;((apply Res1.tmp;(·rfl)))))) ⟨false, rfl, ?_, by (repeat (first|exact HKeep.refl|apply HKeep.drop (by first|assumption|omega)|apply HKeep.dropA (by assumption)))⟩
                refine ⟨fun q => (by cases q), fun q => absurd ((acc_P hds).1 q) (hA.not hlk ?_)⟩
                rintro ⟨_, q⟩
                rw [if_neg hnn, hlost, hnx, hsb] at q
                cases hZ2.2 q
              | true =>
                obtain ⟨hA2, hw2⟩ := hA.more (D' := Z.D) (T' := Z.T) hG hlk hcho hnt (by rw [hlost, hnx, hsb]; exact hZ2.1 rfl) (by rw [hnx]; exact hZ1 rfl)
                repeat (first|apply spm_skip|(apply spm_cond_f;(·exact eT rfl);(·(rfl)))|apply then_n|apply block_n)
                exact ⟨rfl, Z, ⟨hZ0, hA2⟩, hw2, (by (repeat (first|exact ESub.nil|apply ESub.cons rfl))), rfl, (by (repeat (first|exact HKeep.refl|apply HKeep.keep|(apply HKeep.app;(·(repeat (exact Split.here))))|(apply HKeep.pick;(·(repeat (first|exact Rem.here|apply Rem.there))))|apply HKeep.drop (by first|assumption|omega))))⟩
          · obtain ⟨add, y, hAd, hbd, hy, hszd, hcd⟩ := h.rows.at_ hxt
            have hym := List.mem_of_getElem? hy
            have hyr := hp.row_at hy
            have hcon := fun (c0 : Int) (q : Bool) (hq : (y.2.any fun k => decide (c0 = k)) = q) (H : Heap) (w' : World) (hh : Hp w0.heap.size w0 H w') => (hq ▸ containsI_c (c := y.1.c) (v := c0) ((h.row y hym).hp' hh) : Calls Try.prog 55 #[.slice y.1.a y.1.n y.1.c, .int .i64 c0] w' (Ret w' (.bool q)))
            cases hany : (y.2.any fun k => decide (p.choice = k)) with
            | false =>
              repeat (first|apply spm_skip|apply spm_seq|apply spm_region rfl|apply spm_block|apply spm_ret|(refine spm_drawn [(0, true), (1, true), (2, true), (3, true), (4, true), (5, true), (6, true), (7, true), (8, false), (9, true), (10, true), (11, true), (12, true), (13, true), (14, true), (15, true), (16, true), (17, true), (18, true), (19, true), (20, true), (21, true), (22, true), (23, true), (24, true), (25, true), (26, true)] 27 _ mixed ?_ rfl HKeep.refl ?_;(·kernel_rfl))|(apply spl_callp rfl;(·(repeat (first|exact eN|(apply eS;(·exact eT rfl)))));(·exact fun w' hh => hcon _ _ hany _ w' hh))|((apply spm_cond_t);(·exact eT rfl);(·(rfl)))|(apply spl_store1E hst0;(·exact eT rfl);(·exact eT rfl);(·rfl);(·(repeat (exact Upd.here)));(·exact hl0))|apply then_n|apply spl_nil|apply then_r|apply block_r|((first|apply spl_pure rfl|apply wlk_read rfl rfl|(apply wlk_read_g rfl rfl;(·exact Gd.tf rfl rfl)));(·(first|(apply ex_gtrT hgt;(·exact eT rfl);(·exact eC))|(apply ex_subE hsub;(·exact eT rfl);(·exact eC);(·(constructor<;>omega)))|(apply ex_loadJ (i:=T'.length) (y:=x) (xs:=T' ++ [x]) (tail:=tl);(·exact eT rfl);(·rfl);(·(rw [hrw];first|exact Bk.own InH.mem|exact Bk.old (by assumption) (Nat.le_refl _)));(·exact hTok);(·exact hxl))|(apply ex_slice_hN (h:=T'.length);(·exact eT rfl);(·exact eT rfl);(·exact hcap))|(refine ex_lookup (k:=jkOf hG.m hxo) (kv:=jkV) (g:=gp) (c:=pc) (hv3 _) ?_ ?_ ?_;(·exact eT rfl);(·exact eT rfl);(·exact Bk.own InH.mem))|(apply ex_addK hadd;(·exact eT rfl);(·exact eC);(·(constructor<;>omega)))|(exact ex_off rfl)|(apply ex_neqT hc;(·exact eT rfl);(·exact eC))|(apply ex_indexAddr;(·exact eT rfl);(·exact eT rfl);(·exact hAd);(·exact hxt))|(apply ex_loadfield (ad:=add) (i:=x.turn) (k:=0);(·exact eT rfl);(·exact h.rows);(·exact hAd);(·exact hy);(·rfl))|((first|apply ex_move|apply ex_assign|apply ex_fieldAddr'|apply ex_not|apply ex_len)<;>(first|exact eT rfl|exact eC))|((apply ex_orT)<;>(first|exact eT rfl|exact eG rfl))|((first|apply ex_loadown|apply ex_indexAddr)<;>(first|exact eT rfl|exact Bk.own InH.mem|rfl|assumption|omega))|((apply ex_loadowns)<;>(first|exact eT rfl|exact Bk.own InH.mem|(assumption))))))|(apply spl_alloc rfl;intro _ _)|(apply spl_store1;(·exact eT rfl);(·exact eT rfl);(·rfl);(·(repeat (first|exact Upd.here|apply Upd.there)));(·rfl))|(apply spl_stores;(·exact eT rfl);(·exact eT rfl);(·(repeat (exact Upd.here)));(·(rfl));(·(assumption));(·exact Ones.one))|(apply effq;(·(intro h_;((repeat (exact HKeep.refl))))))|apply wlk_nil|apply wlk_eff rfl)
              refine markH_one rfl (by (repeat (first|exact Upd.here|apply Upd.there))) (by ((apply Res.ofOne;((apply Res1.tmp;(·rfl)))))) ⟨false, rfl, ?_, by (repeat (first|exact HKeep.refl|apply HKeep.drop (by first|assumption|omega)))⟩
              refine ⟨fun q => (by cases q), fun q => absurd ((acc_P hds).1 q) (hA.not hlk ?_)⟩
              rintro ⟨q | ⟨v, q1, q2, q3⟩, _⟩
              · exact hc q
              · rw [hyr] at hany
                rw [any_cho.2 ⟨v, q1, q2⟩] at hany
                cases hany
            | true =>
              obtain ⟨v, hpv, hvm⟩ := any_cho.1 (by rw [← hyr]; exact hany)
              have hv6 : v < 6 := by
                have h1 := hG.v _ _ hvm
                have h2 := hG.m
                omega
              have hcv : (v : Int) ≠ -1 := by omega
              rw [hpv] at hc4 hany
              have hx9 := jOf_c9 (m := ns.length) hxo
              have hx3 := jOf_c3 (m := ns.length) hxo hv6
              have hmk := mask_64 x.failed (k := 6) (Nat.le_refl _)
              have hmd : maskN x.failed 6 / 2 ^ v < 64 := Nat.lt_of_le_of_lt (Nat.div_le_self _ _) hmk
              have hbit := (mask6 hxo.l2 hv6).1
              have hsx := hxi.st v
              cases hf : gt x.failed v with
              | true =>
                have h1 : ((maskN x.failed 6 / 2 ^ v % 2 : Nat) : Int) = 1 := by have := hbit.2 hf; omega
                repeat (first|apply spm_skip|apply spm_seq|apply spm_region rfl|apply spm_block|apply spm_ret|(refine spm_drawn [(0, true), (1, true), (2, true), (3, true), (4, true), (5, true), (6, true), (7, true), (8, false), (9, true), (10, true), (11, true), (12, true), (13, true), (14, true), (15, true), (16, true), (17, true), (18, true), (19, true), (20, true), (21, true), (22, true), (23, true), (24, true), (25, true), (26, true)] 27 _ mixed ?_ rfl HKeep.refl ?_;(·kernel_rfl))|(apply spl_callp rfl;(·(repeat (first|exact eN|(apply eS;(·exact eT rfl)))));(·exact fun w' hh => hcon _ _ hany _ w' hh))|((apply spm_cond_t);(·exact eT rfl);(·(rfl)))|(apply spl_store1E hst0;(·exact eT rfl);(·exact eT rfl);(·rfl);(·(repeat (exact Upd.here)));(·exact hl0))|apply then_n|apply spl_nil|apply then_r|apply block_r|((first|apply spl_pure rfl|apply wlk_read rfl rfl|(apply wlk_read_g rfl rfl;(·exact Gd.tf rfl rfl)));(·(first|(apply ex_gtrT hgt;(·exact eT rfl);(·exact eC))|(apply ex_subE hsub;(·exact eT rfl);(·exact eC);(·(constructor<;>omega)))|(apply ex_loadJ (i:=T'.length) (y:=x) (xs:=T' ++ [x]) (tail:=tl);(·exact eT rfl);(·rfl);(·(rw [hrw];first|exact Bk.own InH.mem|exact Bk.old (by assumption) (Nat.le_refl _)));(·exact hTok);(·exact hxl))|(apply ex_slice_hN (h:=T'.length);(·exact eT rfl);(·exact eT rfl);(·exact hcap))|(refine ex_lookup (k:=jkOf hG.m hxo) (kv:=jkV) (g:=gp) (c:=pc) (hv3 _) ?_ ?_ ?_;(·exact eT rfl);(·exact eT rfl);(·exact Bk.own InH.mem))|(apply ex_addK hadd;(·exact eT rfl);(·exact eC);(·(constructor<;>omega)))|(exact ex_off rfl)|(apply ex_neqT hcv;(·exact eT rfl);(·exact eC))|(apply ex_indexAddr;(·exact eT rfl);(·exact eT rfl);(·exact hAd);(·exact hxt))|(apply ex_loadfield (ad:=add) (i:=x.turn) (k:=0);(·exact eT rfl);(·exact h.rows);(·exact hAd);(·exact hy);(·rfl))|(apply ex_shrM hv6;(·exact eT rfl);(·exact eT rfl))|(apply ex_and1 hmd;(·exact eT rfl);(·exact eC))|(apply ex_eqlT h1;(·exact eT rfl);(·exact eC))|((first|apply ex_move|apply ex_assign|apply ex_fieldAddr'|apply ex_not|apply ex_len)<;>(first|exact eT rfl|exact eC))|((apply ex_orT)<;>(first|exact eT rfl|exact eG rfl))|((first|apply ex_loadown|apply ex_indexAddr)<;>(first|exact eT rfl|exact Bk.own InH.mem|rfl|assumption|omega))|((apply ex_loadowns)<;>(first|exact eT rfl|exact Bk.own InH.mem|(assumption))))))|(apply spl_alloc rfl;intro _ _)|(apply spl_store1;(·exact eT rfl);(·exact eT rfl);(·rfl);(·(repeat (first|exact Upd.here|apply Upd.there)));(·rfl))|(apply spl_stores;(·exact eT rfl);(·exact eT rfl);(·(repeat (exact Upd.here)));(·(rfl));(·(assumption));(·exact Ones.one))|(apply effq;(·(intro h_;((repeat (exact HKeep.refl))))))|apply wlk_nil|apply wlk_eff rfl)
                refine markH_one rfl (by (repeat (first|exact Upd.here|apply Upd.there))) (by ((apply Res.ofOne;((apply Res1.tmp;(·rfl)))))) ⟨false, rfl, ?_, by (repeat (first|exact HKeep.refl|apply HKeep.drop (by first|assumption|omega)))⟩
                refine ⟨fun q => (by cases q), fun q => absurd ((acc_P hds).1 q) (hA.not hlk ?_)⟩
                rintro ⟨q | ⟨v', q1, q2, q3⟩, _⟩
                · exact hc q
                · have hvv : v' = v := by omega
                  subst hvv
                  unfold canS at q3
                  rw [hf] at q3
                  cases q3
              | false =>
                have h1 : ((maskN x.failed 6 / 2 ^ v % 2 : Nat) : Int) ≠ 1 := fun q => by
                  have := hbit.1 (by omega)
                  rw [hf] at this
                  cases this
                by_cases hps : 0 < sAt x v
                · have hle : ¬ ((sAt x v : Nat) : Int) ≤ 0 := by omega
                  obtain ⟨nx, hnxd⟩ : ∃ nx, nx = stepS x v := ⟨_, rfl⟩
                  obtain ⟨bb, hbb⟩ : ∃ bb, bb = p.bound - 0 := ⟨_, rfl⟩
                  have hnx : nextS x p = nx := by rw [hnxd]; unfold nextS; rw [if_neg hc, hpv, Int.toNat_natCast]
                  have hlost : lostN p = 0 := by unfold lostN; rw [if_neg hc]
                  have hcan : canS x v = true := by unfold canS; rw [hf, decide_eq_true hps]; rfl
                  have hcho : okCh (gpOf ns ds) x p := .inr ⟨v, hpv, hvm, hcan⟩
                  have hnxi : nx.In (gpOf ns ds) := by rw [← hnx]; exact next_in hG hxi (by rw [hN]; exact hxt) hcho
                  have hcall := fun (w2 : World) (R : Heap) (hh2 : Hp w0.heap.size w0 ((g7, .cells #[.map (some gp)] 95 (0, 0)) :: (gp, mobj jkV pes pc) :: (g12, .cells #[.map (some gd)] 105 (0, 0)) :: (gd, mobj jkV des dc) :: (g13, .cells #[.slice (some ⟨gr, 0, none⟩) T'.length cap] 106 (0, 0)) :: (gr, .cells (jL ns.length T' ++ tl2).toArray 102 (0, 0)) :: R) w2) => reach_c (J := ⟨g7, gp, g12, gd, g13⟩) (X := ⟨des, dc, ⟨some gr, cap, tl2⟩, D, T'⟩) (bound := bb) hG hG.m hnxi hPM hY2 hTl hh2
                  have hw3 : (jOf ns.length (waitS x)).C[3 + v]? = some (.int .i64 ((sAt x v : Nat) : Int)) := jOf_c3 (s := waitS x) hwi.ok hv6
                  have hst3 : (jOf ns.length (waitS x)).C.setIfInBounds (3 + v) (.int .i64 ((sAt x v - 1 : Nat) : Int)) = (jOf ns.length nx).C := by rw [hnxd]; exact jOf_s3 hxo hv6
                  have hl3 : 3 + v < (jOf ns.length (waitS x)).C.size := by omega
                  have hsub3 : ((sAt x v : Nat) : Int) - 1 = ((sAt x v - 1 : Nat) : Int) := by omega
                  have hn0c : (jOf ns.length nx).C[0]? = some (.int .i64 ((x.turn + 1 : Nat) : Int)) := by rw [hnxd]; exact jOf_c0
                  have hzn := jOf_size (m := ns.length) hnxi.ok
                  by_cases hlast : x.turn + 1 = g.dl.n
                  · have hli : ((x.turn + 1 : Nat) : Int) = (g.dl.n : Int) := by omega
                    have hnt : (nextS x p).turn = (gpOf ns ds).deps.length := by rw [nextS_turn, hN]; exact hlast
                    by_cases hbl : p.bound < 0
                    · skip
                      repeat (first|apply spm_skip|apply spm_seq|apply spm_region rfl|apply spm_block|apply spm_ret|(refine spm_drawn [(0, true), (1, true), (2, true), (3, true), (4, true), (5, true), (6, true), (7, true), (8, false), (9, true), (10, true), (11, true), (12, true), (13, true), (14, true), (15, true), (16, true), (17, true), (18, true), (19, true), (20, true), (21, true), (22, true), (23, true), (24, true), (25, true), (26, true)] 27 _ mixed ?_ rfl HKeep.refl ?_;(·kernel_rfl))|(apply spl_callp rfl;(·(repeat (first|exact eN|(apply eS;(·exact eT rfl)))));(·exact fun w' hh => hcon _ _ hany _ w' hh))|(apply spl_store1E hst3;(·exact eT rfl);(·exact eT rfl);(·rfl);(·(repeat (exact Upd.here)));(·exact hl3))|((apply spm_cond_t);(·exact eT rfl);(·(rfl)))|(apply spm_cond_f;(·exact eT rfl);(·(rfl)))|(apply spl_store1E hst0;(·exact eT rfl);(·exact eT rfl);(·rfl);(·(repeat (exact Upd.here)));(·exact hl0))|apply then_n|apply spl_nil|apply then_r|apply block_r|((first|apply spl_pure rfl|apply wlk_read rfl rfl|(apply wlk_read_g rfl rfl;(·exact Gd.tf rfl rfl)));(·(first|(apply ex_gtrT hgt;(·exact eT rfl);(·exact eC))|(apply ex_subE hsub;(·exact eT rfl);(·exact eC);(·(constructor<;>omega)))|(apply ex_loadJ (i:=T'.length) (y:=x) (xs:=T' ++ [x]) (tail:=tl);(·exact eT rfl);(·rfl);(·(rw [hrw];first|exact Bk.own InH.mem|exact Bk.old (by assumption) (Nat.le_refl _)));(·exact hTok);(·exact hxl))|(apply ex_slice_hN (h:=T'.length);(·exact eT rfl);(·exact eT rfl);(·exact hcap))|(refine ex_lookup (k:=jkOf hG.m hxo) (kv:=jkV) (g:=gp) (c:=pc) (hv3 _) ?_ ?_ ?_;(·exact eT rfl);(·exact eT rfl);(·exact Bk.own InH.mem))|(apply ex_addK hadd;(·exact eT rfl);(·exact eC);(·(constructor<;>omega)))|(apply ex_eqlT hli;(·exact eT rfl);(·exact eT rfl))|(apply ex_lssT hbl;(·exact eT rfl);(·exact eT rfl))|(apply ex_neqT hcv;(·exact eT rfl);(·exact eC))|(apply ex_indexAddr;(·exact eT rfl);(·exact eT rfl);(·exact hAd);(·exact hxt))|(apply ex_loadfield (ad:=add) (i:=x.turn) (k:=0);(·exact eT rfl);(·exact h.rows);(·exact hAd);(·exact hy);(·rfl))|(apply ex_shrM hv6;(·exact eT rfl);(·exact eT rfl))|(apply ex_and1 hmd;(·exact eT rfl);(·exact eC))|(apply ex_indexAddrK (j:=3+v);(·exact eT rfl);(·exact eT rfl);(·exact hv6);(·omega))|(apply ex_eqlF h1;(·exact eT rfl);(·exact eC))|(apply ex_leqF hle;(·exact eT rfl);(·exact eC))|(apply ex_subE hsub3;(·exact eT rfl);(·exact eC);(·(constructor<;>omega)))|((first|apply ex_move|apply ex_assign|apply ex_fieldAddr'|apply ex_not|apply ex_len)<;>(first|exact eT rfl|exact eC))|((apply ex_orT)<;>(exact eT rfl))|((first|apply ex_loadown|apply ex_indexAddr)<;>(first|exact eT rfl|exact Bk.own InH.mem|rfl|assumption|omega))|((apply ex_loadowns)<;>(first|exact eT rfl|exact Bk.own InH.mem|(assumption))))))|(apply spl_alloc rfl;intro _ _)|(apply spl_store1;(·exact eT rfl);(·exact eT rfl);(·rfl);(·(repeat (first|exact Upd.here|apply Upd.there)));(·rfl))|(apply spl_stores;(·exact eT rfl);(·exact eT rfl);(·(repeat (exact Upd.here)));(·(rfl));(·(assumption));(·exact Ones.one))|(apply effq;(·(intro h_;((repeat (exact HKeep.refl))))))|apply wlk_nil|apply wlk_eff rfl)
                      refine markH_one rfl (by (repeat (first|exact Upd.here|apply Upd.there))) (by ((apply Res.ofOne;((apply Res1.tmp;(·rfl)))))) ⟨false, rfl, ?_, by (repeat (first|exact HKeep.refl|apply HKeep.drop (by first|assumption|omega)))⟩
                      refine ⟨fun q => (by cases q), fun q => absurd ((acc_P hds).1 q) (hA.not hlk ?_)⟩
                      rintro ⟨_, q⟩
                      rw [if_pos hnt, hlost] at q
                      omega
                    · obtain ⟨hA2, hw2⟩ := hA.last hlk hcho hnt (by rw [hlost]; omega)
                      repeat (first|apply spm_skip|apply spm_seq|apply spm_region rfl|apply spm_block|apply spm_exit|(refine spm_drawn [(0, true), (1, true), (2, true), (3, true), (4, true), (5, true), (6, true), (7, true), (8, false), (9, true), (10, true), (11, true), (12, true), (13, true), (14, true), (15, true), (16, true), (17, true), (18, true), (19, true), (20, true), (21, true), (22, true), (23, true), (24, true), (25, true), (26, true)] 27 _ mixed ?_ rfl HKeep.refl ?_;(·kernel_rfl))|(apply spl_callp rfl;(·(repeat (first|exact eN|(apply eS;(·exact eT rfl)))));(·exact fun w' hh => hcon _ _ hany _ w' hh))|(apply spl_store1E hst3;(·exact eT rfl);(·exact eT rfl);(·rfl);(·(repeat (exact Upd.here)));(·exact hl3))|((apply spm_cond_t);(·exact eT rfl);(·(rfl)))|(apply spm_cond_f;(·exact eT rfl);(·(rfl)))|(apply spl_store1E hst0;(·exact eT rfl);(·exact eT rfl);(·rfl);(·(repeat (exact Upd.here)));(·exact hl0))|apply then_n|apply spl_nil|apply then_e|apply block_here|((first|apply spl_pure rfl|apply wlk_read rfl rfl|(apply wlk_read_g rfl rfl;(·exact Gd.tf rfl rfl)));(·(first|(apply ex_gtrT hgt;(·exact eT rfl);(·exact eC))|(apply ex_subE hsub;(·exact eT rfl);(·exact eC);(·(constructor<;>omega)))|(apply ex_loadJ (i:=T'.length) (y:=x) (xs:=T' ++ [x]) (tail:=tl);(·exact eT rfl);(·rfl);(·(rw [hrw];first|exact Bk.own InH.mem|exact Bk.old (by assumption) (Nat.le_refl _)));(·exact hTok);(·exact hxl))|(apply ex_slice_hN (h:=T'.length);(·exact eT rfl);(·exact eT rfl);(·exact hcap))|(refine ex_lookup (k:=jkOf hG.m hxo) (kv:=jkV) (g:=gp) (c:=pc) (hv3 _) ?_ ?_ ?_;(·exact eT rfl);(·exact eT rfl);(·exact Bk.own InH.mem))|(apply ex_addK hadd;(·exact eT rfl);(·exact eC);(·(constructor<;>omega)))|(apply ex_eqlT hli;(·exact eT rfl);(·exact eT rfl))|(apply ex_lssF hbl;(·exact eT rfl);(·exact eT rfl))|(apply ex_neqT hcv;(·exact eT rfl);(·exact eC))|(apply ex_indexAddr;(·exact eT rfl);(·exact eT rfl);(·exact hAd);(·exact hxt))|(apply ex_loadfield (ad:=add) (i:=x.turn) (k:=0);(·exact eT rfl);(·exact h.rows);(·exact hAd);(·exact hy);(·rfl))|(apply ex_shrM hv6;(·exact eT rfl);(·exact eT rfl))|(apply ex_and1 hmd;(·exact eT rfl);(·exact eC))|(apply ex_indexAddrK (j:=3+v);(·exact eT rfl);(·exact eT rfl);(·exact hv6);(·omega))|(apply ex_eqlF h1;(·exact eT rfl);(·exact eC))|(apply ex_leqF hle;(·exact eT rfl);(·exact eC))|(apply ex_subE hsub3;(·exact eT rfl);(·exact eC);(·(constructor<;>omega)))|((first|apply ex_move|apply ex_assign|apply ex_fieldAddr'|apply ex_not|apply ex_len)<;>(first|exact eT rfl|exact eC))|((apply ex_orT)<;>(exact eT rfl))|((first|apply ex_loadown|apply ex_indexAddr)<;>(first|exact eT rfl|exact Bk.own InH.mem|rfl|assumption|omega))|((apply ex_loadowns)<;>(first|exact eT rfl|exact Bk.own InH.mem|(assumption))))))|(apply spl_alloc rfl;intro _ _)|(apply spl_store1;(·exact eT rfl);(·exact eT rfl);(·rfl);(·(repeat (first|exact Upd.here|apply Upd.there)));(·rfl))|(apply spl_stores;(·exact eT rfl);(·exact eT rfl);(·(repeat (exact Upd.here)));(·(rfl));(·(assumption));(·exact Ones.one))|(apply effq;(·(intro h_;((repeat (exact HKeep.refl))))))|apply wlk_nil|apply wlk_eff rfl)
                      exact ⟨rfl, ⟨des, dc, ⟨some gr, cap, tl2⟩, D, T'⟩, ⟨hY2, hA2⟩, hw2, (by (repeat (first|exact ESub.nil|apply ESub.cons rfl))), rfl, (by (repeat (first|exact HKeep.refl|(apply HKeep.app;(·(repeat (first|exact Split.one|apply Split.cons))))|(apply HKeep.pick;(·(repeat (first|exact Rem.here|apply Rem.there))))|apply HKeep.drop (by first|assumption|omega))))⟩
                  · have hli : ((x.turn + 1 : Nat) : Int) ≠ (g.dl.n : Int) := by omega
                    have hnt : (nextS x p).turn < (gpOf ns ds).deps.length := by rw [nextS_turn, hN]; omega
                    have hnn : ¬ (nextS x p).turn = (gpOf ns ds).deps.length := by omega
                    have hsb : p.bound - 0 = bb := hbb.symm
                    repeat (first|apply spm_skip|apply spm_seq|apply spm_region rfl|apply spm_block|(refine spm_drawn [(0, true), (1, true), (2, true), (3, true), (4, true), (5, true), (6, true), (7, true), (8, false), (9, true), (10, true), (11, true), (12, true), (13, true), (14, true), (15, true), (16, true), (17, true), (18, true), (19, true), (20, true), (21, true), (22, true), (23, true), (24, true), (25, true), (26, true)] 27 _ mixed ?_ rfl HKeep.refl ?_;(·kernel_rfl))|(apply spl_callp rfl;(·(repeat (first|exact eN|(apply eS;(·exact eT rfl)))));(·exact fun w' hh => hcon _ _ hany _ w' hh))|(apply spl_store1E hst3;(·exact eT rfl);(·exact eT rfl);(·rfl);(·(repeat (exact Upd.here)));(·exact hl3))|(apply spl_callMw (f:=53) (first:=[]) (cap:=[.pointer (some ⟨g7, 0, none⟩), .pointer (some ⟨g12, 0, none⟩), .pointer (some ⟨g13, 0, none⟩)]) (X:=Bool × JS) (V:=fun x => .bool x.1) (A:=(g7, .cells #[.map (some gp)] 95 (0, 0)) :: (gp, mobj jkV pes pc) :: (g12, .cells #[.map (some gd)] 105 (0, 0)) :: (gd, mobj jkV des dc) :: (g13, .cells #[.slice (some ⟨gr, 0, none⟩) T'.length cap] 106 (0, 0)) :: [(gr, .cells (jL ns.length T' ++ tl2).toArray 102 (0, 0))]) (AA:=fun x => (g7, .cells #[.map (some gp)] 95 (0, 0)) :: (gp, mobj jkV pes pc) :: (g12, .cells #[.map (some gd)] 105 (0, 0)) :: (gd, mobj jkV x.2.des x.2.dc) :: (g13, .cells #[x.2.r.val x.2.T.length] 106 (0, 0)) :: x.2.r.hp (jL ns.length x.2.T) 102) (I:=fun y => y.2.Ok ns.length hG.m w0.heap.size ∧ (y.1 = true → (y.2.D, y.2.T) = stepsDT (movesL ns.length nx) (movesL ns.length nx).length (D, T')) ∧ (y.1 = true ↔ passP (gpOf ns ds) (lookG ps ns.length) bb nx)) rfl;(·exact eT rfl);(·(repeat (first|exact eN|(apply eS;(·exact eT rfl)))));(·(apply Split.cons;apply Split.cons;apply Split.cons;exact Split.six1));(·exact fun w2 hh2 => hcall w2 _ hh2);(rintro ⟨b, Z⟩ hZ;simp only [List.cons_append, List.nil_append]))|((apply spm_cond_t);(·exact eT rfl);(·(rfl)))|(apply spm_cond_f;(·exact eT rfl);(·(rfl)))|(apply spl_store1E hst0;(·exact eT rfl);(·exact eT rfl);(·rfl);(·(repeat (exact Upd.here)));(·exact hl0))|apply then_n|apply spl_nil|((first|apply spl_pure rfl|apply wlk_read rfl rfl|(apply wlk_read_g rfl rfl;(·exact Gd.tf rfl rfl)));(·(first|(apply ex_gtrT hgt;(·exact eT rfl);(·exact eC))|(apply ex_subE hsub;(·exact eT rfl);(·exact eC);(·(constructor<;>omega)))|(apply ex_loadJ (i:=T'.length) (y:=x) (xs:=T' ++ [x]) (tail:=tl);(·exact eT rfl);(·rfl);(·(rw [hrw];first|exact Bk.own InH.mem|exact Bk.old (by assumption) (Nat.le_refl _)));(·exact hTok);(·exact hxl))|(apply ex_slice_hN (h:=T'.length);(·exact eT rfl);(·exact eT rfl);(·exact hcap))|(refine ex_lookup (k:=jkOf hG.m hxo) (kv:=jkV) (g:=gp) (c:=pc) (hv3 _) ?_ ?_ ?_;(·exact eT rfl);(·exact eT rfl);(·exact Bk.own InH.mem))|(apply ex_addK hadd;(·exact eT rfl);(·exact eC);(·(constructor<;>omega)))|(apply ex_eqlF hli;(·exact eT rfl);(·exact eT rfl))|(apply ex_subE hsb;(·exact eT rfl);(·exact eT rfl);(·(constructor<;>omega)))|(apply ex_neqT hcv;(·exact eT rfl);(·exact eC))|(apply ex_indexAddr;(·exact eT rfl);(·exact eT rfl);(·exact hAd);(·exact hxt))|(apply ex_loadfield (ad:=add) (i:=x.turn) (k:=0);(·exact eT rfl);(·exact h.rows);(·exact hAd);(·exact hy);(·rfl))|(apply ex_shrM hv6;(·exact eT rfl);(·exact eT rfl))|(apply ex_and1 hmd;(·exact eT rfl);(·exact eC))|(apply ex_indexAddrK (j:=3+v);(·exact eT rfl);(·exact eT rfl);(·exact hv6);(·omega))|(apply ex_eqlF h1;(·exact eT rfl);(·exact eC))|(apply ex_leqF hle;(·exact eT rfl);(·exact eC))|(apply ex_subE hsub3;(·exact eT rfl);(·exact eC);(·(constructor<;>omega)))|((first|apply ex_move|apply ex_assign|apply ex_fieldAddr'|apply ex_not|apply ex_len)<;>(first|exact eT rfl|exact eC))|((apply ex_orT)<;>(exact eT rfl))|((first|apply ex_loadown|apply ex_indexAddr)<;>(first|exact eT rfl|exact Bk.own InH.mem|rfl|assumption|omega))|((apply ex_loadowns)<;>(first|exact eT rfl|exact Bk.own InH.mem|(assumption))))))|(apply spl_alloc rfl;intro _ _)|(apply spl_store1;(·exact eT rfl);(·exact eT rfl);(·rfl);(·(repeat (first|exact Upd.here|apply Upd.there)));(·rfl))|(apply spl_stores;(·exact eT rfl);(·exact eT rfl);(·(repeat (exact Upd.here)));(·(rfl));(·(assumption));(·exact Ones.one))|(apply effq;(·(intro h_;((repeat (exact HKeep.refl))))))|apply wlk_nil|apply wlk_eff rfl)
                    obtain ⟨hZ0, hZ1, hZ2⟩ := hZ
                    dsimp only at hZ0 hZ1 hZ2
                    have hrow3 := RowS.drop (xs := jL ns.length Z.T) (T := 102) hZ0.fr
                    cases b with
                    | false =>
                      repeat (first|apply spm_seq|apply spm_region rfl|apply spm_ret|((apply spm_cond_t);(·exact eT rfl);(·(rfl)))|apply then_n|apply spl_nil|apply then_r|apply block_r|((apply spl_pure rfl);(·(((apply ex_assign)<;>(exact eC))))))
                      refine markH_one rfl (by (repeat (first|exact Upd.here|apply Upd.there|apply Upd.app))) (by ((apply Res.ofOne;((apply Res1.tmp;(·rfl)))))) ⟨false, rfl, ?_, by (repeat (first|exact HKeep.refl|apply HKeep.drop (by first|assumption|omega)|apply HKeep.dropA (by assumption)))⟩
                      refine ⟨fun q => (by cases q), fun q => absurd ((acc_P hds).1 q) (hA.not hlk ?_)⟩
                      rintro ⟨_, q⟩
                      rw [if_neg hnn, hlost, hnx, hsb] at q
                      cases hZ2.2 q
                    | true =>
                      obtain ⟨hA2, hw2⟩ := hA.more (D' := Z.D) (T' := Z.T) hG hlk hcho hnt (by rw [hlost, hnx, hsb]; exact hZ2.1 rfl) (by rw [hnx]; exact hZ1 rfl)
                      repeat (first|apply spm_skip|(apply spm_cond_f;(·exact eT rfl);(·(rfl)))|apply then_n|apply block_n)
                      exact ⟨rfl, Z, ⟨hZ0, hA2⟩, hw2, (by (repeat (first|exact ESub.nil|apply ESub.cons rfl))), rfl, (by (repeat (first|exact HKeep.refl|apply HKeep.keep|(apply HKeep.app;(·(repeat (exact Split.here))))|(apply HKeep.pick;(·(repeat (first|exact Rem.here|apply Rem.there))))|apply HKeep.drop (by first|assumption|omega))))⟩
                · have hle : ((sAt x v : Nat) : Int) ≤ 0 := by omega
                  repeat (first|apply spm_skip|apply spm_seq|apply spm_region rfl|apply spm_block|apply spm_ret|(refine spm_drawn [(0, true), (1, true), (2, true), (3, true), (4, true), (5, true), (6, true), (7, true), (8, false), (9, true), (10, true), (11, true), (12, true), (13, true), (14, true), (15, true), (16, true), (17, true), (18, true), (19, true), (20, true), (21, true), (22, true), (23, true), (24, true), (25, true), (26, true)] 27 _ mixed ?_ rfl HKeep.refl ?_;(·kernel_rfl))|(apply spl_callp rfl;(·(repeat (first|exact eN|(apply eS;(·exact eT rfl)))));(·exact fun w' hh => hcon _ _ hany _ w' hh))|((apply spm_cond_t);(·exact eT rfl);(·(rfl)))|(apply spl_store1E hst0;(·exact eT rfl);(·exact eT rfl);(·rfl);(·(repeat (exact Upd.here)));(·exact hl0))|apply then_n|apply spl_nil|apply then_r|apply block_r|((first|apply spl_pure rfl|apply wlk_read rfl rfl|(apply wlk_read_g rfl rfl;(·exact Gd.tf rfl rfl)));(·(first|(apply ex_gtrT hgt;(·exact eT rfl);(·exact eC))|(apply ex_subE hsub;(·exact eT rfl);(·exact eC);(·(constructor<;>omega)))|(apply ex_loadJ (i:=T'.length) (y:=x) (xs:=T' ++ [x]) (tail:=tl);(·exact eT rfl);(·rfl);(·(rw [hrw];first|exact Bk.own InH.mem|exact Bk.old (by assumption) (Nat.le_refl _)));(·exact hTok);(·exact hxl))|(apply ex_slice_hN (h:=T'.length);(·exact eT rfl);(·exact eT rfl);(·exact hcap))|(refine ex_lookup (k:=jkOf hG.m hxo) (kv:=jkV) (g:=gp) (c:=pc) (hv3 _) ?_ ?_ ?_;(·exact eT rfl);(·exact eT rfl);(·exact Bk.own InH.mem))|(apply ex_addK hadd;(·exact eT rfl);(·exact eC);(·(constructor<;>omega)))|(apply ex_neqT hcv;(·exact eT rfl);(·exact eC))|(apply ex_indexAddr;(·exact eT rfl);(·exact eT rfl);(·exact hAd);(·exact hxt))|(apply ex_loadfield (ad:=add) (i:=x.turn) (k:=0);(·exact eT rfl);(·exact h.rows);(·exact hAd);(·exact hy);(·rfl))|(apply ex_shrM hv6;(·exact eT rfl);(·exact eT rfl))|(apply ex_and1 hmd;(·exact eT rfl);(·exact eC))|(apply ex_indexAddrK (j:=3+v);(·exact eT rfl);(·exact eT rfl);(·exact hv6);(·omega))|(apply ex_eqlF h1;(·exact eT rfl);(·exact eC))|(apply ex_leqT hle;(·exact eT rfl);(·exact eC))|((first|apply ex_move|apply ex_assign|apply ex_fieldAddr'|apply ex_not|apply ex_len)<;>(first|exact eT rfl|exact eC))|((apply ex_orT)<;>(exact eT rfl))|((first|apply ex_loadown|apply ex_indexAddr)<;>(first|exact eT rfl|exact Bk.own InH.mem|rfl|assumption|omega))|((apply ex_loadowns)<;>(first|exact eT rfl|exact Bk.own InH.mem|(assumption))))))|(apply spl_alloc rfl;intro _ _)|(apply spl_store1;(·exact eT rfl);(·exact eT rfl);(·rfl);(·(repeat (first|exact Upd.here|apply Upd.there)));(·rfl))|(apply spl_stores;(·exact eT rfl);(·exact eT rfl);(·(repeat (exact Upd.here)));(·(rfl));(·(assumption));(·exact Ones.one))|(apply effq;(·(intro h_;((repeat (exact HKeep.refl))))))|apply wlk_nil|apply wlk_eff rfl)
                  refine markH_one rfl (by (repeat (first|exact Upd.here|apply Upd.there))) (by ((apply Res.ofOne;((apply Res1.tmp;(·rfl)))))) ⟨false, rfl, ?_, by (repeat (first|exact HKeep.refl|apply HKeep.drop (by first|assumption|omega)))⟩
                  refine ⟨fun q => (by cases q), fun q => absurd ((acc_P hds).1 q) (hA.not hlk ?_)⟩
                  rintro ⟨q | ⟨v', q1, q2, q3⟩, _⟩
                  · exact hc q
                  · have hvv : v' = v := by omega
                    subst hvv
                    unfold canS at q3
                    rw [decide_eq_false hps, Bool.and_false] at q3
                    cases q3
end Go.Proofs.Ytoogicafefennaa
/-
  Contracts: player.turn.
-/
namespace Go.Proofs.Ytoogicafefennaa
set_option linter.unusedVariables false
open Go.RowKit Go.Sy
set_option linter.unusedVariables false
set_option linter.unusedSimpArgs false
theorem ex_mkifaceI {P : Program} {Be : Nat} {w0 : World} {H : Heap} {G : Bool} {e : Env} {ty : TypeId} {t : TypeId} {q : IntKind} {x : Operand} {v : Value} [ht : TInt P t q] (h : Ev G e x v) : Ex P Be w0 H G e (.makeInterface t x) ty (.iface t v) := by
  intro N a w o ho _ hf hh hG
  simp only [execOp, ho, h N a hf hG, Instr.makeInterface, Sem.run_bind, run_underlying ht.int, Result.andThen_ok]
  rfl
def errE (n : Int) : List PanicEntry := [{ v := .iface 26 (.int .i64 n), recovered := false }]
def ErrP (ch : List PanicEntry) : Prop := ∃ n : Int, n ≠ 0 ∧ ch = errE n
def movS (s : GS) : Option Nat → GS
  | none => s
  | some k => failS s k
def lookQ (ps : List PosR) (m : Nat) (x : GS) : Option Int := lookC ps (pOf m x)
def turnF (G : GP) (look : GS → Option Int) (x : GS) : Option (GS × Nat) := match look x with
  | none => none
  | some c => if c = -1 then some (waitS x, 1) else if (G.at_ x.turn).any (fun v => decide (c = (v : Int))) = true ∧ canS x c.toNat = true then some (stepS x c.toNat, 0) else none
def okMove (G : GP) (s : GS) (k : Option Nat) : Prop := ∀ i, k = some i → i < G.m ∧ 0 < s.budget ∧ gt s.failed i = false
theorem okMove_in {G : GP} {s : GS} {k : Option Nat} (h : s.In G) (hk : okMove G s k) : movS s k ∈ movesL G.m s := by
  unfold movesL
  cases k with
  | none => exact .head _
  | some i =>
    obtain ⟨h1, h2, h3⟩ := hk i rfl
    rw [if_neg (by omega)]
    exact .tail _ (List.mem_map.2 ⟨i, List.mem_filter.2 ⟨List.mem_range.2 h1, by rw [h3]; rfl⟩, rfl⟩)
theorem any_nat {l : List Nat} {c : Int} : (l.any fun v => decide (c = (v : Int))) = true ↔ ∃ v : Nat, c = v ∧ v ∈ l := by
  rw [List.any_eq_true]
  constructor
  · rintro ⟨v, hv, h⟩
    exact ⟨v, of_decide_eq_true h, hv⟩
  · rintro ⟨v, rfl, hv⟩
    exact ⟨v, hv, decide_eq_true rfl⟩
theorem turnF_none {G : GP} {look : GS → Option Int} {x : GS} {c : Int} (h : look x = some c) (hc : c ≠ -1) (hn : ¬ ((G.at_ x.turn).any (fun v => decide (c = (v : Int))) = true ∧ canS x c.toNat = true)) : turnF G look x = none := by
  unfold turnF
  rw [h]
  show (if c = -1 then _ else _) = none
  rw [if_neg hc, if_neg hn]
theorem pOf_mv {m i : Nat} {s : GS} : (pOf m { s with failed := s.failed.set i true }).C.setIfInBounds 2 (.int .i64 ((s.budget - 1 : Nat) : Int)) = (pOf m (failS s i)).C := rfl
attribute [local irreducible] Calls thenQ blockQ retQ retFQ jumpQ Spc Spl Spq Ex Ev Evs Gd Upd ESub HKeep Res Res1 wlk effQ Rem SrcAt Split PK.C mobj PosR.C plC pOf lookQ
set_option maxRecDepth 100000 in
set_option maxHeartbeats 16000000 in
theorem turn_c2 {w0 : World} {g : GaR} {ns : List Nat} {ds : List (Sl × List Nat)} {B gc cc : Nat} {ces : List (PKs × Value × Nat)} {ps : List PosR} {s : GS} {k : Option Nat} (h : RdGa w0 w0.heap.size g) (hv : validG g = true) (hp : Plain g ns ds B) (hgc : w0.heap[gc]? = some (mobj pkV ces cc)) (hM : CMap ps ces) (hs : s.In (gpOf ns ds)) (ht : s.turn < (gpOf ns ds).deps.length) (hk : okMove (gpOf ns ds) s k) :
    Calls Try.prog 81 #[.agg (plC g gc), .agg (pOf ns.length s).C, .int .i64 (chV k)] w0 (RetF w0.heap.size w0 (fun y : GS × Nat => .tuple #[.agg (pOf ns.length y.1).C, .int .i64 (y.2 : Int)]) (fun _ => []) (fun y => turnF (gpOf ns ds) (lookQ ps ns.length) (movS s k) = some y) (fun ch => ErrP ch ∧ turnF (gpOf ns ds) (lookQ ps ns.length) (movS s k) = none) []) := by
  have hkk := gaOk_of hv
  have hG := hp.ok hkk h
  have hm6 : ns.length ≤ 6 := hG.m
  have hdl : ds.length = g.dl.n := by
    have := h.rows.len
    rw [hp.ds, List.length_map] at this
    exact this
  have hN : (gpOf ns ds).deps.length = g.dl.n := by show (ds.map Prod.snd).length = _; rw [List.length_map, hdl]
  obtain ⟨x, hx⟩ : ∃ x, x = movS s k := ⟨_, rfl⟩
  have hxm := okMove_in hs hk
  rw [← hx] at hxm ⊢
  have hxi := (moves_in hs hxm).1
  have hxt : x.turn < (gpOf ns ds).deps.length := by rw [(moves_in hs hxm).2]; exact ht
  have hxt2 : x.turn < g.dl.n := by rw [← hN]; exact hxt
  have hz4 : (plC g gc).size = 4 := by unfold plC; rfl
  have hc1 : (plC g gc)[1]? = some (.slice g.dl.a g.dl.n g.dl.c) := by unfold plC; rfl
  have hc3 : (plC g gc)[3]? = some (.map (some gc)) := by unfold plC; rfl
  have hzs := pOf_size (m := ns.length) hs.ok
  have hzx := pOf_size (m := ns.length) hxi.ok
  refine sp_enterF (vs := [_, _, _]) (H := []) Try.func81 rfl Try.ntmps81 rfl (Hp.start w0) ?_
  apply sp_seq
  refine spc_cutN (X := Nat × Nat × Nat) (fun y => [(2, true, .int .i64 (chV k)), (3, true, .pointer (some ⟨y.1, 0, none⟩)), (4, true, .pointer (some ⟨y.2.1, 0, none⟩)), (6, true, .pointer (some ⟨y.2.2, 0, none⟩))]) (fun y => (y.2.2, .cells #[.int .i64 0, .int .i64 0, .int .i64 0, .int .i64 0, .int .i64 0, .int .i64 0, .int .i64 0, .int .i64 0, .int .i64 0, .bool false, .bool false, .bool false, .bool false, .bool false, .bool false] 132 (0, 0)) :: (y.2.1, .cells (pOf ns.length s).C 132 (0, 0)) :: [(y.1, .cells (plC g gc) 92 (0, 0))]) (fun y => w0.heap.size ≤ y.1 ∧ w0.heap.size ≤ y.2.1 ∧ w0.heap.size ≤ y.2.2) ?_ ?_
  · skip
    repeat (first|apply then_n|apply sp_region|apply spl_nil|((apply spl_pure rfl);(·(((apply ex_assign)<;>(exact eC)))))|(apply spl_box;(·exact eT rfl);(·rfl);intro _ _)|(apply spl_alloc rfl;intro _ _))
    rename_i g3 hg3 g4 hg4 g6 hg6
    exact ⟨(g3, g4, g6), ⟨hg3, hg4, hg6⟩, (by (repeat (first|exact ESub.nil|apply ESub.cons rfl))), rfl, (by (repeat (exact HKeep.refl)))⟩
  · rintro ⟨g3, g4, g6⟩ ⟨hg3, hg4, hg6⟩
    dsimp only at hg3 hg4 hg6 ⊢
    apply sp_seq
    refine spc_cutN (X := Unit) (fun _ => [(3, true, .pointer (some ⟨g3, 0, none⟩)), (4, true, .pointer (some ⟨g4, 0, none⟩)), (6, true, .pointer (some ⟨g6, 0, none⟩))]) (fun _ => (g6, .cells #[.int .i64 0, .int .i64 0, .int .i64 0, .int .i64 0, .int .i64 0, .int .i64 0, .int .i64 0, .int .i64 0, .int .i64 0, .bool false, .bool false, .bool false, .bool false, .bool false, .bool false] 132 (0, 0)) :: (g4, .cells (pOf ns.length x).C 132 (0, 0)) :: [(g3, .cells (plC g gc) 92 (0, 0))]) (fun _ => True) ?_ ?_
    · cases k with
      | none =>
        have hq : ¬ (0 : Int) ≤ -1 := by decide
        have hxs : x = s := hx
        rw [hxs, show chV none = -1 from rfl]
        repeat (first|(apply sp_cond_f;(·exact eT rfl);(·rfl))|apply then_n|apply sp_seq|apply sp_region|apply spl_nil|apply sp_skip|((apply spl_pure rfl);(·(first|(apply ex_geqF hq;(·exact eT rfl);(·exact eC))|((apply ex_move)<;>(exact eT rfl))))))
        exact ⟨(), trivial, (by (repeat (first|exact ESub.nil|apply ESub.cons rfl))), rfl, (by (repeat (exact HKeep.refl)))⟩
      | some i =>
        obtain ⟨hi, hb, hf⟩ := hk i rfl
        have hi6 : i < 6 := Nat.lt_of_lt_of_le hi hm6
        have hq : (0 : Int) ≤ (i : Int) := by omega
        have hb2 := hs.ok.b
        have hst9 : (pOf ns.length s).C.setIfInBounds (9 + i) (.bool true) = (pOf ns.length { s with failed := s.failed.set i true }).C := pOf_s9 hs.ok hi6
        have hl9 : 9 + i < (pOf ns.length s).C.size := by omega
        have hc2 : (pOf ns.length { s with failed := s.failed.set i true }).C[2]? = some (.int .i64 (s.budget : Int)) := pOf_c2
        have hst2 : (pOf ns.length { s with failed := s.failed.set i true }).C.setIfInBounds 2 (.int .i64 ((s.budget - 1 : Nat) : Int)) = (pOf ns.length x).C := by rw [hx]; exact pOf_mv
        have hl2 : 2 < (pOf ns.length { s with failed := s.failed.set i true }).C.size := by rw [← hst9, Array.size_setIfInBounds]; omega
        have hsub : (s.budget : Int) - 1 = ((s.budget - 1 : Nat) : Int) := by omega
        rw [show chV (some i) = (i : Int) from rfl]
        repeat (first|(apply sp_cond_t;(·exact eT rfl);(·rfl))|(apply spl_store1E hst9;(·exact eT rfl);(·exact eC);(·rfl);(·(repeat (first|exact Upd.here|apply Upd.there)));(·exact hl9))|(apply spl_store1E hst2;(·exact eT rfl);(·exact eT rfl);(·rfl);(·(repeat (first|exact Upd.here|apply Upd.there)));(·exact hl2))|apply then_n|apply sp_seq|apply sp_region|apply spl_nil|((apply spl_pure rfl);(·(first|(apply ex_geqT hq;(·exact eT rfl);(·exact eC))|(apply ex_indexAddrK (j:=9+i);(·exact eT rfl);(·exact eT rfl);(·exact hi6);(·omega))|(apply ex_subE hsub;(·exact eT rfl);(·exact eC);(·(constructor<;>omega)))|((first|apply ex_move|apply ex_fieldAddr')<;>(exact eT rfl))|((apply ex_loadown)<;>(first|exact eT rfl|exact Bk.own InH.mem|assumption))))))
        exact ⟨(), trivial, (by (repeat (first|exact ESub.nil|apply ESub.cons rfl))), rfl, (by (repeat (exact HKeep.refl)))⟩
    · rintro - -
      have hpx := hM (pkOf hm6 hxi.ok)
      have hlq : lookC ps (pkOf hm6 hxi.ok).1 = lookQ ps ns.length x := by unfold lookQ; rfl
      rw [hlq] at hpx
      have hxo := hxi.ok.t
      have hx0 : (pOf ns.length x).C[0]? = some (.int .i64 (x.turn : Int)) := pOf_c0
      have hadd : (x.turn : Int) + 1 = ((x.turn + 1 : Nat) : Int) := by omega
      have hwi := waitS_in hG hxi hxt
      cases hlk : lookQ ps ns.length x with
      | none =>
        rw [hlk] at hpx
        have hst0 : (pOf ns.length x).C.setIfInBounds 0 (.int .i64 ((x.turn + 1 : Nat) : Int)) = (pOf ns.length (waitS x)).C := pOf_s0
        have hl0 : 0 < (pOf ns.length x).C.size := by omega
        have hv1 : ∀ z, (getL (pkOf hm6 hxi.ok) ces).getD z = z := fun z => by rw [hpx]; rfl
        have hv2 : (getL (pkOf hm6 hxi.ok) ces).isSome = false := by rw [hpx]; rfl
        repeat (first|(apply sp_cond_t;(·exact eT rfl);(·rfl))|(apply spl_panic;(·exact eT rfl))|apply then_n|apply sp_seq|apply sp_region|apply spl_nil|((apply spl_pure rfl);(·(first|(refine ex_lookupOk (k:=pkOf hm6 hxi.ok) (kv:=pkV) (g:=gc) (c:=cc) (hv1 _) hv2 ?_ ?_ ?_;(·exact eT rfl);(·exact eT rfl);(·(exact Bk.old (by assumption) (Nat.le_refl _))))|(apply ex_mkifaceI;(·exact eC))|((first|apply ex_move|apply ex_assign|apply ex_fieldAddr'|apply ex_not)<;>(exact eT rfl))|((first|apply ex_loadown|apply ex_extract)<;>(first|exact eT rfl|exact Bk.own InH.mem|rfl|assumption))|((apply ex_loadowns)<;>(first|exact eT rfl|exact Bk.own InH.mem|(assumption)))))))
        (repeat (apply then_p))
        exact retF_pan ⟨⟨2, by decide, rfl⟩, by unfold turnF; rw [hlk]⟩ (by (repeat (first|exact HKeep.refl|apply HKeep.drop (by first|assumption|omega))))
      | some c =>
        rw [hlk] at hpx
        have hv1 : ∀ z, (getL (pkOf hm6 hxi.ok) ces).getD z = .int .i64 c := fun z => by rw [hpx]; rfl
        have hv2 : (getL (pkOf hm6 hxi.ok) ces).isSome = true := by rw [hpx]; rfl
        have hzw := pOf_size (m := ns.length) hwi.ok
        by_cases hc : c = -1
        · have hst0 : (pOf ns.length x).C.setIfInBounds 0 (.int .i64 ((x.turn + 1 : Nat) : Int)) = (pOf ns.length (waitS x)).C := pOf_s0
          have hl0 : 0 < (pOf ns.length x).C.size := by omega
          repeat (first|(apply sp_cond_f;(·exact eT rfl);(·rfl))|(apply spl_store1E hst0;(·exact eT rfl);(·exact eT rfl);(·rfl);(·(repeat (first|exact Upd.here|apply Upd.there)));(·exact hl0))|apply then_n|apply sp_seq|apply sp_region|apply spl_nil|apply sp_skip|apply sp_ret|((apply spl_pure rfl);(·(first|(refine ex_lookupOk (k:=pkOf hm6 hxi.ok) (kv:=pkV) (g:=gc) (c:=cc) (hv1 _) hv2 ?_ ?_ ?_;(·exact eT rfl);(·exact eT rfl);(·(exact Bk.old (by assumption) (Nat.le_refl _))))|(apply ex_addK hadd;(·exact eT rfl);(·exact eC);(·(constructor<;>omega)))|(apply ex_neqF hc;(·exact eT rfl);(·exact eC))|((first|apply ex_move|apply ex_assign|apply ex_fieldAddr'|apply ex_not)<;>(first|exact eT rfl|exact eC))|((first|apply ex_loadown|apply ex_extract)<;>(first|exact eT rfl|exact Bk.own InH.mem|rfl|assumption))|((apply ex_loadowns)<;>(first|exact eT rfl|exact Bk.own InH.mem|(assumption))))))|(apply spl_stores;(·exact eT rfl);(·exact eT rfl);(·(repeat (exact Upd.here)));(·(rfl));(·(assumption));(·exact Ones.one)))
          (apply retF_ok rfl;(·((apply Res.ofTwo<;>(first|(apply Res1.tmp;(·rfl))|(apply Res1.cell;(·rfl);(·exact InH.mem);(·(assumption))))))))
          exact ⟨(waitS x, 1), rfl, by unfold turnF; rw [hlk]; show (if c = -1 then _ else _) = _; rw [if_pos hc], by (repeat (first|exact HKeep.refl|apply HKeep.drop (by first|assumption|omega)))⟩
        · obtain ⟨add, y, hAd, hbd, hy, hszd, hcd⟩ := h.rows.at_ hxt2
          have hym := List.mem_of_getElem? hy
          have hyr := hp.row_at hy
          have hcon := fun (c0 : Int) (q : Bool) (hq : (y.2.any fun k => decide (c0 = k)) = q) (H : Heap) (w' : World) (hh : Hp w0.heap.size w0 H w') => (hq ▸ containsI_c (c := y.1.c) (v := c0) ((h.row y hym).hp' hh) : Calls Try.prog 55 #[.slice y.1.a y.1.n y.1.c, .int .i64 c0] w' (Ret w' (.bool q)))
          cases hany : (y.2.any fun k => decide (c = k)) with
          | false =>
            have hst0 : (pOf ns.length x).C.setIfInBounds 0 (.int .i64 ((x.turn + 1 : Nat) : Int)) = (pOf ns.length (waitS x)).C := pOf_s0
            have hl0 : 0 < (pOf ns.length x).C.size := by omega
            repeat (first|(apply spl_callp rfl;(·(repeat (first|exact eN|(apply eS;(·exact eT rfl)))));(·exact fun w' hh => hcon _ _ hany _ w' hh))|(apply spl_panic;(·exact eT rfl))|apply then_n|apply sp_seq|apply sp_region|apply spl_nil|((apply sp_cond_t);(·exact eT rfl);(·(rfl)))|(apply sp_cond_f;(·exact eT rfl);(·(rfl)))|apply sp_skip|((first|apply spl_pure rfl|(apply spl_pure_g rfl;(·exact Gd.tf rfl rfl)));(·(first|(exact ex_off rfl)|(refine ex_lookupOk (k:=pkOf hm6 hxi.ok) (kv:=pkV) (g:=gc) (c:=cc) (hv1 _) hv2 ?_ ?_ ?_;(·exact eT rfl);(·exact eT rfl);(·(exact Bk.old (by assumption) (Nat.le_refl _))))|(apply ex_mkifaceI;(·exact eC))|(apply ex_indexAddr;(·exact eT rfl);(·exact eT rfl);(·exact hAd);(·exact hxt2))|(apply ex_loadfield (ad:=add) (i:=x.turn) (k:=0);(·exact eT rfl);(·exact h.rows);(·exact hAd);(·exact hy);(·rfl))|(apply ex_neqT hc;(·exact eT rfl);(·exact eC))|((first|apply ex_move|apply ex_assign|apply ex_fieldAddr'|apply ex_not)<;>(first|exact eT rfl|exact eC))|((apply ex_orT)<;>(first|exact eT rfl|exact eG rfl))|((first|apply ex_loadown|apply ex_extract)<;>(first|exact eT rfl|exact Bk.own InH.mem|rfl|assumption))|((apply ex_loadowns)<;>(first|exact eT rfl|exact Bk.own InH.mem|(assumption)))))))
            (repeat (apply then_p))
            exact retF_pan ⟨⟨5, by decide, rfl⟩, turnF_none hlk hc fun q => by rw [hyr] at hany; obtain ⟨v, q1, q2⟩ := any_nat.1 q.1; rw [any_cho.2 ⟨v, q1, q2⟩] at hany; cases hany⟩ (by (repeat (first|exact HKeep.refl|apply HKeep.drop (by first|assumption|omega))))
          | true =>
            obtain ⟨v, hpv, hvm⟩ := any_cho.1 (by rw [← hyr]; exact hany)
            subst hpv
            have hv6 : v < 6 := by
              have h1 := hG.v _ _ hvm
              have h2 := hG.m
              omega
            have hx9 := pOf_c9 (m := ns.length) hxi.ok hv6
            have hx3 := pOf_c3 (m := ns.length) hxi.ok hv6
            have hsx := hxi.st v
            cases hf : gt x.failed v with
            | true =>
              rw [hf] at hx9
              have hst0 : (pOf ns.length x).C.setIfInBounds 0 (.int .i64 ((x.turn + 1 : Nat) : Int)) = (pOf ns.length (waitS x)).C := pOf_s0
              have hl0 : 0 < (pOf ns.length x).C.size := by omega
              repeat (first|(apply spl_callp rfl;(·(repeat (first|exact eN|(apply eS;(·exact eT rfl)))));(·exact fun w' hh => hcon _ _ hany _ w' hh))|(apply spl_panic;(·exact eT rfl))|apply then_n|apply sp_seq|apply sp_region|apply spl_nil|((apply sp_cond_t);(·exact eT rfl);(·(rfl)))|(apply sp_cond_f;(·exact eT rfl);(·(exact decide_eq_false (by omega))))|apply sp_skip|((first|apply spl_pure rfl|(apply spl_pure_g rfl;(·exact Gd.tf rfl rfl)));(·(first|(exact ex_off rfl)|(refine ex_lookupOk (k:=pkOf hm6 hxi.ok) (kv:=pkV) (g:=gc) (c:=cc) (hv1 _) hv2 ?_ ?_ ?_;(·exact eT rfl);(·exact eT rfl);(·(exact Bk.old (by assumption) (Nat.le_refl _))))|(apply ex_mkifaceI;(·exact eC))|(apply ex_indexAddr;(·exact eT rfl);(·exact eT rfl);(·exact hAd);(·exact hxt2))|(apply ex_loadfield (ad:=add) (i:=x.turn) (k:=0);(·exact eT rfl);(·exact h.rows);(·exact hAd);(·exact hy);(·rfl))|(apply ex_neqT hc;(·exact eT rfl);(·exact eC))|(apply ex_indexAddrK (j:=9+v);(·exact eT rfl);(·exact eT rfl);(·exact hv6);(·omega))|((first|apply ex_move|apply ex_assign|apply ex_fieldAddr'|apply ex_not)<;>(first|exact eT rfl|exact eC))|((apply ex_orT)<;>(first|exact eT rfl|exact eG rfl))|((first|apply ex_loadown|apply ex_extract)<;>(first|exact eT rfl|exact Bk.own InH.mem|rfl|assumption))|((apply ex_loadowns)<;>(first|exact eT rfl|exact Bk.own InH.mem|(assumption)))))))
              (repeat (apply then_p))
              exact retF_pan ⟨⟨5, by decide, rfl⟩, turnF_none hlk hc fun q => by have q2 := q.2; rw [Int.toNat_natCast] at q2; unfold canS at q2; rw [hf] at q2; cases q2⟩ (by (repeat (first|exact HKeep.refl|apply HKeep.drop (by first|assumption|omega))))
            | false =>
              rw [hf] at hx9
              by_cases hps : sAt x v = 0
              · have hle : ((sAt x v : Nat) : Int) = 0 := by omega
                have hst0 : (pOf ns.length x).C.setIfInBounds 0 (.int .i64 ((x.turn + 1 : Nat) : Int)) = (pOf ns.length (waitS x)).C := pOf_s0
                have hl0 : 0 < (pOf ns.length x).C.size := by omega
                repeat (first|(apply spl_callp rfl;(·(repeat (first|exact eN|(apply eS;(·exact eT rfl)))));(·exact fun w' hh => hcon _ _ hany _ w' hh))|(apply spl_panic;(·exact eT rfl))|apply then_n|apply sp_seq|apply sp_region|apply spl_nil|((apply sp_cond_t);(·exact eT rfl);(·(rfl)))|(apply sp_cond_f;(·exact eT rfl);(·(exact decide_eq_false (by omega))))|apply sp_skip|((first|apply spl_pure rfl|(apply spl_pure_g rfl;(·exact Gd.tf rfl rfl)));(·(first|(refine ex_lookupOk (k:=pkOf hm6 hxi.ok) (kv:=pkV) (g:=gc) (c:=cc) (hv1 _) hv2 ?_ ?_ ?_;(·exact eT rfl);(·exact eT rfl);(·(exact Bk.old (by assumption) (Nat.le_refl _))))|(apply ex_mkifaceI;(·exact eC))|(apply ex_indexAddr;(·exact eT rfl);(·exact eT rfl);(·exact hAd);(·exact hxt2))|(apply ex_loadfield (ad:=add) (i:=x.turn) (k:=0);(·exact eT rfl);(·exact h.rows);(·exact hAd);(·exact hy);(·rfl))|(apply ex_neqT hc;(·exact eT rfl);(·exact eC))|(apply ex_indexAddrK (j:=9+v);(·exact eT rfl);(·exact eT rfl);(·exact hv6);(·omega))|(apply ex_indexAddrK (j:=3+v);(·exact eT rfl);(·exact eT rfl);(·exact hv6);(·omega))|(apply ex_eqlT hle;(·exact eT rfl);(·exact eC))|((first|apply ex_move|apply ex_assign|apply ex_fieldAddr'|apply ex_not)<;>(first|exact eT rfl|exact eC))|((apply ex_orT)<;>(exact eT rfl))|((first|apply ex_loadown|apply ex_extract)<;>(first|exact eT rfl|exact Bk.own InH.mem|rfl|assumption))|((apply ex_loadowns)<;>(first|exact eT rfl|exact Bk.own InH.mem|(assumption)))))))
                (repeat (apply then_p))
                exact retF_pan ⟨⟨5, by decide, rfl⟩, turnF_none hlk hc fun q => by have q2 := q.2; rw [Int.toNat_natCast] at q2; unfold canS at q2; rw [decide_eq_false (by omega), Bool.and_false] at q2; cases q2⟩ (by (repeat (first|exact HKeep.refl|apply HKeep.drop (by first|assumption|omega))))
              · have hle : ((sAt x v : Nat) : Int) ≠ 0 := by omega
                have hsub : ((sAt x v : Nat) : Int) - 1 = ((sAt x v - 1 : Nat) : Int) := by omega
                obtain ⟨x3, hx3d⟩ : ∃ x3 : GS, x3 = { x with starts := x.starts.set v (sAt x v - 1) } := ⟨_, rfl⟩
                have hst3 : (pOf ns.length x).C.setIfInBounds (3 + v) (.int .i64 ((sAt x v - 1 : Nat) : Int)) = (pOf ns.length x3).C := by rw [hx3d]; exact pOf_s3 hxi.ok hv6
                have hl3 : 3 + v < (pOf ns.length x).C.size := by omega
                have h30 : (pOf ns.length x3).C[0]? = some (.int .i64 (x.turn : Int)) := by rw [hx3d]; exact pOf_c0
                have hst0 : (pOf ns.length x3).C.setIfInBounds 0 (.int .i64 ((x.turn + 1 : Nat) : Int)) = (pOf ns.length (stepS x v)).C := by rw [hx3d]; exact pOf_s0v
                have hl0 : 0 < (pOf ns.length x3).C.size := by rw [← hst3, Array.size_setIfInBounds]; omega
                have hsi := stepS_in hG hxi hxt hv6
                have hzy := pOf_size (m := ns.length) hsi.ok
                repeat (first|(apply spl_callp rfl;(·(repeat (first|exact eN|(apply eS;(·exact eT rfl)))));(·exact fun w' hh => hcon _ _ hany _ w' hh))|(apply spl_store1E hst0;(·exact eT rfl);(·exact eT rfl);(·rfl);(·(repeat (first|exact Upd.here|apply Upd.there)));(·exact hl0))|(apply spl_store1E hst3;(·exact eT rfl);(·exact eT rfl);(·rfl);(·(repeat (first|exact Upd.here|apply Upd.there)));(·exact hl3))|apply then_n|apply sp_seq|apply sp_region|apply spl_nil|((apply sp_cond_t);(·exact eT rfl);(·(rfl)))|(apply sp_cond_f;(·exact eT rfl);(·(rfl)))|apply sp_skip|apply sp_ret|((first|apply spl_pure rfl|(apply spl_pure_g rfl;(·exact Gd.tf rfl rfl)));(·(first|(refine ex_lookupOk (k:=pkOf hm6 hxi.ok) (kv:=pkV) (g:=gc) (c:=cc) (hv1 _) hv2 ?_ ?_ ?_;(·exact eT rfl);(·exact eT rfl);(·(exact Bk.old (by assumption) (Nat.le_refl _))))|(apply ex_addK hadd;(·exact eT rfl);(·exact eC);(·(constructor<;>omega)))|(apply ex_indexAddr;(·exact eT rfl);(·exact eT rfl);(·exact hAd);(·exact hxt2))|(apply ex_loadfield (ad:=add) (i:=x.turn) (k:=0);(·exact eT rfl);(·exact h.rows);(·exact hAd);(·exact hy);(·rfl))|(apply ex_neqT hc;(·exact eT rfl);(·exact eC))|(apply ex_indexAddrK (j:=9+v);(·exact eT rfl);(·exact eT rfl);(·exact hv6);(·omega))|(apply ex_indexAddrK (j:=3+v);(·exact eT rfl);(·exact eT rfl);(·exact hv6);(·omega))|(apply ex_eqlF hle;(·exact eT rfl);(·exact eC))|(apply ex_subE hsub;(·exact eT rfl);(·exact eC);(·(constructor<;>omega)))|((first|apply ex_move|apply ex_assign|apply ex_fieldAddr'|apply ex_not)<;>(first|exact eT rfl|exact eC))|((apply ex_orT)<;>(exact eT rfl))|((first|apply ex_loadown|apply ex_extract)<;>(first|exact eT rfl|exact Bk.own InH.mem|rfl|assumption))|((apply ex_loadowns)<;>(first|exact eT rfl|exact Bk.own InH.mem|(assumption))))))|(apply spl_stores;(·exact eT rfl);(·exact eT rfl);(·(repeat (exact Upd.here)));(·(rfl));(·(assumption));(·exact Ones.one)))
                (apply retF_ok rfl;(·((apply Res.ofTwo<;>(first|(apply Res1.tmp;(·rfl))|(apply Res1.cell;(·rfl);(·exact InH.mem);(·(assumption))))))))
                refine ⟨(stepS x v, 0), rfl, ?_, by (repeat (first|exact HKeep.refl|apply HKeep.drop (by first|assumption|omega)))⟩
                unfold turnF
                rw [hlk]
                show (if (v : Int) = -1 then _ else _) = _
                rw [if_neg hc, Int.toNat_natCast, if_pos ⟨any_nat.2 ⟨v, rfl, hvm⟩, by unfold canS; rw [hf, decide_eq_true (by omega)]; rfl⟩]
theorem turn_c {w0 : World} {g : GaR} {ns : List Nat} {ds : List (Sl × List Nat)} {B gc cc : Nat} {ces : List (PKs × Value × Nat)} {ps : List PosR} {s : GS} {k : Option Nat} (h : RdGa w0 w0.heap.size g) (hv : validG g = true) (hp : Plain g ns ds B) (hgc : w0.heap[gc]? = some (mobj pkV ces cc)) (hM : CMap ps ces) (hs : s.In (gpOf ns ds)) (ht : s.turn < (gpOf ns ds).deps.length) (hk : okMove (gpOf ns ds) s k) :
    Calls Try.prog 81 #[.agg (plC g gc), .agg (pOf ns.length s).C, .int .i64 (chV k)] w0 (RetF w0.heap.size w0 (fun y : GS × Nat => .tuple #[.agg (pOf ns.length y.1).C, .int .i64 (y.2 : Int)]) (fun _ => []) (fun y => turnF (gpOf ns ds) (lookQ ps ns.length) (movS s k) = some y) ErrP []) :=
  (turn_c2 h hv hp hgc hM hs ht hk).mono (by
    rintro en w' (q | ⟨ch, h1, h2, h3⟩)
    · exact .inl q
    · exact .inr ⟨ch, h1, h2.1, h3⟩)
end Go.Proofs.Ytoogicafefennaa
/-
  Games, played: the parts of the recursion.
-/
namespace Go.Proofs.Ytoogicafefennaa
set_option linter.unusedVariables false
open Go.RowKit Go.Sy
set_option linter.unusedVariables false
set_option linter.unusedSimpArgs false
theorem ex_slice_hm {P : Program} {Be : Nat} {w0 : World} {H : Heap} {G : Bool} {e : Env} {ty t el sz : TypeId} {x y z : Operand} {A : Option Addr} {n c : Nat} {k k2 : IntKind} {h m : Nat} (h1 : Ev G e x (.slice A n c)) (h2 : Ev G e y (.int k (h : Int))) (h3 : Ev G e z (.int k2 (m : Int))) (hb : h ≤ m ∧ m ≤ c) [ht : TSlice P t el] [hs : TSize P el sz] :
    Ex P Be w0 H G e (.slice t x none (some y) (some z)) ty (.slice A h m) := by
  intro N a w o ho _ hf hh hG
  have he : P.elem t = el := by simp [Program.elem, ht.slice]
  simp only [execOp, ho, h1 N a hf hG, Option.map_none, Option.map_some, h2 N a hf hG, h3 N a hf hG, Instr.sliceAt, Sem.run_bind, run_underlying ht.slice, Result.andThen_ok]
  rw [run_slice_hm w t A n c (by rw [he]; exact ht.slice) k k2 h m (by omega) (by omega) (by omega), he, hs.run w]
  simp [sliced0]
/-- It returns, or panics with something of F. -/
def RetG {X : Type} (Be : Nat) (w0 : World) (V : X → Value) (HH : X → Heap) (I : X → Prop) (F : List PanicEntry → Prop) (IP : X → Prop) : Ending → World → Prop := fun en w' =>
  (∃ x, en = .returned (V x) ∧ I x ∧ Hp Be w0 (HH x) w') ∨ ∃ ch x, en = .panicked ch ∧ F ch ∧ IP x ∧ Hp Be w0 (HH x) w'
section
variable {P : Program} {N Be : Nat} {Q : Post} {e : Env} {w0 : World} {H H' : Heap} {fn : Func} {rs : Array ResultVar} {v : Value} {X : Type} {V : X → Value} {HH : X → Heap} {I IP : X → Prop} {F : List PanicEntry → Prop}
theorem retG_ok (hr : fn.results = rs) (h : Res rs P Be e w0 H' v) (hv : ∃ x, v = V x ∧ I x ∧ HKeep w0 (HH x) H') : retFQ P fn Be (RetG Be w0 V HH I F IP) .ret e w0 H' := by
  subst hr
  obtain ⟨x, rfl, hI, hk⟩ := hv
  exact ⟨_, h, fun w' hh => .inl ⟨x, rfl, hI, hh.sub hk⟩⟩
theorem endG_ok (hr : fn.results = rs) (h : Res rs P Be e w0 H' v) (hv : ∃ x, v = V x ∧ I x ∧ HKeep w0 (HH x) H') : retFQ P fn Be (RetG Be w0 V HH I F IP) .normal e w0 H' := by
  subst hr
  obtain ⟨x, rfl, hI, hk⟩ := hv
  exact ⟨_, h, fun w' hh => .inl ⟨x, rfl, hI, hh.sub hk⟩⟩
theorem retG_pan {ch : List PanicEntry} (hF : F ch) (hv : ∃ x, IP x ∧ HKeep w0 (HH x) H') : retFQ P fn Be (RetG Be w0 V HH I F IP) (.panic ch) e w0 H' := fun w' hh => by
  obtain ⟨x, hI, hk⟩ := hv
  exact .inr ⟨ch, x, rfl, hF, hI, hh.sub hk⟩
instance NoOut.retF {R : Ending → World → Prop} : NoOut (retFQ P fn Be R) := ⟨fun e w H h => h⟩
variable {ops : Array Oper} {rest : List Oper} {ty : TypeId} {pos : String} {after : Array Edge} {d : Nat}
/-- A call through a function value that changes a part of the blocks, or panics. -/
theorem spl_callGv {c : Operand} {f : FuncId} {first cap : List Value} {xs : List Operand} {ts : Array TypeId} {vs : List Value} [TFn P f] {AA : X → Heap} {A R : Heap} (hN : Nat.blt d N = true) (hcv : Ev true e c (.func (.func f) first.toArray cap.toArray)) (hx : Evs true e xs vs) (hs : Split H A R)
    (hc : ∀ w, Hp Be w0 (A ++ R) w → Calls P f (first ++ vs ++ cap).toArray w (RetG Be w0 V (fun x => AA x ++ R) I F IP))
    (kp : ∀ ch x, F ch → IP x → Q (.panic ch) e w0 (AA x ++ R)) (k : ∀ x, I x → Spl P N Be ops Q rest ((d, true, V x) :: e) w0 (AA x ++ R)) : Spl P N Be ops Q (⟨some d, .call ⟨.value c, xs.toArray, ts⟩, ty, pos, after, none⟩ :: rest) e w0 H := by
  intro a w hf hh
  have hd : d < N := by simpa [Nat.blt_eq] using hN
  refine wpList_plain rfl fun K hK => ?_
  unfold Oper.wp
  rw [exec_call (f := f) rfl (hcv N a hf rfl) (hx N a hf rfl), Oper.upon_enter]
  simp only [List.append_toArray]
  refine (hc w (hh.perm hs)).mono ?_
  rintro en w' (⟨x, rfl, hI, hw⟩ | ⟨ch, x, rfl, hF, hI, hw⟩)
  · exact hK _ _ (k x hI _ _ (hf.puttrue hd) hw)
  · exact ⟨e, w0, _, hf, hw, kp ch x hF hI⟩
end
/-! What a turn is worth. -/
theorem turn_next {G : GP} {look : GS → Option Int} {x : GS} {y : GS × Nat} (hG : G.Ok) (hx : x.In G) (ht : x.turn < G.deps.length) (h : turnF G look x = some y) : y.1.In G ∧ y.1.turn = x.turn + 1 ∧ y.2 ≤ 1 ∧ ∀ d, (bestF G d x).2 ≤ y.2 + worstF G d y.1 := by
  unfold turnF at h
  cases hl : look x with
  | none => rw [hl] at h; cases h
  | some c =>
    rw [hl] at h
    dsimp only at h
    by_cases hc : c = -1
    · rw [if_pos hc] at h
      cases h
      exact ⟨waitS_in hG hx ht, rfl, Nat.le_refl _, fun d => best_wait G d x⟩
    · rw [if_neg hc] at h
      split at h
      · rename_i hq
        cases h
        obtain ⟨v, rfl, hv⟩ := any_nat.1 hq.1
        have hm := hG.m
        have := hG.v _ _ hv
        rw [Int.toNat_natCast] at hq ⊢
        exact ⟨stepS_in hG hx ht (by omega), rfl, Nat.zero_le _, fun d => by have := best_step G d hv hq.2; show (bestF G d x).2 ≤ 0 + worstF G d (stepS x v); omega⟩
      · cases h
def idxK : Option Nat → Nat
  | none => 0
  | some i => i + 1
theorem moves_of {G : GP} {s x : GS} (hx : x ∈ movesL G.m s) : ∃ k, okMove G s k ∧ idxK k ≤ G.m ∧ x = movS s k := by
  unfold movesL at hx
  rcases List.mem_cons.1 hx with rfl | hx
  · exact ⟨none, fun i hi => (by cases hi), Nat.zero_le _, rfl⟩
  · split at hx
    · cases hx
    · rename_i hb
      obtain ⟨i, hi, rfl⟩ := List.mem_map.1 hx
      obtain ⟨h1, h2⟩ := List.mem_filter.1 hi
      have h3 := List.mem_range.1 h1
      refine ⟨some i, fun j hj => ?_, h3, rfl⟩
      cases hj
      refine ⟨h3, by omega, ?_⟩
      cases hf : gt s.failed i with
      | false => rfl
      | true => rw [hf] at h2; cases h2
/-! What the recursion finds. -/
structure GEnv (g : GaR) (gP gY gF gc l cc : Nat) (ces : List (PKs × Value × Nat)) (R : Heap) : Prop where
  mP : (gP, .cells (plC g gc) 92 (0, 0)) ∈ R
  mY : (gY, .cells #[.func (.yield l) #[] #[]] 30 (0, 0)) ∈ R
  mF : (gF, .cells #[.func (.func 87) #[] #[.pointer (some ⟨gP, 0, none⟩), .pointer (some ⟨gY, 0, none⟩), .pointer (some ⟨gF, 0, none⟩)]] 141 (0, 0)) ∈ R
  mC : (gc, mobj pkV ces cc) ∈ R
theorem GEnv.cons {g : GaR} {gP gY gF gc l cc : Nat} {ces : List (PKs × Value × Nat)} {R : Heap} {p : Nat × Obj} (h : GEnv g gP gY gF gc l cc ces R) : GEnv g gP gY gF gc l cc ces (p :: R) := ⟨.tail _ h.mP, .tail _ h.mY, .tail _ h.mF, .tail _ h.mC⟩
/-- A row that stands in R. -/
def RowIn (R : Heap) (A : Option Addr) (vs : List Value) (c : Nat) : Prop := (A = none ∧ vs = []) ∨ (vs.length ≤ c ∧ ∃ g cs T, A = some ⟨g, 0, none⟩ ∧ (g, Obj.cells cs T (0, 0)) ∈ R ∧ ∀ (j : Nat) (u : Value), vs[j]? = some u → cs[j]? = some u)
theorem RowIn.le {R : Heap} {A : Option Addr} {vs : List Value} {c : Nat} (h : RowIn R A vs c) : vs.length ≤ c := by
  rcases h with ⟨_, rfl⟩ | ⟨h, _⟩
  · exact Nat.zero_le _
  · exact h
theorem RowIn.cellsAt {Be : Nat} {w0 w : World} {R H : Heap} {A : Option Addr} {vs : List Value} {c : Nat} (h : RowIn R A vs c) (hs : ∀ p ∈ R, p ∈ H) (hh : Hp Be w0 H w) : CellsAt w A vs := by
  rcases h with ⟨_, rfl⟩ | ⟨_, g, cs, T, rfl, hm, hc⟩
  · exact CellsAt.nil
  · exact CellsAt.own (hh.own _ (hs _ hm)) hc
theorem clip_c {w : World} {A : Option Addr} {n c : Nat} (h : n ≤ c) : Calls Try.prog 88 #[.slice A n c] w (Ret w (.slice A n n)) := by
  refine sp_enter (vs := [_]) Try.func88 rfl Try.ntmps88 rfl ?_
  repeat (first|apply then_n|apply sp_seq|apply sp_region|apply spl_nil|apply sp_ret|((apply spl_pure rfl);(·(first|(apply ex_slice_hm (h:=n) (m:=n);(·exact eT rfl);(·exact eT rfl);(·exact eT rfl);(·exact ⟨Nat.le_refl _, h⟩))|((first|apply ex_move|apply ex_assign|apply ex_len)<;>(first|exact eT rfl|exact eC))))))
  (apply ret_ok rfl;(·((apply Res.ofOne;((apply Res1.tmp;(·rfl))))))); rfl
end Go.Proofs.Ytoogicafefennaa
/-
  Contracts: the recursion of player.games.
-/
namespace Go.Proofs.Ytoogicafefennaa
set_option linter.unusedVariables false
open Go.RowKit Go.Sy
set_option linter.unusedVariables false
set_option linter.unusedSimpArgs false
def FC (w0 : World) (g : GaR) (G : GP) (J : Int → Heap → Prop) (gP gY gF gc l cc : Nat) (ces : List (PKs × Value × Nat)) (d : Nat) : Prop := ∀ (s : GS) (A : Option Addr) (c : Nat) (vs : List Value) (n lost : Nat) (L : Int) (y R : Heap) (w : World), s.In G → s.turn + d = G.deps.length → GEnv g gP gY gF gc l cc ces R → RowIn R A vs c → vs.length = n → n + d ≤ 100 → lost + d ≤ 100 → J L y → Hp w0.heap.size w0 (y ++ R) w →
  Calls Try.prog 87 #[.agg (pOf G.m s).C, .slice A n c, .int .i64 (lost : Int), .pointer (some ⟨gP, 0, none⟩), .pointer (some ⟨gY, 0, none⟩), .pointer (some ⟨gF, 0, none⟩)] w (RetG w0.heap.size w0 (fun _ : Heap => .bool true) (fun y' => y' ++ R) (fun y' => ∃ L', J L' y' ∧ L ≤ L' ∧ ((lost + worstF G d s : Nat) : Int) ≤ L') ErrP (fun y' => ∃ L', J L' y'))
attribute [local irreducible] Calls thenQ blockQ retQ retFQ jumpQ Spc Spl Spq Ex Ev Evs Gd Upd ESub HKeep Res Res1 wlk effQ wlkP effP Rem SrcAt Split SplI YieldAt PK.C mobj PosR.C plC pOf lookQ worstF bestF CellsAt
set_option maxRecDepth 100000 in
set_option maxHeartbeats 16000000 in
theorem from_zero {w0 : World} {g : GaR} {ns : List Nat} {ds : List (Sl × List Nat)} {B gP gY gF gc l cc : Nat} {ces : List (PKs × Value × Nat)} {J : Int → Heap → Prop} (hG : (gpOf ns ds).Ok) (hN : (gpOf ns ds).deps.length = g.dl.n)
    (hY : ∀ (L : Int) (y R : Heap) (A : Option Addr) (n c lost : Nat), J L y → ∀ w, Hp w0.heap.size w0 (y ++ R) w → YieldAt Fence.wide 0 Try.prog l #[.slice A n c, .int .i64 (lost : Int)] w (RetX w0.heap.size w0 (fun _ : Heap => .bool true) (fun y' => y' ++ R) (fun y' => ∃ L', J L' y' ∧ L ≤ L' ∧ (lost : Int) ≤ L'))) : FC w0 g (gpOf ns ds) J gP gY gF gc l cc ces 0 := by
  intro s A c vs n lost L y R w hs ht hE hrow hvn hvl hlo hJ hh
  have hm6 : ns.length ≤ 6 := hG.m
  have hzs := pOf_size (m := ns.length) hs.ok
  have hs0 : (pOf ns.length s).C[0]? = some (.int .i64 (s.turn : Int)) := pOf_c0
  have hc1 : (plC g gc)[1]? = some (.slice g.dl.a g.dl.n g.dl.c) := by unfold plC; rfl
  have hte : (s.turn : Int) = (g.dl.n : Int) := by omega
  haveI : InH R gP (.cells (plC g gc) 92 (0, 0)) := ⟨hE.mP⟩
  haveI : InH R gY (.cells #[.func (.yield l) #[] #[]] 30 (0, 0)) := ⟨hE.mY⟩
  have hw0 : worstF (gpOf ns ds) 0 s = 0 := by unfold worstF; rfl
  refine sp_enterF (vs := [_, _, _, _, _, _]) Try.func87 rfl Try.ntmps87 rfl hh ?_
  repeat (first|(apply sp_regionI (id:=2))|(apply spi_pure rfl;(·(first|((apply ex_move)<;>(exact eT rfl))|((apply ex_loadown)<;>(first|exact eT rfl|exact Bk.own InH.mem|rfl))));(·rfl))|(apply spi_yield2 rfl;(·exact eT rfl);(·exact eT rfl);(·exact eT rfl);(·exact fun w' hh => hY L y _ A n c lost hJ w' (hh.perm List.perm_middle.symm));(·rfl);(intro y2 hy2))|apply then_n|apply sp_seq|apply sp_region|apply spl_nil|apply then_r|((apply sp_cond_t);(·exact eT rfl);(·(rfl)))|apply sp_ret|((apply spl_pure rfl);(·(first|(apply ex_eqlT hte;(·exact eT rfl);(·exact eT rfl))|((first|apply ex_assign|apply ex_fieldAddr'|apply ex_len)<;>(first|exact eT rfl|exact eC))|((apply ex_loadown)<;>(first|exact eT rfl|exact Bk.own InH.mem|assumption)))))|(apply spl_box;(·exact eT rfl);(·rfl);intro _ _))
  obtain ⟨L2, hJ2, hL2, hl2⟩ := hy2
  (apply retG_ok rfl;(·((apply Res.ofOne;((apply Res1.tmp;(·rfl)))))))
  exact ⟨y2, rfl, ⟨L2, hJ2, hL2, by rw [hw0]; exact hl2⟩, by (repeat (first|exact HKeep.refl|(apply HKeep.app;(·(repeat (exact Split.here))))|apply HKeep.drop (by first|assumption|omega)))⟩
theorem row_new {R : Heap} {gn cap2 n : Nat} {vs tail : List Value} {v : Value} {T : TypeId} (hc : n + 1 ≤ cap2) (hn : vs.length = n) : RowIn ((gn, .cells (vs ++ [v] ++ tail).toArray T (0, 0)) :: R) (some ⟨gn, 0, none⟩) (vs ++ [v]) cap2 := by
  refine .inr ⟨by rw [List.length_append, hn]; exact hc, gn, _, _, rfl, .head _, fun j u hj => ?_⟩
  rw [List.getElem?_toArray, List.getElem?_append_left (List.getElem?_eq_some_iff.1 hj).1]
  exact hj
/-- How far the loop is. -/
structure FI (G : GP) (J : Int → Heap → Prop) (s : GS) (d lost : Nat) (L : Int) (j : Nat) (L' : Int) (y : Heap) : Prop where
  le : j ≤ G.m + 1
  J : J L' y
  L : L ≤ L'
  all : ∀ k, okMove G s k → idxK k < j → ((lost + (bestF G d (movS s k)).2 : Nat) : Int) ≤ L'
theorem FI.next {G : GP} {J : Int → Heap → Prop} {s : GS} {d lost : Nat} {L L' L2 : Int} {j : Nat} {y y2 : Heap} (h : FI G J s d lost L j L' y) (hj : j < G.m + 1) (hJ : J L2 y2) (hL : L' ≤ L2) (hk : ∀ k, okMove G s k → idxK k = j → ((lost + (bestF G d (movS s k)).2 : Nat) : Int) ≤ L2) : FI G J s d lost L (j + 1) L2 y2 := by
  refine ⟨hj, hJ, Int.le_trans h.L hL, fun k hok hi => ?_⟩
  by_cases he : idxK k = j
  · exact hk k hok he
  · exact Int.le_trans (h.all k hok (by omega)) hL
theorem FI.end {G : GP} {J : Int → Heap → Prop} {s : GS} {d lost : Nat} {L L' : Int} {y : Heap} (h : FI G J s d lost L (G.m + 1) L' y) : ((lost + worstF G (d + 1) s : Nat) : Int) ≤ L' := by
  have h0 := h.all none (fun i hi => by cases hi) (Nat.succ_pos _)
  have hw : worstF G (d + 1) s ≤ (L' - lost).toNat := worst_max fun x hx => by
    obtain ⟨k, hok, hi, rfl⟩ := moves_of hx
    have := h.all k hok (by omega)
    omega
  omega
theorem idx_none {k : Option Nat} (h : idxK k = 0) : k = none := by
  cases k with
  | none => rfl
  | some i => cases h
theorem idx_some {k : Option Nat} {i : Nat} (h : idxK k = i + 1) : k = some i := by
  cases k with
  | none => cases h
  | some j => injection h with h; exact congrArg some h
set_option maxRecDepth 100000 in
set_option maxHeartbeats 32000000 in
theorem from_succ {w0 : World} {g : GaR} {ns : List Nat} {ds : List (Sl × List Nat)} {B gP gY gF gc l cc d : Nat} {ces : List (PKs × Value × Nat)} {ps : List PosR} {J : Int → Heap → Prop} (h : RdGa w0 w0.heap.size g) (hv : validG g = true) (hp : Plain g ns ds B) (hM : CMap ps ces)
    (hJf : ∀ L y, J L y → ∀ p ∈ y, w0.heap.size ≤ p.1) (hF : FC w0 g (gpOf ns ds) J gP gY gF gc l cc ces d) : FC w0 g (gpOf ns ds) J gP gY gF gc l cc ces (d + 1) := by
  intro s A c vs n lost L y R w hs ht hE hrow hvn hvl hlo hJ hh
  have hG := hp.ok (gaOk_of hv) h
  have hN : (gpOf ns ds).deps.length = g.dl.n := by
    have := h.rows.len
    rw [hp.ds, List.length_map] at this
    show (ds.map Prod.snd).length = _
    rw [List.length_map, this]
  have hm6 : ns.length ≤ 6 := hG.m
  have hmm : (gpOf ns ds).m = ns.length := rfl
  have hnc : n ≤ c := by rw [← hvn]; exact hrow.le
  have htl : s.turn < (gpOf ns ds).deps.length := by omega
  have hzs := pOf_size (m := ns.length) hs.ok
  have hs0 : (pOf ns.length s).C[0]? = some (.int .i64 (s.turn : Int)) := pOf_c0
  have hs1 : (pOf ns.length s).C[1]? = some (.int .i64 (ns.length : Int)) := pOf_c1
  have hs2 : (pOf ns.length s).C[2]? = some (.int .i64 (s.budget : Int)) := pOf_c2
  have hc1 : (plC g gc)[1]? = some (.slice g.dl.a g.dl.n g.dl.c) := by unfold plC; rfl
  have hz4 : (plC g gc).size = 4 := by unfold plC; rfl
  have hte : (s.turn : Int) ≠ (g.dl.n : Int) := by omega
  haveI : InH R gP (.cells (plC g gc) 92 (0, 0)) := ⟨hE.mP⟩
  haveI : InH R gY (.cells #[.func (.yield l) #[] #[]] 30 (0, 0)) := ⟨hE.mY⟩
  haveI : InH R gF (.cells #[.func (.func 87) #[] #[.pointer (some ⟨gP, 0, none⟩), .pointer (some ⟨gY, 0, none⟩), .pointer (some ⟨gF, 0, none⟩)]] 141 (0, 0)) := ⟨hE.mF⟩
  haveI : InH R gc (mobj pkV ces cc) := ⟨hE.mC⟩
  refine sp_enterF (vs := [_, _, _, _, _, _]) Try.func87 rfl Try.ntmps87 rfl hh ?_
  repeat (first|apply then_n|apply sp_seq|apply sp_region|apply spl_nil|(apply sp_cond_f;(·exact eT rfl);(·(rfl)))|apply sp_skip|apply sp_block|((apply spl_pure rfl);(·(first|(apply ex_eqlF hte;(·exact eT rfl);(·exact eT rfl))|((first|apply ex_assign|apply ex_fieldAddr'|apply ex_len)<;>(first|exact eT rfl|exact eC))|((apply ex_loadown)<;>(first|exact eT rfl|exact Bk.own InH.mem|assumption)))))|(apply spl_box;(·exact eT rfl);(·rfl);intro _ _))
  rename_i g6 hg6
  refine sp_loop (X := Nat × Int × Heap) (fun z => [(10, true, .int .i64 ((z.1 : Int) - 1)), (6, true, .pointer (some ⟨g6, 0, none⟩)), (9, true, .bool false), (1, true, .slice A n c), (2, true, .int .i64 (lost : Int)), (3, true, .pointer (some ⟨gP, 0, none⟩)), (4, true, .pointer (some ⟨gY, 0, none⟩)), (5, true, .pointer (some ⟨gF, 0, none⟩))]) (fun _ => w0) (fun z => (g6, .cells (pOf ns.length s).C 132 (0, 0)) :: (z.2.2 ++ R)) (fun z => FI (gpOf ns ds) J s d lost L z.1 z.2.1 z.2.2) (fun z => ns.length + 1 - z.1) (0, L, y) ⟨Nat.zero_le _, hJ, Int.le_refl _, fun k _ hi => absurd hi (Nat.not_lt_zero _)⟩ (by (repeat (first|exact ESub.nil|apply ESub.cons rfl))) rfl (by (repeat (exact HKeep.refl))) ?_
  clear hJ hh y
  rintro ⟨j, L', y⟩ hI
  dsimp only at hI ⊢
  have hJ' := hI.J
  have hyf := hJf L' y hJ'
  by_cases hlt : j < ns.length + 1
  · have hlt' : (j : Int) - 1 < (ns.length : Int) := by omega
    have hinc : (j : Int) - 1 + 1 = ((j + 1 : Nat) : Int) - 1 := by omega
    cases j with
    | zero =>
      have hok : okMove (gpOf ns ds) s none := fun i hi => by cases hi
      have hj0 : ((0 : Nat) : Int) - 1 = -1 := rfl
      have hge : ¬ (0 : Int) ≤ -1 := by omega
      rw [hj0] at hlt' hinc ⊢
      have hxm := okMove_in hs hok
      have hxi := (moves_in hs hxm).1
      have hxt : (movS s none).turn < (gpOf ns ds).deps.length := by rw [(moves_in hs hxm).2]; exact htl
      have htc := fun (H : Heap) (w' : World) (hh : Hp w0.heap.size w0 H w') (hm : (gc, mobj pkV ces cc) ∈ H) => turn_c (k := none) (h.hp hh) hv hp (hh.own _ hm) hM hs htl hok
      repeat (first|(apply sp_cond_f;(·exact eT rfl);(·rfl))|(refine spl_callhF (I := fun y => turnF (gpOf ns ds) (lookQ ps ns.length) (movS s none) = some y) (HH := fun _ => []) (F := ErrP) rfl ?_ (fun w' hh => htc _ w' hh InH.mem) ?_ ?_;(·(repeat (first|exact eN|(apply eS;(·exact eT rfl)))));(·(intro ch hch;(repeat (first|apply then_p|apply block_p));exact retG_pan hch ⟨y, ⟨L', hJ'⟩, by (repeat (first|exact HKeep.refl|(apply HKeep.app;(·(repeat (first|exact Split.here|apply Split.cons))))|apply HKeep.drop (by first|assumption|omega)))⟩));(rintro ⟨x', one⟩ hto -;obtain ⟨hti, htt, hone, hbest⟩ := turn_next hG hxi hxt hto;have hzt := pOf_size (m := ns.length) hti.ok;simp only [List.nil_append]))|apply then_n|apply sp_seq|apply sp_region|apply spl_nil|((apply sp_cond_t);(·exact eT rfl);(·(rfl)))|apply sp_skip|apply sp_block|((first|apply spl_pure rfl|(apply spl_pure_g rfl;(·(first|exact Gd.tt rfl rfl|exact Gd.gf rfl rfl))));(·(first|(exact ex_off rfl)|(apply ex_lssT hlt';(·exact eT rfl);(·exact eT rfl))|(apply ex_geqF hge;(·exact eT rfl);(·exact eC))|((first|apply ex_move|apply ex_assign|apply ex_fieldAddr'|apply ex_andT)<;>(first|exact eT rfl|exact eG rfl))|((first|apply ex_loadown|apply ex_extract)<;>(first|exact eT rfl|exact Bk.own InH.mem|rfl|assumption))|((apply ex_loadowns)<;>(first|exact eT rfl|exact Bk.own InH.mem|(assumption))))))|(apply spl_alloc rfl;intro _ _)|(apply spl_stores;(·exact eT rfl);(·exact eT rfl);(·(repeat (exact Upd.here)));(·(rfl));(·(assumption));(·exact Ones.one)))
      rename_i g11 hg11
      have htd : x'.turn + d = (gpOf ns ds).deps.length := by rw [htt, (moves_in hs hxm).2]; omega
      have hsum : (lost : Int) + (one : Int) = ((lost + one : Nat) : Int) := by omega
      refine sp_drawnP (.rd 0 (.rd 1 (.rd 2 (.rd 4 (.rd 7 (.rd 8 (.rd 9 (.fk 3 5 (.ef 5 (.ef 6 (.ef 10 (.rd 11 .nil)))) (.ef 3 (.ef 6 (.ef 10 (.rd 11 .nil)))))))))))) 12 [] ((g11, .cells (pOf ns.length x').C 132 (0, 0)) :: (g6, .cells (pOf ns.length s).C 132 (0, 0)) :: R) mixed (by kernel_rfl) rfl (HKeep.keep (HKeep.keep (HKeep.dropA hyf HKeep.refl))) ?_
      have hnext : ∀ L2 y2, J L2 y2 → L' ≤ L2 → ((lost + one + worstF (gpOf ns ds) d x' : Nat) : Int) ≤ L2 → FI (gpOf ns ds) J s d lost L (0 + 1) L2 y2 := fun L2 y2 hJ2 hL2 hw2 => hI.next hlt hJ2 hL2 (fun k hok2 hik => by
        have hb2 : (bestF (gpOf ns ds) d (movS s none)).2 ≤ one + worstF (gpOf ns ds) d x' := hbest d
        rw [idx_none hik]
        omega)
      repeat (first|apply wlp_fork rfl rfl|(refine ⟨(0 + 1, L2, y2), hnext L2 y2 hJ2 hL2 hw2, ?_, ?_, rfl, ?_⟩;(·(show ns.length + 1 - (0 + 1) < ns.length + 1 - 0;omega));(·(repeat (first|exact ESub.nil|apply ESub.cons rfl)));(·(repeat (first|exact HKeep.refl|(apply HKeep.app;(·(repeat (exact Split.here))))|(apply HKeep.pick;(·(repeat (first|exact Rem.here|apply Rem.there|apply Rem.app))))|apply HKeep.drop (by first|assumption|omega)))))|(apply spl_callp rfl;(·(repeat (first|exact eN|(apply eS;(·exact eT rfl)))));(·exact fun w' hh => clip_c hnc))|(apply spl_buildSlice (d := 55) rfl;(·rfl);(·(repeat (first|exact eN|(apply eS;(·exact eT rfl)))));(·rfl);(·rfl);(·rfl);intro gb hgb)|(refine spl_append_grow (olds := vs) (news := [Value.int .i64 (-1)]) (m := 1) (by (exact eT rfl)) (by (exact eT rfl)) (fun w' hh => hrow.cellsAt InSub.sub hh) (by omega) (fun w' hh => SrcAt.slice (CellsAt.own hh.ownI (fun j u hj => by rw [List.getElem?_toArray]; simpa [Value.cells] using hj)) rfl rfl (fun q hq => by rw [List.mem_singleton.1 hq]; rfl)) (by omega) (by omega) rfl rfl rfl rfl ?_;intro gn cap2 tail2 hgn hcap2 hlen2)|(apply spl_callGv (f:=87) (first:=[]) (cap:=[.pointer (some ⟨gP, 0, none⟩), .pointer (some ⟨gY, 0, none⟩), .pointer (some ⟨gF, 0, none⟩)]) (X:=Heap) (V:=fun _ => .bool true) (A:=y) (AA:=fun y' => y') (I:=fun y' => ∃ L2, J L2 y' ∧ L' ≤ L2 ∧ ((lost + one + worstF (gpOf ns ds) d x' : Nat) : Int) ≤ L2) (IP:=fun y' => ∃ L2, J L2 y') (F:=ErrP) (R:=(gn, .cells (vs ++ [Value.int .i64 (-1)] ++ tail2).toArray 3 (0, 0)) :: (gb, .cells #[Value.int .i64 (-1)] 3 (0, 0)) :: (g11, .cells (pOf ns.length x').C 132 (0, 0)) :: (g6, .cells (pOf ns.length s).C 132 (0, 0)) :: R) rfl;(·exact eT rfl);(·(repeat (first|exact eN|(apply eS;(·exact eT rfl)))));(·exact Split.cons (Split.cons (Split.cons (Split.cons Split.here))));(·exact fun w2 hh2 => hF x' _ cap2 (vs ++ [Value.int .i64 (-1)]) (n + 1) (lost + one) L' y _ w2 hti htd hE.cons.cons.cons.cons (row_new hcap2 hvn) (by rw [List.length_append, hvn]; rfl) (by omega) (by omega) hJ' hh2);(·(intro ch y2 hch hI2;obtain ⟨L2, hJ2⟩ := hI2;have hyf2 := hJf L2 y2 hJ2;(repeat (first|apply then_p|apply block_p|(apply effp_p;(·(repeat (exact ESub.nil))))));exact retG_pan hch ⟨y2, ⟨L2, hJ2⟩, by (repeat (first|exact HKeep.refl|(apply HKeep.app;(·(repeat (exact Split.here))))|apply HKeep.drop (by first|assumption|omega)))⟩));(rintro y2 ⟨L2, hJ2, hL2, hw2⟩;have hyf2 := hJf L2 y2 hJ2))|((apply wlp_read rfl rfl);(·(first|(apply ex_addK hsum;(·exact eT rfl);(·exact eT rfl);(·(constructor<;>omega)))|((first|apply ex_move|apply ex_not)<;>(exact eT rfl))|((apply ex_loadown)<;>(first|exact eT rfl|exact Bk.own InH.mem|rfl))|((apply ex_loadowns)<;>(first|exact eT rfl|exact Bk.own InH.mem|(assumption))))))|apply wlp_nil|apply wlp_eff rfl|(apply effp;(·(intro h_;((repeat (first|exact HKeep.refl|apply HKeep.keep|(apply HKeep.pick;(·(repeat (first|exact Rem.here|apply Rem.there|apply Rem.app))))|apply HKeep.drop (by first|assumption|omega)|apply HKeep.dropA (by assumption)))))))|apply then_n|apply block_n|apply sp_region|apply spl_nil|(apply sp_cond_f;(·exact eT rfl);(·(exact decide_eq_false (by omega))))|apply sp_skip|((apply spl_pure rfl);(·(first|(apply ex_addK hinc;(·exact eT rfl);(·exact eC);(·(constructor<;>omega)))|((first|apply ex_move|apply ex_assign)<;>(exact eT rfl))))))
    | succ i =>
      have hi6 : i < 6 := by omega
      have hji : ((i + 1 : Nat) : Int) - 1 = (i : Int) := by omega
      have hge : (0 : Int) ≤ (i : Int) := by omega
      rw [hji] at hlt' hinc ⊢
      have hs9 : (pOf ns.length s).C[9 + i]? = some (.bool (gt s.failed i)) := pOf_c9 hs.ok hi6
      by_cases hb : s.budget = 0
      · have hbz : (s.budget : Int) = 0 := by omega
        repeat (first|(apply sp_cond_t;(·exact eT rfl);(·rfl))|apply then_n|apply sp_seq|apply sp_region|apply spl_nil|apply then_e|apply block_here|apply sp_skip|apply sp_exit|apply sp_block|((first|apply spl_pure rfl|(apply spl_pure_g rfl;(·(first|exact Gd.tt rfl rfl|exact Gd.tf rfl rfl))));(·(first|(exact ex_off rfl)|(apply ex_lssT hlt';(·exact eT rfl);(·exact eT rfl))|(apply ex_geqT hge;(·exact eT rfl);(·exact eC))|(apply ex_eqlT hbz;(·exact eT rfl);(·exact eC))|(apply ex_addK hinc;(·exact eT rfl);(·exact eC);(·(constructor<;>omega)))|((first|apply ex_move|apply ex_assign|apply ex_fieldAddr'|apply ex_andT)<;>(exact eT rfl))|((apply ex_orT)<;>(first|exact eT rfl|exact eG rfl))|((apply ex_loadown)<;>(first|exact eT rfl|exact Bk.own InH.mem|assumption))))))
        exact ⟨(i + 2, L', y), hI.next hlt hJ' (Int.le_refl _) (fun k hok hik => by
          have := (hok i (idx_some hik)).2.1
          omega), by (show ns.length + 1 - (i + 2) < ns.length + 1 - (i + 1); omega), (by (repeat (first|exact ESub.nil|apply ESub.cons rfl))), rfl, (by (repeat (exact HKeep.refl)))⟩
      · have hbz : (s.budget : Int) ≠ 0 := by omega
        cases hf : gt s.failed i with
        | true =>
          rw [hf] at hs9
          repeat (first|(apply sp_cond_t;(·exact eT rfl);(·rfl))|apply then_n|apply sp_seq|apply sp_region|apply spl_nil|apply then_e|apply block_here|apply sp_skip|apply sp_exit|apply sp_block|((first|apply spl_pure rfl|(apply spl_pure_g rfl;(·(first|exact Gd.tt rfl rfl|exact Gd.tf rfl rfl))));(·(first|(apply ex_lssT hlt';(·exact eT rfl);(·exact eT rfl))|(apply ex_geqT hge;(·exact eT rfl);(·exact eC))|(apply ex_eqlF hbz;(·exact eT rfl);(·exact eC))|(apply ex_indexAddrK (j:=9+i);(·exact eT rfl);(·exact eT rfl);(·exact hi6);(·omega))|(apply ex_addK hinc;(·exact eT rfl);(·exact eC);(·(constructor<;>omega)))|((first|apply ex_move|apply ex_assign|apply ex_fieldAddr'|apply ex_andT)<;>(exact eT rfl))|((apply ex_orT)<;>(exact eT rfl))|((apply ex_loadown)<;>(first|exact eT rfl|exact Bk.own InH.mem|assumption))))))
          exact ⟨(i + 2, L', y), hI.next hlt hJ' (Int.le_refl _) (fun k hok hik => by
            have := (hok i (idx_some hik)).2.2
            rw [hf] at this
            cases this), by (show ns.length + 1 - (i + 2) < ns.length + 1 - (i + 1); omega), (by (repeat (first|exact ESub.nil|apply ESub.cons rfl))), rfl, (by (repeat (exact HKeep.refl)))⟩
        | false =>
          rw [hf] at hs9
          have hok : okMove (gpOf ns ds) s (some i) := fun i' hi' => by
            cases hi'
            exact ⟨by omega, by omega, hf⟩
          have hxm := okMove_in hs hok
          have hxi := (moves_in hs hxm).1
          have hxt : (movS s (some i)).turn < (gpOf ns ds).deps.length := by rw [(moves_in hs hxm).2]; exact htl
          have htc := fun (H : Heap) (w' : World) (hh : Hp w0.heap.size w0 H w') (hm : (gc, mobj pkV ces cc) ∈ H) => turn_c (k := (some i)) (h.hp hh) hv hp (hh.own _ hm) hM hs htl hok
          repeat (first|(apply sp_cond_f;(·exact eT rfl);(·rfl))|(refine spl_callhF (I := fun y => turnF (gpOf ns ds) (lookQ ps ns.length) (movS s (some i)) = some y) (HH := fun _ => []) (F := ErrP) rfl ?_ (fun w' hh => htc _ w' hh InH.mem) ?_ ?_;(·(repeat (first|exact eN|(apply eS;(·exact eT rfl)))));(·(intro ch hch;(repeat (first|apply then_p|apply block_p));exact retG_pan hch ⟨y, ⟨L', hJ'⟩, by (repeat (first|exact HKeep.refl|(apply HKeep.app;(·(repeat (first|exact Split.here|apply Split.cons))))|apply HKeep.drop (by first|assumption|omega)))⟩));(rintro ⟨x', one⟩ hto -;obtain ⟨hti, htt, hone, hbest⟩ := turn_next hG hxi hxt hto;have hzt := pOf_size (m := ns.length) hti.ok;simp only [List.nil_append]))|apply then_n|apply sp_seq|apply sp_region|apply spl_nil|((apply sp_cond_t);(·exact eT rfl);(·(rfl)))|apply sp_skip|apply sp_block|((first|apply spl_pure rfl|(apply spl_pure_g rfl;(·(first|exact Gd.tt rfl rfl|exact Gd.tf rfl rfl))));(·(first|(apply ex_lssT hlt';(·exact eT rfl);(·exact eT rfl))|(apply ex_geqT hge;(·exact eT rfl);(·exact eC))|(apply ex_eqlF hbz;(·exact eT rfl);(·exact eC))|(apply ex_indexAddrK (j:=9+i);(·exact eT rfl);(·exact eT rfl);(·exact hi6);(·omega))|((first|apply ex_move|apply ex_assign|apply ex_fieldAddr'|apply ex_andT)<;>(exact eT rfl))|((apply ex_orT)<;>(exact eT rfl))|((first|apply ex_loadown|apply ex_extract)<;>(first|exact eT rfl|exact Bk.own InH.mem|rfl|assumption))|((apply ex_loadowns)<;>(first|exact eT rfl|exact Bk.own InH.mem|(assumption))))))|(apply spl_alloc rfl;intro _ _)|(apply spl_stores;(·exact eT rfl);(·exact eT rfl);(·(repeat (exact Upd.here)));(·(rfl));(·(assumption));(·exact Ones.one)))
          rename_i g11 hg11
          have htd : x'.turn + d = (gpOf ns ds).deps.length := by rw [htt, (moves_in hs hxm).2]; omega
          have hsum : (lost : Int) + (one : Int) = ((lost + one : Nat) : Int) := by omega
          refine sp_drawnP (.rd 0 (.rd 1 (.rd 2 (.rd 4 (.rd 7 (.rd 8 (.rd 9 (.fk 3 5 (.ef 5 (.ef 6 (.ef 10 (.rd 11 .nil)))) (.ef 3 (.ef 6 (.ef 10 (.rd 11 .nil)))))))))))) 12 [] ((g11, .cells (pOf ns.length x').C 132 (0, 0)) :: (g6, .cells (pOf ns.length s).C 132 (0, 0)) :: R) mixed (by kernel_rfl) rfl (HKeep.keep (HKeep.keep (HKeep.dropA hyf HKeep.refl))) ?_
          have hnext : ∀ L2 y2, J L2 y2 → L' ≤ L2 → ((lost + one + worstF (gpOf ns ds) d x' : Nat) : Int) ≤ L2 → FI (gpOf ns ds) J s d lost L ((i + 1) + 1) L2 y2 := fun L2 y2 hJ2 hL2 hw2 => hI.next hlt hJ2 hL2 (fun k hok2 hik => by
            have hb2 : (bestF (gpOf ns ds) d (movS s (some i))).2 ≤ one + worstF (gpOf ns ds) d x' := hbest d
            rw [idx_some hik]
            omega)
          repeat (first|apply wlp_fork rfl rfl|(refine ⟨((i + 1) + 1, L2, y2), hnext L2 y2 hJ2 hL2 hw2, ?_, ?_, rfl, ?_⟩;(·(show ns.length + 1 - ((i + 1) + 1) < ns.length + 1 - (i + 1);omega));(·(repeat (first|exact ESub.nil|apply ESub.cons rfl)));(·(repeat (first|exact HKeep.refl|(apply HKeep.app;(·(repeat (exact Split.here))))|(apply HKeep.pick;(·(repeat (first|exact Rem.here|apply Rem.there|apply Rem.app))))|apply HKeep.drop (by first|assumption|omega)))))|(apply spl_callp rfl;(·(repeat (first|exact eN|(apply eS;(·exact eT rfl)))));(·exact fun w' hh => clip_c hnc))|(apply spl_buildSlice (d := 55) rfl;(·rfl);(·(repeat (first|exact eN|(apply eS;(·exact eT rfl)))));(·rfl);(·rfl);(·rfl);intro gb hgb)|(refine spl_append_grow (olds := vs) (news := [Value.int .i64 (i : Int)]) (m := 1) (by (exact eT rfl)) (by (exact eT rfl)) (fun w' hh => hrow.cellsAt InSub.sub hh) (by omega) (fun w' hh => SrcAt.slice (CellsAt.own hh.ownI (fun j u hj => by rw [List.getElem?_toArray]; simpa [Value.cells] using hj)) rfl rfl (fun q hq => by rw [List.mem_singleton.1 hq]; rfl)) (by omega) (by omega) rfl rfl rfl rfl ?_;intro gn cap2 tail2 hgn hcap2 hlen2)|(apply spl_callGv (f:=87) (first:=[]) (cap:=[.pointer (some ⟨gP, 0, none⟩), .pointer (some ⟨gY, 0, none⟩), .pointer (some ⟨gF, 0, none⟩)]) (X:=Heap) (V:=fun _ => .bool true) (A:=y) (AA:=fun y' => y') (I:=fun y' => ∃ L2, J L2 y' ∧ L' ≤ L2 ∧ ((lost + one + worstF (gpOf ns ds) d x' : Nat) : Int) ≤ L2) (IP:=fun y' => ∃ L2, J L2 y') (F:=ErrP) (R:=(gn, .cells (vs ++ [Value.int .i64 (i : Int)] ++ tail2).toArray 3 (0, 0)) :: (gb, .cells #[Value.int .i64 (i : Int)] 3 (0, 0)) :: (g11, .cells (pOf ns.length x').C 132 (0, 0)) :: (g6, .cells (pOf ns.length s).C 132 (0, 0)) :: R) rfl;(·exact eT rfl);(·(repeat (first|exact eN|(apply eS;(·exact eT rfl)))));(·exact Split.cons (Split.cons (Split.cons (Split.cons Split.here))));(·exact fun w2 hh2 => hF x' _ cap2 (vs ++ [Value.int .i64 (i : Int)]) (n + 1) (lost + one) L' y _ w2 hti htd hE.cons.cons.cons.cons (row_new hcap2 hvn) (by rw [List.length_append, hvn]; rfl) (by omega) (by omega) hJ' hh2);(·(intro ch y2 hch hI2;obtain ⟨L2, hJ2⟩ := hI2;have hyf2 := hJf L2 y2 hJ2;(repeat (first|apply then_p|apply block_p|(apply effp_p;(·(repeat (exact ESub.nil))))));exact retG_pan hch ⟨y2, ⟨L2, hJ2⟩, by (repeat (first|exact HKeep.refl|(apply HKeep.app;(·(repeat (exact Split.here))))|apply HKeep.drop (by first|assumption|omega)))⟩));(rintro y2 ⟨L2, hJ2, hL2, hw2⟩;have hyf2 := hJf L2 y2 hJ2))|((apply wlp_read rfl rfl);(·(first|(apply ex_addK hsum;(·exact eT rfl);(·exact eT rfl);(·(constructor<;>omega)))|((first|apply ex_move|apply ex_not)<;>(exact eT rfl))|((apply ex_loadown)<;>(first|exact eT rfl|exact Bk.own InH.mem|rfl))|((apply ex_loadowns)<;>(first|exact eT rfl|exact Bk.own InH.mem|(assumption))))))|apply wlp_nil|apply wlp_eff rfl|(apply effp;(·(intro h_;((repeat (first|exact HKeep.refl|apply HKeep.keep|(apply HKeep.pick;(·(repeat (first|exact Rem.here|apply Rem.there|apply Rem.app))))|apply HKeep.drop (by first|assumption|omega)|apply HKeep.dropA (by assumption)))))))|apply then_n|apply block_n|apply sp_region|apply spl_nil|(apply sp_cond_f;(·exact eT rfl);(·(rfl)))|apply sp_skip|((apply spl_pure rfl);(·(first|(apply ex_addK hinc;(·exact eT rfl);(·exact eC);(·(constructor<;>omega)))|((first|apply ex_move|apply ex_assign)<;>(exact eT rfl))))))
  · have hje : j = ns.length + 1 := by have := hI.le; omega
    subst hje
    have hlt' : ¬ ((ns.length + 1 : Nat) : Int) - 1 < (ns.length : Int) := by omega
    repeat (first|(apply sp_cond_f;(·exact eT rfl);(·rfl))|apply then_n|apply sp_seq|apply sp_region|apply spl_nil|apply then_e|apply block_here|apply sp_ret|apply sp_exit|((apply spl_pure rfl);(·(first|(apply ex_lssF hlt';(·exact eT rfl);(·exact eT rfl))|((first|apply ex_move|apply ex_assign|apply ex_fieldAddr')<;>(first|exact eT rfl|exact eC))|((apply ex_loadown)<;>(first|exact eT rfl|exact Bk.own InH.mem|assumption))))))
    (apply retG_ok rfl;(·((apply Res.ofOne;((apply Res1.tmp;(·rfl)))))))
    exact ⟨y, rfl, ⟨L', hJ', hI.L, hI.end⟩, by (repeat (first|exact HKeep.refl|(apply HKeep.app;(·(repeat (first|exact Split.here|apply Split.cons))))|apply HKeep.drop (by first|assumption|omega)))⟩
end Go.Proofs.Ytoogicafefennaa
/-
  Contracts: player.games.
-/
namespace Go.Proofs.Ytoogicafefennaa
set_option linter.unusedVariables false
open Go.RowKit Go.Sy
set_option linter.unusedVariables false
set_option linter.unusedSimpArgs false
instance zf_from : TZero Try.prog 141 .nilFunc := ⟨by kernel_rfl⟩
attribute [local irreducible] Calls thenQ blockQ retQ retFQ jumpQ Spc Spl Spq Ex Ev Evs Gd Upd ESub HKeep Res Res1 wlk effQ wlkP effP Rem SrcAt Split SplI YieldAt PK.C mobj PosR.C plC pOf lookQ worstF bestF CellsAt
set_option maxRecDepth 100000 in
theorem games_c {w : World} {g : GaR} {gc : Nat} : Calls Try.prog 49 #[.agg (plC g gc)] w (RetH w (fun gP : Nat => .func (.func 86) #[] #[.pointer (some ⟨gP, 0, none⟩)]) (fun gP => [(gP, .cells (plC g gc) 92 (0, 0))]) (fun _ => True)) := by
  have hz4 : (plC g gc).size = 4 := by unfold plC; rfl
  refine sp_enter (vs := [_]) Try.func49 rfl Try.ntmps49 rfl ?_
  repeat (first|apply then_n|apply sp_seq|apply sp_region|apply spl_nil|apply sp_ret|((apply spl_pure rfl);(·(first|(apply ex_assign<;>(first|exact eT rfl|exact eC))|(apply ex_makeFunc<;>(((repeat (first|exact eN|(apply eS;(·exact eT rfl))));done))))))|(apply spl_box;(·exact eT rfl);(·rfl);intro _ _))
  rename_i gP hgP
  (apply retH_ok rfl;(·((apply Res.ofOne;((apply Res1.tmp;(·rfl)))))))
  exact ⟨gP, rfl, trivial, by (repeat (exact HKeep.refl))⟩
theorem from_all {w0 : World} {g : GaR} {ns : List Nat} {ds : List (Sl × List Nat)} {B gP gY gF gc l cc : Nat} {ces : List (PKs × Value × Nat)} {ps : List PosR} {J : Int → Heap → Prop} (h : RdGa w0 w0.heap.size g) (hv : validG g = true) (hp : Plain g ns ds B) (hM : CMap ps ces)
    (hJf : ∀ L y, J L y → ∀ p ∈ y, w0.heap.size ≤ p.1) (hY : ∀ (L : Int) (y R : Heap) (A : Option Addr) (n c lost : Nat), J L y → ∀ w, Hp w0.heap.size w0 (y ++ R) w → YieldAt Fence.wide 0 Try.prog l #[.slice A n c, .int .i64 (lost : Int)] w (RetX w0.heap.size w0 (fun _ : Heap => .bool true) (fun y' => y' ++ R) (fun y' => ∃ L', J L' y' ∧ L ≤ L' ∧ (lost : Int) ≤ L'))) : ∀ d, FC w0 g (gpOf ns ds) J gP gY gF gc l cc ces d
  | 0 => from_zero (hp.ok (gaOk_of hv) h) (by
      have := h.rows.len
      rw [hp.ds, List.length_map] at this
      show (ds.map Prod.snd).length = _
      rw [List.length_map, this]) hY (B := B)
  | d + 1 => from_succ h hv hp hM hJf (from_all h hv hp hM hJf hY d)
set_option maxRecDepth 100000 in
set_option maxHeartbeats 8000000 in
theorem iterP_c {w0 : World} {g : GaR} {ns : List Nat} {ds : List (Sl × List Nat)} {B gP gc l cc : Nat} {ces : List (PKs × Value × Nat)} {ps : List PosR} {J : Int → Heap → Prop} (h : RdGa w0 w0.heap.size g) (hv : validG g = true) (hp : Plain g ns ds B) (hM : CMap ps ces)
    (hJf : ∀ L y, J L y → ∀ p ∈ y, w0.heap.size ≤ p.1) (hY : ∀ (L : Int) (y R : Heap) (A : Option Addr) (n c lost : Nat), J L y → ∀ w, Hp w0.heap.size w0 (y ++ R) w → YieldAt Fence.wide 0 Try.prog l #[.slice A n c, .int .i64 (lost : Int)] w (RetX w0.heap.size w0 (fun _ : Heap => .bool true) (fun y' => y' ++ R) (fun y' => ∃ L', J L' y' ∧ L ≤ L' ∧ (lost : Int) ≤ L')))
    {L : Int} {y R : Heap} (hmP : (gP, .cells (plC g gc) 92 (0, 0)) ∈ R) (hmC : (gc, mobj pkV ces cc) ∈ R) (hJ : J L y) {w : World} (hh : Hp w0.heap.size w0 (y ++ R) w) :
    Calls Try.prog 86 #[.func (.yield l) #[] #[], .pointer (some ⟨gP, 0, none⟩)] w (RetG w0.heap.size w0 (fun _ : Heap => .tuple #[]) (fun y' => y' ++ R) (fun y' => ∃ L', J L' y' ∧ ((valueN ns ds B : Nat) : Int) ≤ L') ErrP (fun y' => ∃ L', J L' y')) := by
  have hk := gaOk_of hv
  have hG := hp.ok hk h
  have hs0 := hp.start hk h
  have hz4 : (plC g gc).size = 4 := by unfold plC; rfl
  have hyf := hJf L y hJ
  have hdl : 0 + ds.length = (gpOf ns ds).deps.length := by show 0 + ds.length = (ds.map Prod.snd).length; rw [List.length_map]; omega
  have hdn := hG.n
  haveI : InH R gP (.cells (plC g gc) 92 (0, 0)) := ⟨hmP⟩
  have hbg := fun (H : Heap) (w' : World) (hh : Hp w0.heap.size w0 H w') => begin_c (gc := gc) (h.hp hh) hv hp
  refine sp_enterF (vs := [_, _]) Try.func86 rfl Try.ntmps86 rfl hh ?_
  repeat (first|apply then_n|apply sp_seq|apply sp_region|apply spl_nil|((apply spl_pure rfl);(·((apply ex_makeFunc<;>(((repeat (first|exact eN|(apply eS;(·exact eT rfl))));done))))))|(apply spl_box;(·exact eT rfl);(·rfl);intro _ _)|(apply spl_alloc rfl;intro _ _)|(apply spl_store1;(·exact eT rfl);(·exact eT rfl);(·rfl);(·(repeat (exact Upd.here)));(·rfl)))
  rename_i gY hgY gF hgF
  refine sp_drawnP (.rd 0 (.rd 1 (.ef 2 (.ef 3 .nil)))) 4 [] ((gF, .cells #[.func (.func 87) #[] #[.pointer (some ⟨gP, 0, none⟩), .pointer (some ⟨gY, 0, none⟩), .pointer (some ⟨gF, 0, none⟩)]] 141 (0, 0)) :: (gY, .cells #[.func (.yield l) #[] #[]] 30 (0, 0)) :: R) mixed (by kernel_rfl) rfl (HKeep.keep (HKeep.keep (HKeep.dropA hyf HKeep.refl))) ?_
  repeat (first|(apply spl_callp rfl;(·(repeat (first|exact eN|(apply eS;(·exact eT rfl)))));(·exact fun w' hh => hbg _ w' hh))|(apply spl_callGv (f:=87) (first:=[]) (cap:=[.pointer (some ⟨gP, 0, none⟩), .pointer (some ⟨gY, 0, none⟩), .pointer (some ⟨gF, 0, none⟩)]) (X:=Heap) (V:=fun _ => .bool true) (A:=y) (AA:=fun y' => y') (I:=fun y' => ∃ L2, J L2 y' ∧ L ≤ L2 ∧ ((0 + worstF (gpOf ns ds) ds.length (gs0 ns B) : Nat) : Int) ≤ L2) (IP:=fun y' => ∃ L2, J L2 y') (F:=ErrP) (R:=(gF, .cells #[.func (.func 87) #[] #[.pointer (some ⟨gP, 0, none⟩), .pointer (some ⟨gY, 0, none⟩), .pointer (some ⟨gF, 0, none⟩)]] 141 (0, 0)) :: (gY, .cells #[.func (.yield l) #[] #[]] 30 (0, 0)) :: R) rfl;(·exact eT rfl);(·(repeat (first|exact eN|(apply eS;(·(first|exact eT rfl|exact eC))))));(·exact Split.cons (Split.cons Split.here));(·exact fun w2 hh2 => from_all h hv hp hM hJf hY ds.length (gs0 ns B) none 0 [] 0 0 L y _ w2 hs0 hdl ⟨.tail _ (.tail _ hmP), .tail _ (.head _), .head _, .tail _ (.tail _ hmC)⟩ (.inl ⟨rfl, rfl⟩) rfl (by omega) (by omega) hJ hh2);(·(intro ch y2 hch hI2;obtain ⟨L2, hJ2⟩ := hI2;have hyf2 := hJf L2 y2 hJ2;(repeat ((apply effp_p;(·(repeat (exact ESub.nil))))));exact retG_pan hch ⟨y2, ⟨L2, hJ2⟩, by (repeat (first|exact HKeep.refl|(apply HKeep.app;(·(repeat (exact Split.here))))|apply HKeep.drop (by first|assumption|omega)))⟩));(rintro y2 ⟨L2, hJ2, hL2, hw2⟩;have hyf2 := hJf L2 y2 hJ2))|((apply wlp_read rfl rfl);(·(first|(apply ex_loadown<;>(first|exact eT rfl|exact Bk.own InH.mem|rfl))|(apply ex_loadowns<;>(first|exact eT rfl|exact Bk.own InH.mem|(assumption))))))|apply wlp_nil|apply wlp_eff rfl|(apply effp;(·(intro h_;((repeat (first|exact HKeep.refl|apply HKeep.keep|(apply HKeep.pick;(·(repeat (first|exact Rem.here|apply Rem.app))))|apply HKeep.dropA (by assumption)))))))|apply spl_nil)
  (apply endG_ok rfl;(·exact Res.none_))
  exact ⟨y2, rfl, ⟨L2, hJ2, by rw [Nat.zero_add] at hw2; exact hw2⟩, by (repeat (first|exact HKeep.refl|(apply HKeep.app;(·(repeat (exact Split.here))))|apply HKeep.drop (by first|assumption|omega)))⟩
end Go.Proofs.Ytoogicafefennaa
/-
  Functions that range over a function, defer, and recover.
-/
namespace Go.Sy
set_option linter.unusedVariables false
open Go.RowKit Go.Proofs.Ytoogicafefennaa
set_option linter.unusedVariables false
set_option linter.unusedSimpArgs false
section
variable {P : Program} {D : List Deferred} {N Be : Nat} {Q : PostM} {e : Env} {w0 : World} {H : Heap}
/-- What is asked where such a function leaves. -/
def leaveMQ (P : Program) (fn : Func) (Be : Nat) (R : Ending → World → Prop) : PostM := fun D x e w0 H =>
  match x with
  | .ret | .normal => ∀ a w', Fr fn.ntmps e a → Hp Be w0 H w' → LeavesInM Fence.wide 0 P fn a.tmps R D .returning w'
  | .panic ch => ∀ a w', Fr fn.ntmps e a → Hp Be w0 H w' → LeavesInM Fence.wide 0 P fn a.tmps R D (.panicking ch) w'
  | _ => False
instance NoOut.leaveM {fn : Func} {R : Ending → World → Prop} : NoOut (leaveMQ P fn Be R D) := ⟨fun e w H h => h⟩
theorem leaveM_r {fn : Func} {R : Ending → World → Prop} (h : ∀ a w', Fr fn.ntmps e a → Hp Be w0 H w' → LeavesInM Fence.wide 0 P fn a.tmps R D .returning w') : leaveMQ P fn Be R D .ret e w0 H := h
theorem leaveM_p {fn : Func} {R : Ending → World → Prop} {ch : List PanicEntry} (h : ∀ a w', Fr fn.ntmps e a → Hp Be w0 H w' → LeavesInM Fence.wide 0 P fn a.tmps R D (.panicking ch) w') : leaveMQ P fn Be R D (.panic ch) e w0 H := h
theorem sp_enterG {f : FuncId} {fn : Func} {c : Code} {vs : List Value} {w : World} {R : Ending → World → Prop} (hf : P.funcs[f]? = some fn) (hb : fn.body = some c) (hN : fn.ntmps = N) (hl : Nat.ble vs.length N = true)
    (h : SpcM none [] P N w.heap.size c (leaveMQ P fn w.heap.size R) (envOf 0 vs) w []) : Calls P f vs.toArray w R := by
  subst hN
  refine callsIn_wide.1 (callsIn_of_wp_marks (F := Fence.wide) (n := 0) hf hb trivial (wpIn_mono (wd_nil _ ▸ h { tmps := vs.toArray ++ Array.replicate (fn.ntmps - vs.toArray.size) undef, defers := [] } w ?_ (Hp.start w) : Code.wpIn Fence.wide 0 P c _ _ w) ?_))
  · rintro x a w' ⟨e, w0, H, h1, h2, h3⟩
    cases x with
    | normal => exact h3 { a with defers := [] } w' h1 h2
    | ret => exact h3 { a with defers := [] } w' h1 h2
    | panic ch => exact h3 { a with defers := [] } w' h1 h2
    | exit _ => exact h3.elim
    | goto _ => exact h3.elim
    | outgrown => exact h3.elim
  · have hl' : vs.length ≤ fn.ntmps := Nat.le_of_ble_eq_true hl
    refine ⟨rfl, by simp; omega, fun k g v hk => ?_⟩
    obtain ⟨rfl, _, h3⟩ := look_envOf vs 0 k g v hk
    simp only [Nat.sub_zero] at h3
    have hk : k < vs.length := (List.getElem?_eq_some_iff.1 h3).1
    simp [Array.getElem?_append, hk, gv]
    have := (List.getElem?_eq_some_iff.1 h3).2
    simpa using this
/-- The statement, where the function ranged over may panic. -/
theorem spm_rangeFuncP {g : Operand} {ps : Array Tmp} {assign body : Code} {gf : FuncId} {caps : List Value} [TFn P gf] {X : Type} {V : X → Value} {HX : X → Heap} {I IP : X → Prop} {F : List PanicEntry → Prop} (hg : Ev true e g (.func (.func gf) #[] caps.toArray))
    (hcall : ∀ fn tmps l d0, Fr N e { tmps := tmps, defers := [] } → w0.heap.size ≤ l → w0.heap.size ≤ d0 → ∀ w, Hp Be w0 ((l, .loop { state := .ready, pending := none, fn, tmps, params := ps, assign, body, defers := d0 }) :: (d0, .deferred (some [])) :: H) w →
      Calls P gf (Value.func (.yield l) #[] #[] :: caps).toArray w (RetG Be w0 V (fun x => (l, .loop { state := .ready, pending := none, fn, tmps, params := ps, assign, body, defers := d0 }) :: (d0, .deferred (some [])) :: HX x) I F IP))
    (k : ∀ d0 x, I x → w0.heap.size ≤ d0 → Q ({ target := .collected d0, args := #[] } :: D) .normal e w0 ((d0, .deferred (some [])) :: HX x))
    (kp : ∀ d0 ch x, F ch → IP x → w0.heap.size ≤ d0 → Q ({ target := .collected d0, args := #[] } :: D) (.panic ch) e w0 ((d0, .deferred (some [])) :: HX x)) :
    SpcM none D P N Be (.rangeFunc g ps assign body) Q e w0 H := by
  intro a w hf hh
  refine wpIn_rangeFunc fun fn hfn => ?_
  have hga : (wd a D).eval g = .func (.func gf) #[] caps.toArray := hg N a hf rfl
  obtain ⟨W1, hW1⟩ : ∃ W1, (w.alloc (.deferred (some []))).alloc (.loop { state := .ready, pending := none, fn, tmps := a.tmps, params := ps, assign, body, defers := w.heap.size }) = W1 := ⟨_, rfl⟩
  have hH1 := (hh.alloc (.deferred (some []))).alloc (.loop { state := .ready, pending := none, fn, tmps := a.tmps, params := ps, assign, body, defers := w.heap.size })
  have hsz : (w.alloc (.deferred (some []))).heap.size = w.heap.size + 1 := by simp
  rw [hsz, hW1] at hH1
  have hle := hh.size
  have hfr : Fr N e { tmps := a.tmps, defers := [] } := ⟨rfl, hf.size, hf.get⟩
  refine ⟨w.heap.size + 1, [{ target := .collected w.heap.size, args := #[] }], W1, { target := .fn (.func gf) caps.toArray, args := #[.func (.yield (w.heap.size + 1)) #[] #[]] }, W1, gf,
    (Value.func (.yield (w.heap.size + 1)) #[] #[] :: caps).toArray, W1, ?_, ?_, fun _ _ => trivial, ?_, fun h => (by cases h), ?_⟩
  · rw [← hW1]; exact run_enterLoop_outer _ _ _ _ _
  · simp only [resolve, hga]
    simp [go_sem]
  · have : (invoke (.fn (.func gf) caps.toArray) #[.func (.yield (w.heap.size + 1)) #[] #[]]) = callFunc gf (#[.func (.yield (w.heap.size + 1)) #[] #[]] ++ caps.toArray) := rfl
    rw [this]
    have h2 : (#[.func (.yield (w.heap.size + 1)) #[] #[]] ++ caps.toArray : Array Value) = (Value.func (.yield (w.heap.size + 1)) #[] #[] :: caps).toArray := by simp
    rw [h2]
    exact TFn.run W1 _
  · have hd := hf.defers
    have ha : ({ wd a D with defers := [{ target := .collected w.heap.size, args := #[] }] ++ (wd a D).defers } : Act) = wd a ({ target := .collected w.heap.size, args := #[] } :: D) := by
      simp [wd, hd]
    rw [ha]
    refine callsIn_at ((hcall fn a.tmps (w.heap.size + 1) w.heap.size hfr (by omega) hle W1 hH1).mono ?_)
    rintro en w2 (⟨x, rfl, hI, hp⟩ | ⟨ch, x, rfl, hF, hI, hp⟩)
    · have hl := hp.own _ (.head _)
      have hend := run_endLoop (P := P) hl (by simp)
      refine ⟨_, _, hend, ?_⟩
      have hp2 := (hp.putObj (o' := .loop { state := .exhausted, pending := none, fn, tmps := a.tmps, params := ps, assign, body, defers := w.heap.size }) Upd.here).drop (show w0.heap.size ≤ (w.heap.size + 1, Obj.loop { state := .exhausted, pending := none, fn, tmps := a.tmps, params := ps, assign, body, defers := w.heap.size }).1 by show w0.heap.size ≤ w.heap.size + 1; omega)
      exact liftM_of hf hp2 (k w.heap.size x hI hle)
    · have hp2 := hp.drop (show w0.heap.size ≤ w.heap.size + 1 by omega)
      exact liftM_of hf hp2 (kp w.heap.size ch x hF hI hle)
/-- 'defer' of a closure without arguments. -/
theorem spm_defer {id d : Nat} {f : FuncId} {cap : List Operand} {cs : List Value} {ts : Array TypeId} {ty ty' : TypeId} {pos pos' : String} {after after' : Array Edge} (hN : Nat.blt d N = true) (hc : Evs true e cap cs)
    (h : Q ({ target := .fn (.func f) cs.toArray, args := #[] } :: D) .normal ((d, true, .func (.func f) #[] cs.toArray) :: e) w0 H) :
    SpcM none D P N Be (.region id #[⟨some d, .makeFunc (.func f) #[] cap.toArray, ty, pos, after, none⟩, ⟨none, .defer ⟨.value (.tmp d), #[], ts⟩, ty', pos', after', none⟩] false) Q e w0 H := by
  intro a w hf hh
  have hd : d < N := by simpa [Nat.blt_eq] using hN
  have hx := ex_makeFunc (P := P) (Be := Be) (w0 := w0) (H := H) (fn := .func f) (ty := ty) (first := []) Evs.nil hc
  refine wpIn_region_lit (l := [_, _]) ?_
  refine wpListIn_plain rfl fun K hK => ⟨fun _ _ => trivial, ?_⟩
  have he : (wd a D).eval = a.eval := rfl
  rw [show (fenceAt none).round = none from rfl, Oper.semAt_none, he, hx N a w _ rfl rfl hf hh rfl, Oper.uponIn_value]
  refine hK _ _ ?_
  rw [wd_put]
  have hf2 := hf.puttrue (v := .func (.func f) #[] cs.toArray) hd
  refine wpListIn_plain rfl fun K hK => ⟨fun _ _ => trivial, ?_⟩
  have hev : (wd (a.put (some d) (.func (.func f) #[] cs.toArray)) D).eval (.tmp d) = .func (.func f) #[] cs.toArray := by
    show (a.put (some d) (.func (.func f) #[] cs.toArray)).eval (.tmp d) = _
    exact (Ev.tmpT (by simp [look]) : Ev true ((d, true, .func (.func f) #[] cs.toArray) :: e) (.tmp d) (.func (.func f) #[] cs.toArray)) N _ hf2 rfl
  have hr : (execOp (wd (a.put (some d) (.func (.func f) #[] cs.toArray)) D).eval ⟨none, .defer ⟨.value (.tmp d), #[], ts⟩, ty', pos', after', none⟩).run P w = .ok (.defer { target := .fn (.func f) cs.toArray, args := #[] }) w := by
    simp only [execOp, resolve, hev]
    simp [Deferred.ofValue]
  rw [show (⟨some d, Op.makeFunc (.func f) #[] cap.toArray, ty, pos, after, none⟩ : Oper).dst = some d from rfl]
  rw [show (fenceAt none).round = none from rfl, Oper.semAt_none, hr, Oper.uponIn_defer]
  refine hK _ _ ?_
  refine ⟨_, w0, H, ⟨rfl, ?_, hf2.get⟩, hh, ?_⟩
  · exact hf2.size
  · show Q ({ target := .fn (.func f) cs.toArray, args := #[] } :: ((a.put (some d) _).defers ++ D)) .normal _ w0 H
    rw [hf2.defers]
    exact h
/-- 'defer' of a function, with one argument. -/
theorem spm_deferF {id : Nat} {f : FuncId} {x : Operand} {v : Value} {ts : Array TypeId} {ty' : TypeId} {pos' : String} {after' : Array Edge} (hx : Ev true e x v)
    (h : Q ({ target := .fn (.func f) #[], args := #[v] } :: D) .normal e w0 H) :
    SpcM none D P N Be (.region id #[⟨none, .defer ⟨.value (.func f), #[x], ts⟩, ty', pos', after', none⟩] false) Q e w0 H := by
  intro a w hf hh
  refine wpIn_region_lit (l := [_]) ?_
  refine wpListIn_plain rfl fun K hK => ⟨fun _ _ => trivial, ?_⟩
  have hev : (wd a D).eval x = v := hx N a hf rfl
  have hr : (execOp (wd a D).eval ⟨none, .defer ⟨.value (.func f), #[x], ts⟩, ty', pos', after', none⟩).run P w = .ok (.defer { target := .fn (.func f) #[], args := #[v] }) w := by
    have hfe : (wd a D).eval (.func f) = .func (.func f) #[] #[] := rfl
    simp only [execOp, resolve, hfe, hev, List.map_toArray, List.map_cons, List.map_nil]
    simp [Deferred.ofValue, hev]
  rw [show (fenceAt none).round = none from rfl, Oper.semAt_none, hr, Oper.uponIn_defer]
  refine hK _ _ ?_
  refine ⟨e, w0, H, ⟨rfl, hf.size, hf.get⟩, hh, ?_⟩
  show Q ({ target := .fn (.func f) #[], args := #[v] } :: (a.defers ++ D)) .normal e w0 H
  rw [hf.defers]
  exact h
end
section
variable {P : Program} {N Be : Nat} {e : Env} {w0 : World} {H : Heap}
theorem fr_args {fn : Func} {vs : List Value} (hN : fn.ntmps = N) (hl : Nat.ble vs.length N = true) : Fr N (envOf 0 vs) { tmps := vs.toArray ++ Array.replicate (fn.ntmps - vs.toArray.size) undef, defers := [] } := by
  have hl' : vs.length ≤ N := Nat.le_of_ble_eq_true hl
  refine ⟨rfl, by simp [hN]; omega, fun k g v hk => ?_⟩
  obtain ⟨rfl, _, h3⟩ := look_envOf vs 0 k g v hk
  simp only [Nat.sub_zero] at h3
  have hk : k < vs.length := (List.getElem?_eq_some_iff.1 h3).1
  simp [Array.getElem?_append, hk, gv]
  have := (List.getElem?_eq_some_iff.1 h3).2
  simpa using this
/-- A deferred call that recovers. -/
theorem callsDI_rec {f : FuncId} {fn : Func} {c : Code} {id d : Nat} {ts : Array TypeId} {ty : TypeId} {pos : String} {after : Array Edge} {vs : List Value} {w : World} {R : Ending → World → Prop} {v : Value} {older : List PanicEntry} (hf : P.funcs[f]? = some fn) (hb : fn.body = some (.seq (.region id #[⟨some d, .call ⟨.builtin .recover, #[], ts⟩, ty, pos, after, none⟩] false) c)) (hN : fn.ntmps = N) (hd : Nat.blt d N = true) (hl : Nat.ble vs.length N = true) (hh : Hp Be w0 H w)
    (h : Spc P N Be c (retQ P fn Be R) ((d, true, v) :: envOf 0 vs) w0 H) :
    CallsDIn Fence.wide 0 P f vs.toArray (.panicking ({ v, recovered := false } :: older)) w fun en u' w' => u' = .panicking ({ v, recovered := true } :: older) ∧ R en w' := by
  have hd' : d < N := by simpa [Nat.blt_eq] using hd
  refine callsDIn_of_wpSIn hf hb trivial fun c₀ cs hu => ?_
  apply wpSIn_seq
  apply wpSIn_region
  show wpOpsSIn Fence.wide 0 P _ _ [0] _ _ _
  have hw : ∀ (ops : Array Oper) (tmps : Array Value), Region.wanted ⟨some d, .call ⟨.builtin .recover, #[], ts⟩, ty, pos, after, none⟩ (yielded ops tmps) = true := fun _ _ => by simp [Region.wanted]
  have hrc : recoverD (c₀ :: cs) = some (v, { c₀ with mode := .panicking ({ v, recovered := true } :: older) } :: cs) := by
    simp only [recoverD, hu]
  simp only [wpOpsSIn, List.getElem?_toArray, List.getElem?_cons_zero, hw, if_true, recover_run, hrc]
  refine ⟨fun _ _ => trivial, ?_⟩
  show Exit.thenS _ _ .normal _ _ w
  refine wpSIn_of_wpIn rfl (wpIn_wide.2 (wp_mono (h _ w ((fr_args hN hl).puttrue hd') hh) ?_))
  rintro x a w' ⟨e, w0, H, h1, h2, h3⟩
  cases x with
  | normal => obtain ⟨u, hv, hR⟩ := h3; exact ⟨h1.defers, _, rfl, u, hv _ _ _ fn rfl h1 h2, rfl, hR w' h2⟩
  | ret => obtain ⟨u, hv, hR⟩ := h3; exact ⟨h1.defers, _, rfl, u, hv _ _ _ fn rfl h1 h2, rfl, hR w' h2⟩
  | exit _ => exact h3.elim
  | goto _ => exact h3.elim
  | panic _ => exact h3.elim
  | outgrown => exact h3.elim
theorem callsDI_idle {f : FuncId} {fn : Func} {c : Code} {id d : Nat} {ts : Array TypeId} {ty : TypeId} {pos : String} {after : Array Edge} {vs : List Value} {w : World} {R : Ending → World → Prop} (hf : P.funcs[f]? = some fn) (hb : fn.body = some (.seq (.region id #[⟨some d, .call ⟨.builtin .recover, #[], ts⟩, ty, pos, after, none⟩] false) c)) (hN : fn.ntmps = N) (hd : Nat.blt d N = true) (hl : Nat.ble vs.length N = true) (hh : Hp Be w0 H w)
    (h : Spc P N Be c (retQ P fn Be R) ((d, true, .nilIface) :: envOf 0 vs) w0 H) :
    CallsDIn Fence.wide 0 P f vs.toArray .returning w fun en u' w' => u' = .returning ∧ R en w' := by
  have hd' : d < N := by simpa [Nat.blt_eq] using hd
  refine callsDIn_of_wpSIn hf hb trivial fun c₀ cs hu => ?_
  apply wpSIn_seq
  apply wpSIn_region
  show wpOpsSIn Fence.wide 0 P _ _ [0] _ _ _
  have hw : ∀ (ops : Array Oper) (tmps : Array Value), Region.wanted ⟨some d, .call ⟨.builtin .recover, #[], ts⟩, ty, pos, after, none⟩ (yielded ops tmps) = true := fun _ _ => by simp [Region.wanted]
  have hrc : recoverD (c₀ :: cs) = none := by
    simp only [recoverD, hu]
  simp only [wpOpsSIn, List.getElem?_toArray, List.getElem?_cons_zero, hw, if_true, recover_run, hrc]
  refine ⟨fun _ _ => trivial, ?_⟩
  show Exit.thenS _ _ .normal _ _ w
  refine wpSIn_of_wpIn rfl (wpIn_wide.2 (wp_mono (h _ w ((fr_args hN hl).puttrue hd') hh) ?_))
  have hc : ({ c₀ with mode := .returning } : Frame) = c₀ := by cases c₀; simp only at hu; subst hu; rfl
  rintro x a w' ⟨e, w0, H, h1, h2, h3⟩
  cases x with
  | normal => obtain ⟨u, hv, hR⟩ := h3; exact ⟨h1.defers, .returning, by rw [hc], u, hv _ _ _ fn rfl h1 h2, rfl, hR w' h2⟩
  | ret => obtain ⟨u, hv, hR⟩ := h3; exact ⟨h1.defers, .returning, by rw [hc], u, hv _ _ _ fn rfl h1 h2, rfl, hR w' h2⟩
  | exit _ => exact h3.elim
  | goto _ => exact h3.elim
  | panic _ => exact h3.elim
  | outgrown => exact h3.elim
/-- A deferred call that asks for no panic. -/
theorem callsDI_plain {f : FuncId} {fn : Func} {c : Code} {vs : List Value} {w : World} {R : Ending → World → Prop} {u : FrameMode} (hf : P.funcs[f]? = some fn) (hb : fn.body = some c) (hN : fn.ntmps = N) (hl : Nat.ble vs.length N = true) (hh : Hp Be w0 H w)
    (h : Spc P N Be c (retQ P fn Be R) (envOf 0 vs) w0 H) : CallsDIn Fence.wide 0 P f vs.toArray u w fun en u' w' => u' = u ∧ R en w' := by
  refine callsDIn_of_wp hf hb trivial (wpIn_wide.2 (wp_mono (h _ w (fr_args hN hl) hh) ?_))
  rintro x a w' ⟨e, w0, H, h1, h2, h3⟩
  cases x with
  | normal => obtain ⟨v, hv, hR⟩ := h3; exact ⟨h1.defers, v, hv _ _ _ fn rfl h1 h2, hR w' h2⟩
  | ret => obtain ⟨v, hv, hR⟩ := h3; exact ⟨h1.defers, v, hv _ _ _ fn rfl h1 h2, hR w' h2⟩
  | exit _ => exact h3.elim
  | goto _ => exact h3.elim
  | panic _ => exact h3.elim
  | outgrown => exact h3.elim
/-! Leaving, step by step. -/
def Lv (P : Program) (fn : Func) (tmps : Array Value) (R : Ending → World → Prop) (Be : Nat) (w0 : World) (D : List Deferred) (u : FrameMode) (H : Heap) : Prop := ∀ w', Hp Be w0 H w' → LeavesInM Fence.wide 0 P fn tmps R D u w'
theorem lv_mark {fn : Func} {tmps : Array Value} {R : Ending → World → Prop} {D : List Deferred} {u : FrameMode} {d0 : Nat} {H' : Heap} (hu : u ≠ .run) (hd : Upd H d0 (.deferred (some [])) (.deferred none) H') (k : Lv P fn tmps R Be w0 D u H') : Lv P fn tmps R Be w0 ({ target := .collected d0, args := #[] } :: D) u H := fun w' hh =>
  ⟨hu, .inl ⟨d0, _, rfl, run_takeDeferred (hh.own _ hd.mem), k _ (hh.putObj hd)⟩⟩
theorem lv_fn {fn : Func} {tmps : Array Value} {R : Ending → World → Prop} {D : List Deferred} {u u2 u3 : FrameMode} {f : FuncId} {cs args : List Value} [TFn P f] {H2 : Heap} {v : Value} (hu : u ≠ .run) (hs : settle u2 = u3)
    (hc : ∀ w', Hp Be w0 H w' → CallsDIn Fence.wide 0 P f (args ++ cs).toArray u w' fun en u' w2 => u' = u2 ∧ RetX Be w0 (fun _ : Unit => v) (fun _ => H2) (fun _ => True) en w2) (k : Lv P fn tmps R Be w0 D u3 H2) : Lv P fn tmps R Be w0 ({ target := .fn (.func f) cs.toArray, args := args.toArray } :: D) u H := fun w' hh =>
  ⟨hu, .inr ⟨fun h => (by cases h), .func f, cs.toArray, f, (args ++ cs).toArray, rfl, by
    show (callFunc f (args.toArray ++ cs.toArray)).run P w' = _
    rw [TFn.run w', List.append_toArray], fun _ _ => trivial, (hc w' hh).mono (by
      rintro en u' w2 ⟨rfl, x, rfl, -, hw2⟩
      show LeavesInM Fence.wide 0 P fn tmps R D (settle u') w2
      rw [hs]
      exact k w2 hw2)⟩⟩
theorem lv_nil {fn : Func} {rs : Array ResultVar} {a : Act} {R : Ending → World → Prop} {v : Value} (hr : fn.results = rs) (hf : Fr fn.ntmps e a) (h : Res rs P Be e w0 H v) (k : ∀ w', Hp Be w0 H w' → R (.returned v) w') : Lv P fn a.tmps R Be w0 [] .returning H := fun w' hh =>
  ⟨v, h _ a w' fn hr hf hh, k w' hh⟩
end
end Go.Sy
/-
  Contracts: play.Worst.
-/
namespace Go.Proofs.Ytoogicafefennaa
set_option linter.unusedVariables false
open Go.RowKit Go.Sy
set_option linter.unusedVariables false
set_option linter.unusedSimpArgs false
theorem ex_ifnil {P : Program} {Be : Nat} {w0 : World} {H : Heap} {G : Bool} {e : Env} {ty t u t' : TypeId} {x : Operand} {v : Value} (ht : P.underlying t = some (.interface (P.methodsAt t))) (h : Ev G e x (.iface u v)) : Ex P Be w0 H G e (.binOp .eql t x (.const .nilIface) t') ty (.bool false) := by
  intro N a w o ho _ hf hh hG
  have h2 := run_eql_held_nil w t u v ht
  have h3 : (eqGuard .eql t x (.const .nilIface) (.iface u v) .nilIface).run P w = .ok () w := rfl
  simp only [execOp, ho, h N a hf hG, ev_const, Sem.run_bind, h2, h3, Result.andThen_ok, Sem.run_pure]
theorem ex_nilnil {P : Program} {Be : Nat} {w0 : World} {H : Heap} {G : Bool} {e : Env} {ty t t' : TypeId} {x : Operand} (ht : P.underlying t = some (.interface (P.methodsAt t))) (h : Ev G e x .nilIface) : Ex P Be w0 H G e (.binOp .eql t x (.const .nilIface) t') ty (.bool true) := by
  intro N a w o ho _ hf hh hG
  have h2 := run_eql_nil_nil w t ht
  have h3 : (eqGuard .eql t x (.const .nilIface) .nilIface .nilIface).run P w = .ok () w := by cases x <;> rfl
  simp only [execOp, ho, h N a hf hG, ev_const, Sem.run_bind, h2, h3, Result.andThen_ok, Sem.run_pure]
theorem ex_typeAssertI {P : Program} {Be : Nat} {w0 : World} {H : Heap} {G : Bool} {e : Env} {ty t xt : TypeId} {q : IntKind} {x : Operand} {v : Value} [ht : TInt P t q] (h : Ev G e x (.iface t v)) : Ex P Be w0 H G e (.typeAssert x xt t true) ty (.tuple #[v, .bool true]) := by
  intro N a w o ho _ hf hh hG
  simp only [execOp, ho, h N a hf hG, Instr.typeAssert, Sem.run_bind, run_underlying ht.int, Result.andThen_ok]
  simp only [if_true]; rfl
def rangeWo (f : Func) : Code × Code := match f.body with | some (.seq _ (.seq _ (.seq _ (.seq _ (.seq _ (.seq (.seq _ (.block _ (.rangeFunc _ _ a b))) _)))))) => (a, b) | _ => (.skip, .skip)
attribute [local irreducible] Calls thenQ blockQ retQ retFQ jumpQ Spc Spl Spq Ex Ev Evs Gd Upd ESub HKeep Res Res1 wlk effQ wlkP effP Rem SrcAt Split SplI SpcM YieldAt markQ rndQ asgQ leaveMQ PK.C mobj PosR.C plC pOf lookQ worstF bestF CellsAt validG
set_option maxRecDepth 100000 in
set_option maxHeartbeats 2000000 in
theorem stuck_rec {Be : Nat} {w0 w : World} {g6 : Nat} {n : Int} {p q r : Nat × Obj} {R : Heap} (hh : Hp Be w0 (p :: q :: r :: (g6, .cells #[.int .i64 0] 26 (0, 0)) :: R) w) :
    CallsDIn Fence.wide 0 Try.prog 47 #[.pointer (some ⟨g6, 0, none⟩)] (.panicking (errE n)) w
      fun en u' w' => u' = .panicking [{ v := .iface 26 (.int .i64 n), recovered := true }] ∧ RetX Be w0 (fun _ : Unit => .tuple #[]) (fun _ => p :: q :: r :: (g6, .cells #[.int .i64 n] 26 (0, 0)) :: R) (fun _ => True) en w' := by
  refine callsDI_rec (vs := [_]) Try.func47 rfl Try.ntmps47 rfl rfl hh ?_
  repeat (first|apply then_n|apply block_n|apply sp_seq|apply sp_region|apply spl_nil|((apply sp_cond_t);(·exact eT rfl);(·(rfl)))|(apply sp_cond_f;(·exact eT rfl);(·(rfl)))|apply sp_block|((apply spl_pure rfl);(·(first|(apply ex_ifnil (by kernel_rfl);(·exact eT rfl))|(apply ex_typeAssertI;(·exact eT rfl))|((first|apply ex_move|apply ex_assign|apply ex_nilCheck)<;>(exact eT rfl))|(apply ex_extract<;>(first|exact eT rfl|rfl)))))|(apply spl_store1;(·exact eT rfl);(·exact eT rfl);(·rfl);(·(repeat (first|exact Upd.here|apply Upd.there)));(·rfl)))
  (apply endX_ok rfl;(·exact Res.none_))
  exact ⟨(), rfl, trivial, by (repeat (exact HKeep.refl))⟩
set_option maxRecDepth 100000 in
set_option maxHeartbeats 2000000 in
theorem stuck_idle {Be : Nat} {w0 w : World} {g6 : Nat} {H : Heap} (hh : Hp Be w0 H w) :
    CallsDIn Fence.wide 0 Try.prog 47 #[.pointer (some ⟨g6, 0, none⟩)] .returning w
      fun en u' w' => u' = .returning ∧ RetX Be w0 (fun _ : Unit => .tuple #[]) (fun _ => H) (fun _ => True) en w' := by
  refine callsDI_idle (vs := [_]) Try.func47 rfl Try.ntmps47 rfl rfl hh ?_
  repeat (first|apply then_n|apply block_n|apply sp_seq|apply sp_region|apply spl_nil|((apply sp_cond_t);(·exact eT rfl);(·(rfl)))|apply sp_block|((apply spl_pure rfl);(·(first|(apply ex_nilnil (by kernel_rfl);(·exact eT rfl))|((apply ex_assign)<;>(exact eT rfl))))))
  (apply endX_ok rfl;(·exact Res.none_))
  exact ⟨(), rfl, trivial, by (repeat (exact HKeep.refl))⟩
set_option maxRecDepth 100000 in
set_option maxHeartbeats 2000000 in
theorem last_c {Be : Nat} {w0 w : World} {g4 g5 g6 : Nat} {n M : Int} {A : Option Addr} {k c : Nat} {p : Nat × Obj} {R : Heap} (hh : Hp Be w0 (p :: (g4, .cells #[.slice A k c] 25 (0, 0)) :: (g5, .cells #[.int .i64 M] 3 (0, 0)) :: (g6, .cells #[.int .i64 n] 26 (0, 0)) :: R) w) {u : FrameMode} :
    CallsDIn Fence.wide 0 Try.prog 46 #[.pointer (some ⟨g6, 0, none⟩), .pointer (some ⟨g4, 0, none⟩), .pointer (some ⟨g5, 0, none⟩)] u w
      fun en u' w' => u' = u ∧ RetX Be w0 (fun _ : Unit => .tuple #[]) (fun _ => p :: (g4, .cells #[.slice (if n = 0 then A else none) (if n = 0 then k else 0) (if n = 0 then c else 0)] 25 (0, 0)) :: (g5, .cells #[.int .i64 (if n = 0 then M else 0)] 3 (0, 0)) :: (g6, .cells #[.int .i64 n] 26 (0, 0)) :: R) (fun _ => True) en w' := by
  refine callsDI_plain (vs := [_, _, _]) Try.func46 rfl Try.ntmps46 rfl hh ?_
  by_cases hn : n = 0
  · skip
    repeat (first|(apply sp_cond_f;(·exact eT rfl);(·rfl))|apply then_n|apply sp_seq|apply sp_region|apply spl_nil|apply sp_skip|((apply spl_pure rfl);(·(first|(apply ex_neqF hn;(·exact eT rfl);(·exact eC))|(apply ex_loadown<;>(first|exact eT rfl|exact Bk.own InH.mem|rfl))))))
    (apply endX_ok rfl;(·exact Res.none_))
    refine ⟨(), rfl, trivial, ?_⟩
    rw [if_pos hn, if_pos hn, if_pos hn, if_pos hn]
    (repeat (exact HKeep.refl))
  · skip
    repeat (first|(apply sp_cond_t;(·exact eT rfl);(·rfl))|apply then_n|apply sp_seq|apply sp_region|apply spl_nil|((apply spl_pure rfl);(·(first|(apply ex_neqT hn;(·exact eT rfl);(·exact eC))|(apply ex_loadown<;>(first|exact eT rfl|exact Bk.own InH.mem|rfl)))))|(apply spl_store1;(·exact eT rfl);(·exact eC);(·rfl);(·(repeat (first|exact Upd.here|apply Upd.there)));(·rfl)))
    (apply endX_ok rfl;(·exact Res.none_))
    refine ⟨(), rfl, trivial, ?_⟩
    rw [if_neg hn, if_neg hn, if_neg hn, if_neg hn]
    (repeat (exact HKeep.refl))
/- now of func19 rfl -/
def JW (l d0 g4 g5 g6 : Nat) (rec : Loop) (L : Int) (y : Heap) : Prop := ∃ (A : Option Addr) (k c : Nat), y = (l, .loop rec) :: (d0, .deferred (some [])) :: (g4, .cells #[.slice A k c] 25 (0, 0)) :: (g5, .cells #[.int .i64 L] 3 (0, 0)) :: (g6, .cells #[.int .i64 0] 26 (0, 0)) :: []
set_option maxRecDepth 100000 in
set_option maxHeartbeats 4000000 in
theorem play_round {w0 : World} {l d0 g4 g5 g6 k c k2 c2 : Nat} {A A2 : Option Addr} {L : Int} {lost : Nat} {fn : FuncId} {tmps : Array Value} {R : Heap}
    {rec : Loop} (hrec : rec = { state := .ready, pending := none, fn, tmps, params := #[17, 18], assign := (rangeWo Try.f19).1, body := (rangeWo Try.f19).2, defers := d0 }) :
    SpcM (some l) [] Try.prog 26 w0.heap.size (rangeWo Try.f19).1 (asgQ Try.prog 26 w0.heap.size l rec w0 (fun _ : Heap => true) (fun y => y ++ R) (fun y => ∃ L', JW l d0 g4 g5 g6 rec L' y ∧ L ≤ L' ∧ (lost : Int) ≤ L'))
      ((18, true, .int .i64 (lost : Int)) :: (17, true, .slice A2 k2 c2) :: [(4, true, .pointer (some ⟨g4, 0, none⟩)), (5, true, .pointer (some ⟨g5, 0, none⟩))]) w0 ((l, .loop rec) :: (d0, .deferred (some [])) :: (g4, .cells #[.slice A k c] 25 (0, 0)) :: (g5, .cells #[.int .i64 L] 3 (0, 0)) :: (g6, .cells #[.int .i64 0] 26 (0, 0)) :: R) := by
  repeat (first|apply spm_seq|apply spm_region rfl|apply then_n|apply spl_nil|((apply spl_pure rfl);(·(((apply ex_assign)<;>(exact eT rfl))))))
  refine asg_n _ (List.Perm.refl _) ?_
  subst hrec
  dsimp only
  by_cases hgt : (lost : Int) > L
  · skip
    repeat (first|apply spm_seq|apply spm_region rfl|apply spm_block|((apply spm_cond_t);(·exact eT rfl);(·(rfl)))|apply then_n|apply block_n|apply spl_nil|((apply spl_pure rfl);(·(first|(apply ex_gtrT hgt;(·exact eT rfl);(·exact eT rfl))|((apply ex_move)<;>(exact eT rfl))|(apply ex_loadown<;>(first|exact eT rfl|exact Bk.own InH.mem|rfl)))))|(apply spl_store1;(·exact eT rfl);(·exact eT rfl);(·rfl);(·(repeat (first|exact Upd.here|apply Upd.there)));(·rfl)))
    refine rnd_n _ ((l, _) :: (d0, _) :: (g4, .cells #[.slice A2 k2 c2] 25 (0, 0)) :: (g5, .cells #[.int .i64 (lost : Int)] 3 (0, 0)) :: (g6, _) :: []) (List.Perm.refl _) ⟨(lost : Int), ⟨A2, k2, c2, rfl⟩, by omega, by omega⟩ rfl ?_
    show HKeep w0 ((l, _) :: (d0, _) :: (g4, _) :: (g5, _) :: (g6, _) :: R) _
    (repeat (exact HKeep.refl))
  · skip
    repeat (first|apply spm_skip|apply spm_seq|apply spm_region rfl|apply spm_block|(apply spm_cond_f;(·exact eT rfl);(·(rfl)))|apply then_n|apply block_n|apply spl_nil|((apply spl_pure rfl);(·(first|(apply ex_gtrF hgt;(·exact eT rfl);(·exact eT rfl))|((apply ex_move)<;>(exact eT rfl))|(apply ex_loadown<;>(first|exact eT rfl|exact Bk.own InH.mem|rfl))))))
    refine rnd_n _ ((l, _) :: (d0, _) :: (g4, .cells #[.slice A k c] 25 (0, 0)) :: (g5, .cells #[.int .i64 L] 3 (0, 0)) :: (g6, _) :: []) (List.Perm.refl _) ⟨L, ⟨A, k, c, rfl⟩, by omega, by omega⟩ rfl ?_
    show HKeep w0 ((l, _) :: (d0, _) :: (g4, _) :: (g5, _) :: (g6, _) :: R) _
    (repeat (exact HKeep.refl))
end Go.Proofs.Ytoogicafefennaa
/-
  Contracts: play.Worst.
-/
namespace Go.Proofs.Ytoogicafefennaa
set_option linter.unusedVariables false
open Go.RowKit Go.Sy
set_option linter.unusedVariables false
set_option linter.unusedSimpArgs false
attribute [local irreducible] Calls thenQ blockQ retQ retFQ jumpQ Spc Spl Spq Ex Ev Evs Gd Upd ESub HKeep Res Res1 wlk effQ wlkP effP Rem SrcAt Split SplI SpcM YieldAt markQ rndQ asgQ leaveMQ PK.C mobj PosR.C plC pOf lookQ worstF bestF CellsAt validG valueN
structure WoR where
  A : Option Addr
  k : Nat
  c : Nat
  M : Int
  e : Int
set_option maxRecDepth 100000 in
set_option maxHeartbeats 16000000 in
theorem worst_c {w0 : World} {g : GaR} {ns : List Nat} {ds : List (Sl × List Nat)} {B n c : Nat} {A : Option Addr} {ps : List PosR} (h : RdGa w0 w0.heap.size g) (hv : validG g = true) (hp : Plain g ns ds B) (hps : RdPlan w0 w0.heap.size A n ps) (hpw : ∀ p ∈ ps, PosW p) :
    Calls Try.prog 19 #[.agg g.C, .slice A n c] w0 (RetH w0 (fun x : WoR => .tuple #[.slice x.A x.k x.c, .int .i64 x.M, .int .i64 x.e]) (fun _ => []) (fun x => x.e = 0 → ((valueN ns ds B : Nat) : Int) ≤ x.M)) := by
  have hz3 : g.C.size = 3 := rfl
  have hval := fun (H : Heap) (w' : World) (hh : Hp w0.heap.size w0 H w') => (by have := gvalid_c (h.hp hh); rwa [hv] at this : Calls Try.prog 45 #[.agg g.C] w' (Ret w' (.bool true)))
  have hpl := fun (H : Heap) (w' : World) (hh : Hp w0.heap.size w0 H w') => player_c (g := g) (c := c) (hps.hp hh) hpw
  refine sp_enterG (vs := [_, _]) Try.func19 rfl Try.ntmps19 rfl ?_
  repeat (first|(apply spm_defer rfl;(·(repeat (first|exact eN|(apply eS;(·exact eT rfl))))))|(apply spm_deferF;(·exact eT rfl))|apply spm_skip|apply spm_seq|apply spm_region rfl|apply spm_block|(apply spm_cond_f;(·exact eT rfl);(·(rfl)))|(apply spl_callp rfl;(·(repeat (first|exact eN|(apply eS;(·exact eT rfl)))));(·exact fun w' hh => hval _ w' hh))|(apply spl_callh rfl;(·(repeat (first|exact eN|(apply eS;(·exact eT rfl)))));(·exact fun w' hh => hpl _ w' hh);(rintro ⟨gc, ces, cc⟩ hM hfc;have hgc : w0.heap.size ≤ gc := hfc _ (.head _);simp only [List.cons_append, List.nil_append]))|(apply spl_callh rfl;(·(repeat (first|exact eN|(apply eS;(·exact eT rfl)))));(·exact fun w' hh => games_c);(rintro gP htr hfp;have hgP : w0.heap.size ≤ gP := hfp _ (.head _);simp only [List.cons_append, List.nil_append]))|apply then_n|apply spl_nil|((apply spl_pure rfl);(·(first|((first|apply ex_move|apply ex_not)<;>(exact eT rfl))|(apply ex_loadowns<;>(first|exact eT rfl|exact Bk.own InH.mem|(rfl))))))|(apply spl_box;(·exact eT rfl);(·rfl);intro _ _)|(apply spl_alloc rfl;intro _ _)|(apply spl_store1;(·exact eT rfl);(·exact eC);(·rfl);(·(repeat (first|exact Upd.here|apply Upd.there)));(·rfl)))
  rename_i g2 hg2 g4 hg4 g5 hg5 g6 hg6
  refine SpcM.sub (e := (16, true, .func (.func 86) #[] #[.pointer (some ⟨gP, 0, none⟩)]) :: [(4, true, .pointer (some ⟨g4, 0, none⟩)), (5, true, .pointer (some ⟨g5, 0, none⟩)), (6, true, .pointer (some ⟨g6, 0, none⟩))])
    (H := (g4, .cells #[.slice none 0 0] 25 (0, 0)) :: (g5, .cells #[.int .i64 (-1)] 3 (0, 0)) :: (g6, .cells #[.int .i64 0] 26 (0, 0)) :: [(gP, .cells (plC g gc) 92 (0, 0)), (gc, mobj pkV ces cc), (g2, .cells g.C 47 (0, 0))]) ?_ (by (repeat (first|exact ESub.nil|apply ESub.cons rfl))) (by (repeat (first|exact HKeep.refl|(apply HKeep.pick;(·(repeat (first|exact Rem.here|apply Rem.there)))))))
  refine spm_rangeFuncP (gf := 86) (caps := [.pointer (some ⟨gP, 0, none⟩)]) (X := Option Addr × Nat × Nat × Int) (V := fun _ => .tuple #[]) (HX := fun x => (g4, .cells #[.slice x.1 x.2.1 x.2.2.1] 25 (0, 0)) :: (g5, .cells #[.int .i64 x.2.2.2] 3 (0, 0)) :: (g6, .cells #[.int .i64 0] 26 (0, 0)) :: [(gP, .cells (plC g gc) 92 (0, 0)), (gc, mobj pkV ces cc), (g2, .cells g.C 47 (0, 0))]) (I := fun x => ((valueN ns ds B : Nat) : Int) ≤ x.2.2.2) (IP := fun _ => True) (F := ErrP) (by (exact eT rfl)) ?_ ?_ ?_
  · intro fn tmps l d0 hfr2 hl hd0 w1 hw1
    have hfr' : Fr 26 [(4, true, .pointer (some ⟨g4, 0, none⟩)), (5, true, .pointer (some ⟨g5, 0, none⟩))] { tmps := tmps, defers := [] } := hfr2.sub (by (repeat (first|exact ESub.nil|apply ESub.cons rfl)))
    obtain ⟨rec, hrec⟩ : ∃ rec : Loop, rec = { state := .ready, pending := none, fn, tmps, params := #[17, 18], assign := (rangeWo Try.f19).1, body := (rangeWo Try.f19).2, defers := d0 } := ⟨_, rfl⟩
    have hst : rec.state = .ready := by rw [hrec]
    have hpr : rec.params = #[17, 18] := by rw [hrec]
    have htm : rec.tmps = tmps := by rw [hrec]
    have has : rec.assign = (rangeWo Try.f19).1 := by rw [hrec]
    have hJf : ∀ L y, JW l d0 g4 g5 g6 rec L y → ∀ p ∈ y, w0.heap.size ≤ p.1 := by
      rintro L y ⟨A, k, c, rfl⟩ p hp
      simp only [List.mem_cons, List.not_mem_nil, or_false] at hp
      rcases hp with rfl | rfl | rfl | rfl | rfl <;> assumption
    have hY : ∀ (L : Int) (y R : Heap) (A : Option Addr) (n c lost : Nat), JW l d0 g4 g5 g6 rec L y → ∀ w, Hp w0.heap.size w0 (y ++ R) w → YieldAt Fence.wide 0 Try.prog l #[.slice A n c, .int .i64 (lost : Int)] w (RetX w0.heap.size w0 (fun _ : Heap => .bool true) (fun y' => y' ++ R) (fun y' => ∃ L', JW l d0 g4 g5 g6 rec L' y' ∧ L ≤ L' ∧ (lost : Int) ≤ L')) := by
      rintro L y R A2 k2 c2 lost ⟨A3, k3, c3, rfl⟩ w hw
      have h1 := play_round (l := l) (w0 := w0) (g4 := g4) (g5 := g5) (g6 := g6) (k := k3) (c := c3) (A := A3) (k2 := k2) (c2 := c2) (A2 := A2) (L := L) (lost := lost) (R := R) hrec
      rw [← has] at h1
      exact yield_round2 hst hpr (by rw [htm]; exact hfr') rfl rfl h1 w hw
    have hc := iterP_c (J := JW l d0 g4 g5 g6 rec) (L := -1) (gP := gP) (gc := gc) (R := [(gP, .cells (plC g gc) 92 (0, 0)), (gc, mobj pkV ces cc), (g2, .cells g.C 47 (0, 0))]) h hv hp hM hJf hY (.head _) (.tail _ (.head _)) ⟨none, 0, 0, rfl⟩ (w := w1) (by rw [hrec]; exact hw1)
    refine hc.mono ?_
    rintro en w2 (⟨y, rfl, ⟨L', ⟨A3, k3, c3, rfl⟩, hL'⟩, hq⟩ | ⟨ch, y, rfl, hch, ⟨L', A3, k3, c3, rfl⟩, hq⟩)
    · rw [hrec] at hq
      exact .inl ⟨(A3, k3, c3, L'), rfl, hL', hq⟩
    · rw [hrec] at hq
      exact .inr ⟨ch, (A3, k3, c3, L'), rfl, hch, trivial, hq⟩
  · rintro d0 ⟨A3, k3, c3, M⟩ hI hd0
    dsimp only at hI ⊢
    repeat (first|apply spm_seq|apply spm_ret|(refine spm_drawn [(0, true), (1, true), (2, false), (3, false), (4, false)] 3 _ mixed ?_ rfl HKeep.refl ?_;(·kernel_rfl))|apply then_n|apply block_n|apply spl_nil|((apply wlk_read rfl rfl);(·((apply ex_loadown<;>(first|exact eT rfl|exact Bk.own InH.mem|rfl)))))|(apply spl_store1;(·exact eT rfl);(·(first|exact eT rfl|exact eC));(·rfl);(·(repeat (first|exact Upd.here|apply Upd.there)));(·rfl))|(apply effq;(·(intro h_;(first|(exact absurd h_ (by decide))|(repeat (exact HKeep.refl))))))|apply wlk_nil|apply wlk_eff rfl)
    refine leaveM_r fun a w' hf hh => ?_
    refine lv_mark (H := (d0, .deferred (some [])) :: (g4, .cells #[.slice A3 k3 c3] 25 (0, 0)) :: (g5, .cells #[.int .i64 M] 3 (0, 0)) :: (g6, .cells #[.int .i64 0] 26 (0, 0)) :: [(gP, .cells (plC g gc) 92 (0, 0)), (gc, mobj pkV ces cc), (g2, .cells g.C 47 (0, 0))]) (H' := (d0, .deferred none) :: (g4, .cells #[.slice A3 k3 c3] 25 (0, 0)) :: (g5, .cells #[.int .i64 M] 3 (0, 0)) :: (g6, .cells #[.int .i64 0] 26 (0, 0)) :: [(gP, .cells (plC g gc) 92 (0, 0)), (gc, mobj pkV ces cc), (g2, .cells g.C 47 (0, 0))]) (fun q => (by cases q)) Upd.here (lv_fn (f := 47) (args := [.pointer (some ⟨g6, 0, none⟩)]) (cs := []) (H2 := (d0, .deferred none) :: (g4, .cells #[.slice A3 k3 c3] 25 (0, 0)) :: (g5, .cells #[.int .i64 M] 3 (0, 0)) :: (g6, .cells #[.int .i64 0] 26 (0, 0)) :: [(gP, .cells (plC g gc) 92 (0, 0)), (gc, mobj pkV ces cc), (g2, .cells g.C 47 (0, 0))]) (v := .tuple #[]) (fun q => (by cases q)) rfl (fun w' hh => stuck_idle hh) (lv_fn (f := 46) (args := []) (cs := [.pointer (some ⟨g6, 0, none⟩), .pointer (some ⟨g4, 0, none⟩), .pointer (some ⟨g5, 0, none⟩)]) (H2 := (d0, .deferred none) :: (g4, .cells #[.slice (if (0 : Int) = 0 then A3 else none) (if (0 : Int) = 0 then k3 else 0) (if (0 : Int) = 0 then c3 else 0)] 25 (0, 0)) :: (g5, .cells #[.int .i64 (if (0 : Int) = 0 then M else 0)] 3 (0, 0)) :: (g6, .cells #[.int .i64 0] 26 (0, 0)) :: [(gP, .cells (plC g gc) 92 (0, 0)), (gc, mobj pkV ces cc), (g2, .cells g.C 47 (0, 0))]) (v := .tuple #[]) (fun q => (by cases q)) rfl (fun w' hh => last_c hh) (lv_nil (v := .tuple #[.slice (if (0 : Int) = 0 then A3 else none) (if (0 : Int) = 0 then k3 else 0) (if (0 : Int) = 0 then c3 else 0), .int .i64 (if (0 : Int) = 0 then M else 0), .int .i64 0]) rfl hf ?_ ?_))) w' hh
    · ((apply Res.ofThree<;>((apply Res1.cell1;(·rfl);(·exact InH.mem);(·rfl)))))
    · exact fun w' hh => ⟨⟨_, _, _, _, _⟩, rfl, fun _ => hI, hh.sub (by (repeat (first|exact HKeep.refl|apply HKeep.drop (by first|assumption|omega))))⟩
  · rintro d0 ch ⟨A3, k3, c3, M⟩ ⟨n0, hn0, rfl⟩ - hd0
    dsimp only
    (repeat (first|apply then_p|apply block_p))
    refine leaveM_p fun a w' hf hh => ?_
    refine lv_mark (H := (d0, .deferred (some [])) :: (g4, .cells #[.slice A3 k3 c3] 25 (0, 0)) :: (g5, .cells #[.int .i64 M] 3 (0, 0)) :: (g6, .cells #[.int .i64 0] 26 (0, 0)) :: [(gP, .cells (plC g gc) 92 (0, 0)), (gc, mobj pkV ces cc), (g2, .cells g.C 47 (0, 0))]) (H' := (d0, .deferred none) :: (g4, .cells #[.slice A3 k3 c3] 25 (0, 0)) :: (g5, .cells #[.int .i64 M] 3 (0, 0)) :: (g6, .cells #[.int .i64 0] 26 (0, 0)) :: [(gP, .cells (plC g gc) 92 (0, 0)), (gc, mobj pkV ces cc), (g2, .cells g.C 47 (0, 0))]) (fun q => (by cases q)) Upd.here (lv_fn (f := 47) (args := [.pointer (some ⟨g6, 0, none⟩)]) (cs := []) (H2 := (d0, .deferred none) :: (g4, .cells #[.slice A3 k3 c3] 25 (0, 0)) :: (g5, .cells #[.int .i64 M] 3 (0, 0)) :: (g6, .cells #[.int .i64 n0] 26 (0, 0)) :: [(gP, .cells (plC g gc) 92 (0, 0)), (gc, mobj pkV ces cc), (g2, .cells g.C 47 (0, 0))]) (v := .tuple #[]) (fun q => (by cases q)) rfl (fun w' hh => stuck_rec hh) (lv_fn (f := 46) (args := []) (cs := [.pointer (some ⟨g6, 0, none⟩), .pointer (some ⟨g4, 0, none⟩), .pointer (some ⟨g5, 0, none⟩)]) (H2 := (d0, .deferred none) :: (g4, .cells #[.slice (if (n0 : Int) = 0 then A3 else none) (if (n0 : Int) = 0 then k3 else 0) (if (n0 : Int) = 0 then c3 else 0)] 25 (0, 0)) :: (g5, .cells #[.int .i64 (if (n0 : Int) = 0 then M else 0)] 3 (0, 0)) :: (g6, .cells #[.int .i64 n0] 26 (0, 0)) :: [(gP, .cells (plC g gc) 92 (0, 0)), (gc, mobj pkV ces cc), (g2, .cells g.C 47 (0, 0))]) (v := .tuple #[]) (fun q => (by cases q)) rfl (fun w' hh => last_c hh) (lv_nil (v := .tuple #[.slice (if (n0 : Int) = 0 then A3 else none) (if (n0 : Int) = 0 then k3 else 0) (if (n0 : Int) = 0 then c3 else 0), .int .i64 (if (n0 : Int) = 0 then M else 0), .int .i64 n0]) rfl hf ?_ ?_))) w' hh
    · ((apply Res.ofThree<;>((apply Res1.cell1;(·rfl);(·exact InH.mem);(·rfl)))))
    · exact fun w' hh => ⟨⟨_, _, _, _, _⟩, rfl, fun q => absurd q hn0, hh.sub (by (repeat (first|exact HKeep.refl|apply HKeep.drop (by first|assumption|omega))))⟩
end Go.Proofs.Ytoogicafefennaa
