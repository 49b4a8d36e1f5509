/-
  Regions that draw their order, with operations that make or write memory: one walk in an order of our choice serves every order, where each operation that only reads may be taken first, and each other one comes up alone.
-/
import Derived.Test.YtoogicafefennaaSo
import Derived.Orders
import Derived.Still
namespace Go.Sy
open Go.RowKit
set_option linter.unusedVariables false
set_option linter.unusedSimpArgs false

section core
variable {P : Program} {ops : Array Oper} {md : Region.Mode}

/-- Operation i comes up; it leaves in no other way than going on. -/
def opI (P : Program) (ops : Array Oper) (i : Nat) (K : Act → World → Prop) (a : Act) (w : World) : Prop :=
  match ops[i]? with
  | none => K a w
  | some o => if Region.wanted o (yielded ops a.tmps) then o.wp P a w K (fun _ _ _ => False) else K (a.put o.dst undef) w

/-- Every order of what is left; behind each operation below m the world is of the class. -/
def wpI (P : Program) (md : Region.Mode) (ops : Array Oper) (m : Nat) (C : World → Prop) (Q : Act → World → Prop) : Nat → Array Bool → Act → World → Prop
  | 0, listed, a, w => Region.ready md ops listed = [] ∧ Q a w
  | f + 1, listed, a, w => (Region.ready md ops listed = [] → Q a w) ∧ ∀ i ∈ Region.ready md ops listed, opI P ops i (fun a' w' => (i < m → C w') ∧ wpI P md ops m C Q f (listed.setIfInBounds i true) a' w') a w

theorem Oper.wp_mono2 {o : Oper} {a : Act} {w : World} {K K' : Act → World → Prop} {Q' : Exit → Act → World → Prop} (h : ∀ a w, K a w → K' a w) (hh : o.wp P a w K (fun _ _ _ => False)) : o.wp P a w K' Q' := by
  unfold Oper.wp at *
  generalize (execOp a.eval o).run P w = r at *
  cases r with
  | ok n w' =>
    cases n <;> simp only [Oper.upon] at hh ⊢
    case enter f args =>
      refine hh.mono fun e w'' he => ?_
      cases e with
      | returned v => exact h _ _ he
      | panicked c => exact he.elim
      | outgrown => obtain ⟨_, _, hf⟩ := he; exact hf.elim
    case row => exact hh.mono fun _ _ he => h _ _ he
    all_goals first | exact h _ _ hh | exact hh
  | halt x w' => cases x <;> simp only [Oper.upon] at hh

/-- In every world of the class the operation only reads, and yields v. -/
def ReadsAs (P : Program) (ops : Array Oper) (C : World → Prop) (o : Oper) (v : Value) (a : Act) : Prop :=
  (Region.wanted o (yielded ops a.tmps) = true ∧ ∀ w, C w → (execOp a.eval o).run P w = .ok (.value v) w) ∨ (Region.wanted o (yielded ops a.tmps) = false ∧ v = undef)
theorem ReadsAs.of_same {C : World → Prop} {o : Oper} {v : Value} {a a' : Act} (hy : ReadsAs P ops C o v a) (he : execOp a'.eval o = execOp a.eval o)
    (hw : Region.wanted o (yielded ops a'.tmps) = Region.wanted o (yielded ops a.tmps)) : ReadsAs P ops C o v a' := by
  unfold ReadsAs at *
  rw [he, hw]
  exact hy
theorem ReadsAs.opI {C : World → Prop} {i : Nat} {o : Oper} {v : Value} {a : Act} {w : World} {K : Act → World → Prop} (hi : ops[i]? = some o) (hy : ReadsAs P ops C o v a) (hC : C w) (h : K (a.put o.dst v) w) : opI P ops i K a w := by
  unfold Go.Sy.opI
  simp only [hi]
  rcases hy with ⟨hw, hv⟩ | ⟨hw, rfl⟩
  · simp only [hw, if_true, Oper.wp, hv w hC, Oper.upon_value]; exact h
  · simp only [hw, Bool.false_eq_true, if_false]; exact h
theorem put_defers (a : Act) (x y : Option Tmp) (v u : Value) (d : Deferred) (h : ∀ k, x = some k → y ≠ some k) :
    ({ a.put x v with defers := d :: (a.put x v).defers } : Act).put y u = (({ a with defers := d :: a.defers } : Act).put y u).put x v := by
  rw [← Act.put_comm _ v u h]
  cases x <;> rfl
/-- An operation apart from one that only reads: it does the same with the other's value in its place. -/
theorem opI_put {C : World → Prop} {j : Nat} {oi oj : Oper} {v : Value} (hj : ops[j]? = some oj) (hap : oi.apart ops oj = true)
    (hsi : ∀ cs b, oi.op ≠ .select cs b) (hsj : ∀ cs b, oj.op ≠ .select cs b) {K : Act → World → Prop} {a : Act} {w : World}
    (hy : ReadsAs P ops C oi v a) (hd : ∀ (a : Act) (d : Deferred), ReadsAs P ops C oi v a → ReadsAs P ops C oi v { a with defers := d :: a.defers }) (h : opI P ops j K (a.put oi.dst v) w) :
    opI P ops j (fun a' w' => ReadsAs P ops C oi v a' ∧ K (a'.put oi.dst v) w') a w := by
  obtain ⟨h1, h2, h3⟩ := Oper.apart_spec hap
  have keep : ∀ (a : Act), ReadsAs P ops C oi v a → ∀ u, ReadsAs P ops C oi v (a.put oj.dst u) := fun a hy u =>
    hy.of_same (execOp_put oi hsi a oj.dst u h3) (wanted_put oi a oj.dst u h3)
  unfold opI at *
  simp only [hj] at *
  rw [wanted_put oj a oi.dst v h1] at h
  split
  · rename_i hw
    simp only [hw, if_true] at h
    unfold Oper.wp at *
    rw [execOp_put oj hsj a oi.dst v h1] at h
    generalize (execOp a.eval oj).run P w = r at *
    cases r with
    | ok n w' =>
      cases n <;> simp only [Oper.upon] at h ⊢
      case value u => exact ⟨keep a hy u, by rw [← Act.put_comm a v u h2]; exact h⟩
      case skip => exact ⟨keep a hy _, by rw [← Act.put_comm a v undef h2]; exact h⟩
      case defer d => exact ⟨keep _ (hd a d hy) _, by rw [← put_defers _ _ _ _ _ _ h2]; exact h⟩
      case enter f args =>
        refine h.mono fun e w'' he => ?_
        cases e with
        | returned u => exact ⟨keep a hy u, by rw [← Act.put_comm a v u h2]; exact he⟩
        | panicked c => exact he.elim
        | outgrown => obtain ⟨_, _, hf⟩ := he; exact hf.elim
      case row => exact h.mono fun u _ he => ⟨keep a hy u, by rw [← Act.put_comm a v u h2]; exact he⟩
      all_goals exact h
    | halt x w' => cases x <;> simp only [Oper.upon] at h
  · rename_i hw
    simp only [hw] at h
    exact ⟨keep a hy _, by rw [← Act.put_comm a v undef h2]; exact h⟩
theorem reads_defers {C : World → Prop} {o : Oper} {v : Value} (a : Act) (d : Deferred) (h : ReadsAs P ops C o v a) : ReadsAs P ops C o v { a with defers := d :: a.defers } := h

/-- What is listed has all listed that it waits for. -/
def Cl (md : Region.Mode) (ops : Array Oper) (listed : Array Bool) : Prop := ∀ (k : Nat) (o : Oper), ops[k]? = some o → listed.getD k false = true → ∀ e ∈ o.after, Region.binds md e = true → listed.getD e.on false = true
theorem getD_set_self {l : Array Bool} {i : Nat} (h : i < l.size) (b : Bool) : (l.setIfInBounds i true).getD i b = true := by
  simp [Array.getD_eq_getD_getElem?, Array.getElem?_setIfInBounds, h]
theorem getD_set_mono {l : Array Bool} {i k : Nat} (h : l.getD k false = true) : (l.setIfInBounds i true).getD k false = true := by
  by_cases hik : i = k
  · subst hik
    rw [Array.getD_eq_getD_getElem?] at h
    have : i < l.size := by
      rcases Nat.lt_or_ge i l.size with h' | h'
      · exact h'
      · rw [Array.getElem?_eq_none h'] at h; simp at h
    exact getD_set_self this _
  · rwa [getD_set_ne false hik]
theorem Cl.set {listed : Array Bool} {j : Nat} (h : Cl md ops listed) (hj : j ∈ Region.ready md ops listed) : Cl md ops (listed.setIfInBounds j true) := by
  obtain ⟨_, oj, hoj, hall⟩ := mem_ready.1 hj
  intro k o ho hk e he hb
  by_cases hjk : j = k
  · subst hjk
    rw [hoj] at ho; cases ho
    exact getD_set_mono (hall e he hb)
  · rw [getD_set_ne false hjk] at hk
    exact getD_set_mono (h k o ho hk e he hb)
theorem Cl.start {n : Nat} (h : n = ops.size) : Cl md ops (Array.replicate n false) := by
  intro k o _ hk
  rw [Array.getD_eq_getD_getElem?, Array.getElem?_replicate] at hk
  split at hk <;> simp at hk
def waitsB (md : Region.Mode) (ops : Array Oper) (B : Array Bool) (k : Nat) : Bool := match ops[k]? with | some o => o.after.any fun e => Region.binds md e && B.getD e.on false | none => false
theorem waitsB_spec {B : Array Bool} {k : Nat} (h : waitsB md ops B k = true) : ∃ o, ops[k]? = some o ∧ ∃ e ∈ o.after, Region.binds md e = true ∧ B.getD e.on false = true := by
  unfold waitsB at h
  split at h
  · rename_i o ho
    obtain ⟨e, he, hb⟩ := Array.any_eq_true'.1 h
    simp only [Bool.and_eq_true] at hb
    exact ⟨o, ho, e, he, hb.1, hb.2⟩
  · cases h
/-- What is behind something of B. -/
def blkPass (md : Region.Mode) (ops : Array Oper) (B : Array Bool) : Array Bool :=
  (List.range ops.size).foldl (fun B k => if waitsB md ops B k then B.setIfInBounds k true else B) B
theorem blkPass_spec {listed : Array Bool} (hc : Cl md ops listed) {B : Array Bool} (hB : ∀ k, B.getD k false = true → listed.getD k false = false) : ∀ k, (blkPass md ops B).getD k false = true → listed.getD k false = false := by
  unfold blkPass
  generalize List.range ops.size = ks
  induction ks generalizing B with
  | nil => exact hB
  | cons x ks ih =>
    simp only [List.foldl_cons]
    refine ih fun k hk => ?_
    split at hk
    · rename_i hx
      by_cases hxk : x = k
      · subst hxk
        obtain ⟨o, ho, e, he, hb1, hb2⟩ := waitsB_spec hx
        have h1 := hB _ hb2
        cases hl : listed.getD x false with
        | false => rfl
        | true => have := hc x o ho hl e he hb1; rw [this] at h1; cases h1
      · rw [getD_set_ne false hxk] at hk; exact hB k hk
    · exact hB k hk
/-- Every operation from number m on waits for every one below m, at once or through others. -/
def tailB (md : Region.Mode) (ops : Array Oper) (m : Nat) : Bool :=
  Nat.ble ops.size m || (List.range m).all fun i => let B := blkPass md ops (blkPass md ops ((Array.replicate ops.size false).setIfInBounds i true)); (List.range ops.size).all fun j => decide (j < m) || B.getD j false
theorem tailB_spec {m : Nat} (h : tailB md ops m = true) {j i : Nat} {oj : Oper} {listed : Array Bool} (hoj : ops[j]? = some oj) (hjm : ¬ j < m) (him : i < m) (hc : Cl md ops listed) (hj : j ∈ Region.ready md ops listed) (hi : listed.getD i true = false) (hij : j ≠ i) : False := by
  have hjs : j < ops.size := (Array.getElem?_eq_some_iff.1 hoj).1
  unfold tailB at h
  rw [Bool.or_eq_true] at h
  rcases h with h | h
  · have := Nat.le_of_ble_eq_true h; omega
  · have h1 := List.all_eq_true.1 h i (List.mem_range.2 him)
    have h2 := List.all_eq_true.1 h1 j (List.mem_range.2 hjs)
    simp only [Bool.or_eq_true, decide_eq_true_eq, hjm, false_or] at h2
    have hc' := hc.set hj
    have hi' : (listed.setIfInBounds j true).getD i false = false := by
      rw [getD_set_ne false hij]
      rw [Array.getD_eq_getD_getElem?] at hi ⊢
      cases hx : listed[i]? with
      | none => rfl
      | some b => rw [hx] at hi; simpa using hi
    have h0 : ∀ k, ((Array.replicate ops.size false).setIfInBounds i true).getD k false = true → (listed.setIfInBounds j true).getD k false = false := fun k hk => by
      by_cases hik : i = k
      · subst hik; exact hi'
      · rw [getD_set_ne false hik, Array.getD_eq_getD_getElem?, Array.getElem?_replicate] at hk
        split at hk <;> simp at hk
    have h3 := blkPass_spec hc' (blkPass_spec hc' h0) j h2
    have hjl : j < listed.size := by
      have := (mem_ready.1 hj).1
      rw [Array.getD_eq_getD_getElem?] at this
      rcases Nat.lt_or_ge j listed.size with h' | h'
      · exact h'
      · rw [Array.getElem?_eq_none h'] at this; simp at this
    rw [getD_set_self hjl] at h3
    cases h3

theorem wpI_first {C : World → Prop} {Q : Act → World → Prop} {m i : Nat} {oi : Oper} {v : Value} (hi : ops[i]? = some oi) (him : i < m) (htail : tailB md ops m = true) (hsel : ∀ (j : Nat) (o : Oper) cs b, ops[j]? = some o → o.op ≠ .select cs b) :
    ∀ (fuel : Nat) (listed : Array Bool) (a : Act) (w : World),
      (∀ j oj, ops[j]? = some oj → j ≠ i → listed.getD j true = false → (∀ e ∈ oj.after, Region.binds md e = true → e.on ≠ i) → oi.apart ops oj = true) →
      Cl md ops listed → i ∈ Region.ready md ops listed → ReadsAs P ops C oi v a → C w →
      wpI P md ops m C Q fuel (listed.setIfInBounds i true) (a.put oi.dst v) w → wpI P md ops m C Q (fuel + 1) listed a w := by
  intro fuel
  induction fuel with
  | zero =>
    intro listed a w _ _ hr hy hC H
    refine ⟨fun h => (by rw [h] at hr; cases hr), fun j hj => ?_⟩
    by_cases hji : j = i
    · subst hji; exact hy.opI hi hC ⟨fun _ => hC, H⟩
    · have := ready_mono hj hji
      rw [H.1] at this
      cases this
  | succ fuel ih =>
    intro listed a w hfree hcl hr hy hC H
    refine ⟨fun h => (by rw [h] at hr; cases hr), fun j hj => ?_⟩
    by_cases hji : j = i
    · subst hji; exact hy.opI hi hC ⟨fun _ => hC, H⟩
    · have h1 := H.2 j (ready_mono hj hji)
      obtain ⟨hjun, oj, hoj, hall⟩ := mem_ready.1 hj
      have hnot : ∀ e ∈ oj.after, Region.binds md e = true → e.on ≠ i := fun e he hb heq => by
        have h1 := hall e he hb
        have h0 := (mem_ready.1 hr).1
        rw [heq] at h1
        rcases Nat.lt_or_ge i listed.size with h' | h'
        · simp [h'] at h0 h1; rw [h0] at h1; cases h1
        · simp [Array.getElem?_eq_none h'] at h1
      have hjm : j < m := by
        rcases Nat.lt_or_ge j m with h' | h'
        · exact h'
        · exact (tailB_spec htail hoj (by omega) him hcl hj (mem_ready.1 hr).1 hji).elim
      have h2 := opI_put hoj (hfree j oj hoj hji hjun hnot) (fun cs b => hsel i oi cs b hi) (fun cs b => hsel j oj cs b hoj) hy (fun a d => reads_defers a d) h1
      have hfree' : ∀ k ok, ops[k]? = some ok → k ≠ i → (listed.setIfInBounds j true).getD k true = false →
          (∀ e ∈ ok.after, Region.binds md e = true → e.on ≠ i) → oi.apart ops ok = true := fun k ok hk hki hun hno => by
        refine hfree k ok hk hki ?_ hno
        by_cases hjk : j = k
        · subst hjk; exact hjun
        · rw [getD_set_ne true hjk] at hun; exact hun
      have hmono : ∀ {K K' : Act → World → Prop} {a : Act} {w : World}, (∀ a w, K a w → K' a w) → opI P ops j K a w → opI P ops j K' a w := by
        intro K K' a w hk ho
        unfold opI at *
        simp only [hoj] at *
        split
        · rename_i hw; simp only [hw, if_true] at ho; exact Oper.wp_mono2 hk ho
        · rename_i hw; simp only [hw] at ho; exact hk _ _ ho
      refine hmono (fun a' w' h3 => ⟨fun _ => h3.2.1 hjm, ih (listed.setIfInBounds j true) a' w' hfree' (hcl.set hj) (ready_mono hr (Ne.symm hji)) h3.1 (h3.2.1 hjm) ?_⟩) h2
      rw [Array.setIfInBounds_comm _ _ hji]
      exact h3.2.2

theorem wpAny_of_wpI {C : World → Prop} {Q : Act → World → Prop} {m : Nat} {Q' : Exit → Act → World → Prop} (hQ : ∀ a w, Q a w → Q' .normal a w) : ∀ (fuel : Nat) (listed : Array Bool) (a : Act) (w : World),
    wpI P md ops m C Q fuel listed a w → wpAny P md ops Q' fuel listed a w
  | 0, _, _, _, h => ⟨h.1, hQ _ _ h.2⟩
  | fuel + 1, listed, a, w, h => ⟨fun h0 => hQ _ _ (h.1 h0), fun i hi => by
      have h1 := h.2 i hi
      unfold opI at h1
      unfold wpOp
      split
      · rename_i ho; simp only [ho] at h1; exact wpAny_of_wpI hQ fuel _ _ _ h1.2
      · rename_i o ho
        simp only [ho] at h1
        split
        · rename_i hw; simp only [hw, if_true] at h1; exact .inl (Oper.wp_mono2 (fun a' w' h2 => wpAny_of_wpI hQ fuel _ _ _ h2.2) h1)
        · rename_i hw; simp only [hw] at h1; exact wpAny_of_wpI hQ fuel _ _ _ h1.2⟩

def canonB (md : Region.Mode) (ops : Array Oper) (m : Nat) : Array Bool → Bool → List (Nat × Bool) → Bool
  | listed, _, [] => (Region.ready md ops listed).isEmpty
  | listed, bar, (i, true) :: r => (!bar && decide (i < m)) && (Region.ready md ops listed).contains i && Region.free md ops listed i && canonB md ops m (listed.setIfInBounds i true) bar r
  | listed, bar, (i, false) :: r => (Region.ready md ops listed == [i]) && canonB md ops m (listed.setIfInBounds i true) (bar || decide (m ≤ i)) r
/-- The order p is one that serves for all. -/
def drawnB (ops : Array Oper) (m : Nat) (p : List (Nat × Bool)) : Bool :=
  Region.noSelect ops && tailB .any ops m && decide (p.length = ops.size) && canonB .any ops m (Array.replicate ops.size false) false p
end core

section walk
variable {P : Program} {N Be : Nat} {Q : Post} {e : Env} {w0 : World} {H H1 : Heap} {ops : Array Oper} {r : List (Nat × Bool)} {ty : TypeId} {pos : String} {after : Array Edge} {d i m : Nat}

/-- The walk in the order of our choice: (i, true): operation i only reads; (i, false): it comes up alone. H1: what the reading operations read. -/
def wlk (P : Program) (N Be : Nat) (ops : Array Oper) (m : Nat) (Q : Post) (H1 : Heap) : List (Nat × Bool) → Env → World → Heap → Prop
  | [], e, w0, H => Q .normal e w0 H
  | (i, true) :: r, e, w0, H => ∃ (o : Oper) (d : Nat) (G : Bool) (v : Value), ops[i]? = some o ∧ o.dst = some d ∧ d < N ∧ Gd ops e o.guard G ∧ Ex P Be w0 H1 G e o.op o.type v ∧ wlk P N Be ops m Q H1 r ((d, G, v) :: e) w0 H
  | (i, false) :: r, e, w0, H => ∃ o : Oper, ops[i]? = some o ∧ Spl P N Be ops (fun x e' w0' H' => x = .normal ∧ w0' = w0 ∧ (i < m → HKeep w0 H1 H') ∧ wlk P N Be ops m Q H1 r e' w0' H') [o] e w0 H
/-- What is asked behind an operation that comes up alone. -/
def effQ (P : Program) (N Be : Nat) (ops : Array Oper) (m : Nat) (Q : Post) (H1 : Heap) (i : Nat) (r : List (Nat × Bool)) (w0 : World) : Post := fun x e' w0' H' => x = .normal ∧ w0' = w0 ∧ (i < m → HKeep w0 H1 H') ∧ wlk P N Be ops m Q H1 r e' w0' H'

theorem wlk_nil (h : Q .normal e w0 H) : wlk P N Be ops m Q H1 [] e w0 H := h
theorem wlk_read {op : Op} {v : Value} (ho : ops[i]? = some ⟨some d, op, ty, pos, after, none⟩) (hN : Nat.blt d N = true) (hx : Ex P Be w0 H1 true e op ty v) (k : wlk P N Be ops m Q H1 r ((d, true, v) :: e) w0 H) :
    wlk P N Be ops m Q H1 ((i, true) :: r) e w0 H := ⟨_, d, true, v, ho, rfl, by simpa [Nat.blt_eq] using hN, Gd.none, hx, k⟩
theorem wlk_read_g {op : Op} {v : Value} {g : Option (Nat × Bool)} {G : Bool} (ho : ops[i]? = some ⟨some d, op, ty, pos, after, g⟩) (hN : Nat.blt d N = true) (hg : Gd ops e g G) (hx : Ex P Be w0 H1 G e op ty v) (k : wlk P N Be ops m Q H1 r ((d, G, v) :: e) w0 H) :
    wlk P N Be ops m Q H1 ((i, true) :: r) e w0 H := ⟨_, d, G, v, ho, rfl, by simpa [Nat.blt_eq] using hN, hg, hx, k⟩
theorem wlk_eff {dst : Option Tmp} {op : Op} {g : Option (Nat × Bool)} (ho : ops[i]? = some ⟨dst, op, ty, pos, after, g⟩) (h : Spl P N Be ops (effQ P N Be ops m Q H1 i r w0) [⟨dst, op, ty, pos, after, g⟩] e w0 H) : wlk P N Be ops m Q H1 ((i, false) :: r) e w0 H := ⟨_, ho, h⟩
theorem effq (h : i < m → HKeep w0 H1 H) (k : wlk P N Be ops m Q H1 r e w0 H) : effQ P N Be ops m Q H1 i r w0 .normal e w0 H := ⟨rfl, rfl, h, k⟩

theorem wlk_sound (hm' : tailB .any ops m = true) (hs : Region.noSelect ops = true) : ∀ (l : List (Nat × Bool)) (listed : Array Bool) (bar : Bool) (a : Act) (w : World) (e : Env) (H : Heap), canonB .any ops m listed bar l = true →
    Cl .any ops listed → Fr N e a → Hp Be w0 H w → (bar = false → Hp Be w0 H1 w) → wlk P N Be ops m Q H1 l e w0 H → wpI P .any ops m (Hp Be w0 H1) (fun a' w' => lift N Be Q .normal a' w') l.length listed a w := by
  intro l
  induction l with
  | nil =>
    intro listed bar a w e H hB _ hf hh _ h
    exact ⟨by simpa [canonB] using hB, e, w0, H, hf, hh, h⟩
  | cons p r ih =>
    intro listed bar a w e H hB hcl hf hh hC h
    obtain ⟨i, b⟩ := p
    cases b with
    | true =>
      obtain ⟨o, d, G, v, ho, hd, hdN, hg, hx, hk⟩ := h
      simp only [canonB, Bool.and_eq_true, Bool.not_eq_true', decide_eq_true_eq, List.contains_eq_mem] at hB
      obtain ⟨⟨⟨⟨hbar, him⟩, hr⟩, hfree⟩, hB'⟩ := hB
      have hgd := hg N a o hf rfl
      refine wpI_first (v := if G then v else undef) ho him hm' (Region.noSelect_spec hs) r.length listed a w (Region.free_spec ho hfree) hcl hr ?_ (hC hbar) (ih _ bar _ w _ H hB' (hcl.set hr) ?_ hh hC hk)
      · cases hG : G with
        | true => exact .inl ⟨by rw [hgd, hG], fun w' hw' => hx N a w' o rfl rfl hf hw' hG⟩
        | false => exact .inr ⟨by rw [hgd, hG], rfl⟩
      · rw [hd]
        cases hG : G with
        | true => exact hf.puttrue hdN
        | false => exact hf.put hdN
    | false =>
      obtain ⟨o, ho, hk⟩ := h
      simp only [canonB, Bool.and_eq_true, beq_iff_eq] at hB
      obtain ⟨hr, hB'⟩ := hB
      refine ⟨fun h0 => (by rw [hr] at h0; cases h0), fun j hj => ?_⟩
      rw [hr] at hj
      simp only [List.mem_singleton] at hj
      subst hj
      have hcl' := hcl.set (show j ∈ Region.ready .any ops listed by rw [hr]; exact List.mem_singleton.2 rfl)
      have h1 := hk a w hf hh
      unfold opI
      simp only [ho]
      have fin : ∀ a' w', lift N Be (fun x e' w0' H' => x = .normal ∧ w0' = w0 ∧ (j < m → HKeep w0 H1 H') ∧ wlk P N Be ops m Q H1 r e' w0' H') .normal a' w' →
          (j < m → Hp Be w0 H1 w') ∧ wpI P .any ops m (Hp Be w0 H1) (fun a' w' => lift N Be Q .normal a' w') r.length (listed.setIfInBounds j true) a' w' := by
        rintro a' w' ⟨e', w0', H', hf', hh', _, rfl, hkeep, hk'⟩
        refine ⟨fun hjm => hh'.sub (hkeep hjm), ih _ _ a' w' e' H' hB' hcl' hf' hh' (fun hb => ?_) hk'⟩
        simp only [Bool.or_eq_false_iff, decide_eq_false_iff_not] at hb
        exact hh'.sub (hkeep (by omega))
      simp only [wpList] at h1
      split at h1
      · rename_i hw
        simp only [hw, if_true]
        rcases h1 with h1 | ⟨_, h1⟩
        · unfold Oper.wp at *
          generalize (execOp a.eval o).run P w = res at *
          cases res with
          | ok n w' =>
            cases n <;> simp only [Oper.upon] at h1 ⊢
            case enter f args =>
              refine h1.mono fun en w'' he => ?_
              cases en with
              | returned u => exact fin _ _ he
              | panicked c => obtain ⟨_, _, _, _, _, hx, _⟩ := he; cases hx
              | outgrown => obtain ⟨_, _, _, _, _, _, _, hx, _⟩ := he; cases hx
            case row => exact h1.mono fun _ _ he => fin _ _ he
            all_goals first | exact fin _ _ h1 | exact h1
          | halt x w' =>
            cases x <;> simp only [Oper.upon] at h1
            obtain ⟨_, _, _, _, _, hx, _⟩ := h1
            cases hx
        · obtain ⟨_, _, _, _, _, _, _, hx, _⟩ := h1
          cases hx
      · rename_i hw
        simp only [hw]
        exact fin _ _ h1

theorem sp_drawn {id : Nat} {l : List Oper} (p : List (Nat × Bool)) (m : Nat) (H1 : Heap) (hm : P.follows .mixedOrders = true) (hB : drawnB l.toArray m p = true) (hk : HKeep w0 H1 H) (h : wlk P N Be l.toArray m Q H1 p e w0 H) :
    Spc P N Be (.region id l.toArray true) Q e w0 H := by
  intro a w hf hh
  simp only [drawnB, Bool.and_eq_true, decide_eq_true_eq] at hB
  obtain ⟨⟨⟨h1, h2⟩, h3⟩, h4⟩ := hB
  refine wp_region_any hm ?_
  have := wlk_sound h2 h1 p _ false a _ e H h4 (Cl.start rfl) hf hh.drew (fun _ => (hh.drew).sub hk) h
  rw [h3] at this
  exact wpAny_of_wpI (fun _ _ hq => hq) _ _ _ _ this
end walk
end Go.Sy
