/-
  Ranges over a function: code in a round, the statement, calls of yield, functions that leave with a mark.
-/
import Derived.Test.YtildepcgnppcjaaSx
import Derived.RangeFuncOwn
import Derived.OrdersIn
import Derived.TacticsIn
import Derived.Scope
namespace Go.Sy
open Go.RowKit
set_option linter.unusedVariables false
set_option linter.unusedSimpArgs false

def fenceAt (r : Option Nat) : Fence := { Fence.wide with round := r }
def wd (a : Act) (D : List Deferred) : Act := { a with defers := a.defers ++ D }
theorem wd_put (a : Act) (D : List Deferred) (d : Option Tmp) (v : Value) : (wd a D).put d v = wd (a.put d v) D := by cases d <;> rfl
theorem wd_nil (a : Act) : wd a [] = a := by cases a; simp [wd]
theorem wd_back (a : Act) : wd { a with defers := [] } a.defers = a := by cases a; simp [wd]
def noDefer (l : List Oper) : Bool := l.all fun o => match o.op with | .defer _ => false | _ => true
theorem noDefer_mem {l : List Oper} (h : noDefer l = true) {o : Oper} (ho : o ∈ l) : ∀ c, o.op ≠ .defer c := by
  have := List.all_eq_true.1 h o ho
  intro c hc
  rw [hc] at this
  cases this

section
variable {P : Program} {r : Option Nat} {n : Nat} {D : List Deferred}
theorem callsIn_at {f : FuncId} {args : Array Value} {w : World} {R : Ending → World → Prop} (h : Calls P f args w R) : CallsIn (fenceAt r) n P f args w R :=
  (callsIn_wide.2 h : CallsIn Fence.wide n P f args w R)
theorem rowsIn_at {row : String} {args : Array Value} {w : World} {R : Value → World → Prop} (h : Rows P row args w R) : RowsIn (fenceAt r) n P row args w R := by
  intro c cs _
  obtain ⟨v, w', hR, hs⟩ := h c cs
  exact ⟨v, w', hR, (stepsIn_wide.2 hs : StepsIn (Machine.fenced P Fence.wide) P _ _)⟩

theorem oper_in {o : Oper} (hnd : ∀ c, o.op ≠ .defer c) {K K' : Act → World → Prop} {Q Q' : Exit → Act → World → Prop} (hK : ∀ a w, K a w → K' (wd a D) w) (hQ : ∀ x a w, Q x a w → Q' x (wd a D) w) {a : Act} {w : World} (h : o.wp P a w K Q) : o.wpIn (fenceAt r) n P (wd a D) w K' Q' := by
  refine ⟨fun _ _ => trivial, ?_⟩
  rw [Oper.semAt_eq _ _ _ hnd]
  have he : (wd a D).eval = a.eval := rfl
  rw [he]
  unfold Oper.wp at h
  generalize (execOp a.eval o).run P w = res at h ⊢
  cases res with
  | ok x w' =>
    cases x <;> simp only [Oper.upon] at h <;> simp only [Oper.uponIn]
    case value v => rw [wd_put]; exact hK _ _ h
    case skip => rw [wd_put]; exact hK _ _ h
    case defer d =>
      have : ({ wd a D with defers := d :: (wd a D).defers } : Act) = wd { a with defers := d :: a.defers } D := rfl
      rw [this, wd_put]; exact hK _ _ h
    case enter f args =>
      refine ⟨fun h => (by cases h), callsIn_at (h.mono fun en w'' he => ?_)⟩
      cases en with
      | returned v =>
        have h3 := hK _ _ he
        rw [← wd_put] at h3
        exact h3
      | panicked c => exact hQ _ _ _ he
      | outgrown => obtain ⟨a0, w0, h0⟩ := he; exact ⟨_, _, hQ _ _ _ h0⟩
    case row row args => exact ⟨fun h => (by cases h), rowsIn_at (h.mono fun v w'' he => by rw [wd_put]; exact hK _ _ he)⟩
    all_goals exact h
  | halt x w' =>
    cases x <;> simp only [Oper.upon] at h <;> simp only [Oper.uponIn]
    case panic v => exact hQ _ _ _ h

theorem list_in {ops : Array Oper} {Q Q' : Exit → Act → World → Prop} (hno : ∀ a w, ¬ Q .outgrown a w) (hQ : ∀ x a w, Q x a w → Q' x (wd a D) w) : ∀ (l : List Oper), noDefer l = true → ∀ (a : Act) (w : World), wpList P ops Q l a w → wpListIn (fenceAt r) n P ops Q' l (wd a D) w
  | [], _, a, w, h => hQ _ _ _ h
  | o :: l, hl, a, w, h => by
    have hl' : noDefer l = true := by simp only [noDefer, List.all_cons, Bool.and_eq_true] at hl ⊢; exact hl.2
    simp only [wpList] at h
    simp only [wpListIn]
    have hy : yielded ops (wd a D).tmps = yielded ops a.tmps := rfl
    rw [hy]
    split
    · rename_i hw
      rw [if_pos hw] at h
      rcases h with h | ⟨_, a0, w0, h⟩
      · exact oper_in (noDefer_mem hl (.head _)) (fun a w h => list_in hno hQ l hl' a w h) hQ h
      · exact (hno _ _ h).elim
    · rename_i hw
      rw [if_neg hw] at h
      refine ⟨fun _ _ => trivial, ?_⟩
      rw [wd_put]
      exact list_in hno hQ l hl' _ _ h

theorem any_in {ops : Array Oper} (hnd : noDefer ops.toList = true) {C : World → Prop} {Q : Act → World → Prop} {m : Nat} {Q' : Exit → Act → World → Prop} (hQ : ∀ a w, Q a w → Q' .normal (wd a D) w) : ∀ (fuel : Nat) (listed : Array Bool) (a : Act) (w : World),
    wpI P .any ops m C Q fuel listed a w → wpAnyIn (fenceAt r) n P .any ops Q' fuel listed (wd a D) w
  | 0, _, _, _, h => ⟨h.1, hQ _ _ h.2⟩
  | fuel + 1, listed, a, w, h => ⟨fun h0 => hQ _ _ (h.1 h0), fun i hi => by
      have h1 := h.2 i hi
      unfold opI at h1
      unfold wpOpIn
      have hy : yielded ops (wd a D).tmps = yielded ops a.tmps := rfl
      split
      · rename_i ho; simp only [ho] at h1; exact any_in hnd hQ fuel _ _ _ h1.2
      · rename_i o ho
        simp only [ho] at h1
        rw [hy]
        split
        · rename_i hw; simp only [hw, if_true] at h1; exact oper_in (noDefer_mem hnd (Array.mem_toList_iff.2 (Array.mem_of_getElem? ho))) (fun a' w' h2 => any_in hnd hQ fuel _ _ _ h2.2) (Q := fun _ _ _ => False) (fun _ _ _ h => h.elim) h1
        · rename_i hw; simp only [hw] at h1; exact ⟨fun _ _ => trivial, by rw [wd_put]; exact any_in hnd hQ fuel _ _ _ h1.2⟩⟩
end

/-- Not left by outgrowing. -/
class NoOut (Q : Post) : Prop where
  no : ∀ e w H, ¬ Q .outgrown e w H
instance NoOut.then {K : Env → World → Heap → Prop} {Q : Post} [h : NoOut Q] : NoOut (thenQ K Q) := ⟨fun e w H => h.no e w H⟩
instance NoOut.block {id : Nat} {Q : Post} [h : NoOut Q] : NoOut (blockQ id Q) := ⟨fun e w H => h.no e w H⟩
instance NoOut.ret {P : Program} {fn : Func} {Be : Nat} {R : Ending → World → Prop} : NoOut (retQ P fn Be R) := ⟨fun e w H h => h⟩
theorem NoOut.lift {N Be : Nat} {Q : Post} [h : NoOut Q] (a : Act) (w : World) : ¬ lift N Be Q .outgrown a w := fun ⟨_, _, _, _, _, hq⟩ => h.no _ _ _ hq

/-- A scope that nothing jumps in. -/
def scopeQ (Q : Post) : Post := fun x e w H => match x with | .goto _ => False | x => Q x e w H
instance NoOut.scope {Q : Post} [h : NoOut Q] : NoOut (scopeQ Q) := ⟨fun e w H => h.no e w H⟩
section
variable {P : Program} {N Be : Nat} {Q : Post} {e : Env} {w0 : World} {H : Heap}
theorem scope_n (h : Q .normal e w0 H) : scopeQ Q .normal e w0 H := h
theorem scope_r (h : Q .ret e w0 H) : scopeQ Q .ret e w0 H := h
theorem scope_e {id : Nat} (h : Q (.exit id) e w0 H) : scopeQ Q (.exit id) e w0 H := h
theorem sp_scope {c : Code} (h : Spc P N Be c (scopeQ Q) e w0 H) : Spc P N Be (.scope c) Q e w0 H := by
  intro a w hf hh
  refine wp_scope_straight (wp_mono (h a w hf hh) ?_)
  rintro x a w ⟨e, w0, H, h1, h2, h3⟩
  cases x <;> first | exact ⟨e, w0, H, h1, h2, h3⟩ | exact h3.elim
end

abbrev PostM := List Deferred → Post
def liftM (N Be : Nat) (Q : PostM) : Exit → Act → World → Prop := fun x a w => ∃ e w0 H, Fr N e { a with defers := [] } ∧ Hp Be w0 H w ∧ Q a.defers x e w0 H
/-- Code in a round (r) or in a function, with marks D to come behind it. -/
def SpcM (r : Option Nat) (D : List Deferred) (P : Program) (N Be : Nat) (c : Code) (Q : PostM) (e : Env) (w0 : World) (H : Heap) : Prop := ∀ a w, Fr N e a → Hp Be w0 H w → c.wpIn (fenceAt r) 0 P (liftM N Be Q) (wd a D) w
def SplI (P : Program) (N Be : Nat) (ops : Array Oper) (Q : Post) (l : List Oper) (e : Env) (w0 : World) (H : Heap) : Prop := ∀ a w, Fr N e a → Hp Be w0 H w → wpListIn (fenceAt none) 0 P ops (lift N Be Q) l a w

section rules
variable {P : Program} {r : Option Nat} {D : List Deferred} {N Be : Nat} {Q : PostM} {e : Env} {w0 : World} {H : Heap}
theorem liftM_of {a : Act} {w : World} {x : Exit} (hf : Fr N e a) (hh : Hp Be w0 H w) (h : Q D x e w0 H) : liftM N Be Q x (wd a D) w := by
  have hd := hf.defers
  refine ⟨e, w0, H, ⟨rfl, hf.size, hf.get⟩, hh, ?_⟩
  show Q (a.defers ++ D) x e w0 H
  rw [hd]; exact h
theorem liftM_lift {a : Act} {w : World} {x : Exit} (h : lift N Be (Q D) x a w) : liftM N Be Q x (wd a D) w := by
  obtain ⟨e, w0, H, hf, hh, h⟩ := h
  exact liftM_of hf hh h
theorem spm_region {id : Nat} {l : List Oper} (hnd : noDefer l = true) [NoOut (Q D)] (h : Spl P N Be l.toArray (Q D) l e w0 H) : SpcM r D P N Be (.region id l.toArray false) Q e w0 H :=
  fun a w hf hh => wpIn_region_lit (list_in (Q := lift N Be (Q D)) NoOut.lift (fun _ _ _ h => liftM_lift h) l hnd a w (h a w hf hh))
theorem spm_drawn {id : Nat} {l : List Oper} (p : List (Nat × Bool)) (m : Nat) (H1 : Heap) (hm : P.follows .mixedOrders = true) (hB : drawnB l.toArray m p = true) (hnd : noDefer l = true) (hk : HKeep w0 H1 H) (h : wlk P N Be l.toArray m (Q D) H1 p e w0 H) :
    SpcM r D P N Be (.region id l.toArray true) Q e w0 H := by
  intro a w hf hh
  simp only [drawnB, Bool.and_eq_true, decide_eq_true_eq] at hB
  obtain ⟨⟨⟨h1, h2⟩, h3⟩, h4⟩ := hB
  refine wpIn_region_any hm ?_
  have := wlk_sound h2 h1 p _ false a _ e H h4 (Cl.start rfl) hf hh.drew (fun _ => (hh.drew).sub hk) h
  rw [h3] at this
  exact any_in (by simpa using hnd) (fun _ _ hq => liftM_lift hq) _ _ _ _ this
theorem spm_seq {x y : Code} (h : SpcM r D P N Be x (fun D' => thenQ (fun e w H => SpcM r D' P N Be y Q e w H) (Q D')) e w0 H) : SpcM r D P N Be (.seq x y) Q e w0 H := by
  intro a w hf hh
  refine wpIn_seq (wpIn_mono (h a w hf hh) ?_)
  rintro x a w ⟨e, w0, H, h1, h2, h3⟩
  cases x <;> first | exact (wd_back a ▸ h3 _ w h1 h2 : Code.wpIn _ _ _ _ _ a w) | exact ⟨e, w0, H, h1, h2, h3⟩
theorem spm_skip (h : Q D .normal e w0 H) : SpcM r D P N Be .skip Q e w0 H := fun a w hf hh => wpIn_skip (liftM_of hf hh h)
theorem spm_exit {id : Nat} (h : Q D (.exit id) e w0 H) : SpcM r D P N Be (.exit id) Q e w0 H := fun a w hf hh => wpIn_exit (liftM_of hf hh h)
theorem spm_ret (h : Q D .ret e w0 H) : SpcM r D P N Be .ret Q e w0 H := fun a w hf hh => wpIn_ret (liftM_of hf hh h)
theorem spm_block {id : Nat} {c : Code} (h : SpcM r D P N Be c (fun D' => blockQ id (Q D')) e w0 H) : SpcM r D P N Be (.block id c) Q e w0 H := by
  intro a w hf hh
  refine wpIn_block (wpIn_mono (h a w hf hh) ?_)
  rintro x a w ⟨e, w0, H, h1, h2, h3⟩
  cases x <;> first | exact ⟨e, w0, H, h1, h2, h3⟩ | skip
  rename_i id'
  simp only [blockQ] at h3
  simp only [Exit.inBlock]
  split at h3
  · rename_i he; rw [if_pos he]; exact ⟨e, w0, H, h1, h2, h3⟩
  · rename_i he; rw [if_neg he]; exact ⟨e, w0, H, h1, h2, h3⟩
theorem spm_cond {c : Operand} {x y : Code} {b : Bool} (hc : Ev true e c (.bool b)) (ht : b = true → SpcM r D P N Be x Q e w0 H) (hf : b = false → SpcM r D P N Be y Q e w0 H) : SpcM r D P N Be (.cond c x y) Q e w0 H :=
  fun a w h1 h2 => wpIn_cond_split (a := wd a D) (hc N a h1 rfl) (fun hb => ht hb a w h1 h2) (fun hb => hf hb a w h1 h2)
theorem spm_cond_t {c : Operand} {x y : Code} {b : Bool} (hc : Ev true e c (.bool b)) (hb : b = true) (ht : SpcM r D P N Be x Q e w0 H) : SpcM r D P N Be (.cond c x y) Q e w0 H :=
  spm_cond hc (fun _ => ht) (fun h => by rw [hb] at h; cases h)
theorem spm_cond_f {c : Operand} {x y : Code} {b : Bool} (hc : Ev true e c (.bool b)) (hb : b = false) (hf : SpcM r D P N Be y Q e w0 H) : SpcM r D P N Be (.cond c x y) Q e w0 H :=
  spm_cond hc (fun h => by rw [hb] at h; cases h) (fun _ => hf)

/-- A function that may leave with a mark. -/
def markQ (P : Program) (fn : Func) (Be : Nat) (R : Ending → World → Prop) : PostM := fun D x e w0 H =>
  match x with
  | .ret | .normal => (D = [] ∧ ∃ v, Res fn.results P Be e w0 H v ∧ ∀ w', Hp Be w0 H w' → R (.returned v) w') ∨
      ∃ d0 H' v, D = [{ target := .collected d0, args := #[] }] ∧ Upd H d0 (.deferred (some [])) (.deferred none) H' ∧ Res fn.results P Be e w0 H' v ∧ ∀ w', Hp Be w0 H' w' → R (.returned v) w'
  | _ => False
instance NoOut.mark {P : Program} {fn : Func} {Be : Nat} {R : Ending → World → Prop} {D : List Deferred} : NoOut (markQ P fn Be R D) := ⟨fun e w H h => h⟩
theorem Hp.putObj {w : World} {H' : Heap} {g : Nat} {o o' : Obj} (h : Hp Be w0 H w) (hu : Upd H g o o' H') : Hp Be w0 H' (w.putObj g o') :=
  h.upd hu rfl rfl rfl (by simp) (fun k _ hk => World.putObj_heap_other hk) (World.putObj_heap_same (h.lt hu.mem))
theorem sp_enterD {f : FuncId} {fn : Func} {c : Code} {vs : List Value} {w : World} {R : Ending → World → Prop} (hf : P.funcs[f]? = some fn) (hb : fn.body = some c) (hN : fn.ntmps = N) (hl : Nat.ble vs.length N = true)
    (h : SpcM none [] P N w.heap.size c (markQ P fn w.heap.size R) (envOf 0 vs) w []) : Calls P f vs.toArray w R := by
  refine callsIn_wide.1 (callsIn_of_wp_marks (F := Fence.wide) (n := 0) hf hb trivial (wpIn_mono (wd_nil _ ▸ h { tmps := vs.toArray ++ Array.replicate (fn.ntmps - vs.toArray.size) undef, defers := [] } w ?_ (Hp.start w) : Code.wpIn Fence.wide 0 P c _ _ w) ?_))
  · have key : ∀ (a : Act) (w' : World) (e : Env) (w0 : World) (H : Heap), Fr N e { a with defers := [] } → Hp w.heap.size w0 H w' → markQ P fn w.heap.size R a.defers .ret e w0 H → LeavesInM Fence.wide 0 P fn a.tmps R a.defers .returning w' := by
      intro a w' e w0 H h1 h2 h3
      rcases h3 with ⟨hd, v, hv, hR⟩ | ⟨d0, H', v, hd, hu, hv, hR⟩
      · rw [hd]
        exact ⟨v, hv _ { a with defers := [] } _ fn rfl h1 h2, hR w' h2⟩
      · rw [hd]
        have hg : w'.heap[d0]? = some (.deferred (some [])) := h2.own _ hu.mem
        have h4 := h2.putObj hu
        exact ⟨by simp, .inl ⟨d0, _, rfl, run_takeDeferred hg, v, hv _ { a with defers := [] } _ fn rfl h1 h4, hR _ h4⟩⟩
    rintro x a w' ⟨e, w0, H, h1, h2, h3⟩
    cases x with
    | normal => exact key a w' e w0 H h1 h2 h3
    | ret => exact key a w' e w0 H h1 h2 h3
    | exit _ => exact h3.elim
    | goto _ => exact h3.elim
    | panic _ => exact h3.elim
    | outgrown => exact h3.elim
  · have hl' : vs.length ≤ N := Nat.le_of_ble_eq_true hl
    refine ⟨rfl, by simp [hN]; omega, fun k g v hk => ?_⟩
    obtain ⟨rfl, _, h3⟩ := look_envOf vs 0 k g v hk
    simp only [Nat.sub_zero] at h3
    have hk : k < vs.length := (List.getElem?_eq_some_iff.1 h3).1
    simp [Array.getElem?_append, hk, gv]
    have := (List.getElem?_eq_some_iff.1 h3).2
    simpa using this

/-- The statement. -/
theorem spm_rangeFunc {g : Operand} {ps : Array Tmp} {assign body : Code} {gf : FuncId} {caps : List Value} [TFn P gf] {X : Type} {V : X → Value} {st : X → LoopState} {pend : X → Option Code} {HX : X → Heap} {I : X → Prop} (hg : Ev true e g (.func (.func gf) #[] caps.toArray))
    (hcall : ∀ fn tmps l d0, Fr N e { tmps := tmps, defers := [] } → w0.heap.size ≤ l → w0.heap.size ≤ d0 → ∀ w, Hp Be w0 ((l, .loop { state := .ready, pending := none, fn, tmps, params := ps, assign, body, defers := d0 }) :: (d0, .deferred (some [])) :: H) w →
      Calls P gf (Value.func (.yield l) #[] #[] :: caps).toArray w (RetX Be w0 V (fun x => (l, .loop { state := st x, pending := pend x, fn, tmps, params := ps, assign, body, defers := d0 }) :: (d0, .deferred (some [])) :: HX x) I))
    (k : ∀ d0 x, I x → w0.heap.size ≤ d0 → st x ≠ .busy ∧ (match pend x with | none => Q [{ target := .collected d0, args := #[] }] .normal e w0 ((d0, .deferred (some [])) :: HX x) | some .ret => Q [{ target := .collected d0, args := #[] }] .ret e w0 ((d0, .deferred (some [])) :: HX x) | some _ => False)) :
    SpcM none [] P N Be (.rangeFunc g ps assign body) Q e w0 H := by
  intro a w hf hh
  rw [wd_nil]
  refine wpIn_rangeFunc fun fn hfn => ?_
  have hga := hg N a hf rfl
  obtain ⟨W1, hW1⟩ : ∃ W1, (w.alloc (.deferred (some []))).alloc (.loop { state := .ready, pending := none, fn, tmps := a.tmps, params := ps, assign, body, defers := w.heap.size }) = W1 := ⟨_, rfl⟩
  have hH1 := (hh.alloc (.deferred (some []))).alloc (.loop { state := .ready, pending := none, fn, tmps := a.tmps, params := ps, assign, body, defers := w.heap.size })
  have hsz : (w.alloc (.deferred (some []))).heap.size = w.heap.size + 1 := by simp
  rw [hsz, hW1] at hH1
  have hle := hh.size
  have hfr : Fr N e { tmps := a.tmps, defers := [] } := ⟨rfl, hf.size, hf.get⟩
  refine ⟨w.heap.size + 1, [{ target := .collected w.heap.size, args := #[] }], W1, { target := .fn (.func gf) caps.toArray, args := #[.func (.yield (w.heap.size + 1)) #[] #[]] }, W1, gf,
    (Value.func (.yield (w.heap.size + 1)) #[] #[] :: caps).toArray, W1, ?_, ?_, fun _ _ => trivial, ?_, fun h => (by cases h), ?_⟩
  · rw [← hW1]; exact run_enterLoop_outer _ _ _ _ _
  · simp only [resolve, hga]
    simp [go_sem]
  · have : (invoke (.fn (.func gf) caps.toArray) #[.func (.yield (w.heap.size + 1)) #[] #[]]) = callFunc gf (#[.func (.yield (w.heap.size + 1)) #[] #[]] ++ caps.toArray) := rfl
    rw [this]
    have h2 : (#[.func (.yield (w.heap.size + 1)) #[] #[]] ++ caps.toArray : Array Value) = (Value.func (.yield (w.heap.size + 1)) #[] #[] :: caps).toArray := by simp
    rw [h2]
    exact TFn.run W1 _
  · refine callsIn_at ((hcall fn a.tmps (w.heap.size + 1) w.heap.size hfr (by omega) hle W1 hH1).mono ?_)
    rintro en w2 ⟨x, rfl, hI, hp⟩
    obtain ⟨hst, hk⟩ := k w.heap.size x hI hle
    have hl := hp.own _ (.head _)
    have hend := run_endLoop (P := P) hl hst
    refine ⟨_, _, hend, ?_⟩
    have hp2 := (hp.putObj (o' := .loop { state := .exhausted, pending := pend x, fn, tmps := a.tmps, params := ps, assign, body, defers := w.heap.size }) Upd.here).drop (show w0.heap.size ≤ (w.heap.size + 1, Obj.loop { state := .exhausted, pending := pend x, fn, tmps := a.tmps, params := ps, assign, body, defers := w.heap.size }).1 by show w0.heap.size ≤ w.heap.size + 1; omega)
    have hd := hf.defers
    have ha : ({ a with defers := [{ target := .collected w.heap.size, args := #[] }] ++ a.defers } : Act) = wd a [{ target := .collected w.heap.size, args := #[] }] := by
      simp [wd, hd]
    rw [ha]
    cases hpd : pend x with
    | none =>
      rw [hpd] at hk hp2
      exact liftM_of hf hp2 hk
    | some c =>
      rw [hpd] at hk hp2
      cases c <;> first | exact hk.elim | skip
      exact wpIn_ret (liftM_of hf hp2 hk)

/-- How a round may end. -/
def rndQ (l : Nat) (rec : Loop) (w0 : World) {X : Type} (VB : X → Bool) (HH : X → Heap) (I : X → Prop) : PostM := fun D x e w0' H =>
  match x with
  | .normal => w0' = w0 ∧ ∃ y R1, H.Perm ((l, .loop { rec with state := .busy }) :: R1) ∧ I y ∧ VB y = true ∧ HKeep w0 (HH y) ((l, .loop { rec with state := .ready, pending := none }) :: R1)
  | .ret => w0' = w0 ∧ ∃ y R1, H.Perm ((l, .loop { rec with state := .busy }) :: R1) ∧ I y ∧ VB y = false ∧ HKeep w0 (HH y) ((l, .loop { rec with state := .done, pending := some .ret }) :: R1)
  | _ => False
instance NoOut.rnd {l : Nat} {rec : Loop} {X : Type} {VB : X → Bool} {HH : X → Heap} {I : X → Prop} {D : List Deferred} : NoOut (rndQ l rec w0 VB HH I D) := ⟨fun e w H h => h⟩
/-- What is asked behind the assignment to the loop's variables. -/
def asgQ (P : Program) (N Be l : Nat) (rec : Loop) (w0 : World) {X : Type} (VB : X → Bool) (HH : X → Heap) (I : X → Prop) : PostM := fun D x e w0' H =>
  match x with
  | .normal => w0' = w0 ∧ D = [] ∧ ∃ R1, H.Perm ((l, .loop rec) :: R1) ∧ SpcM (some l) [] P N Be rec.body (rndQ l rec w0 VB HH I) e w0 ((l, .loop { rec with state := .busy }) :: R1)
  | _ => False
instance NoOut.asg {P : Program} {N Be l : Nat} {rec : Loop} {X : Type} {VB : X → Bool} {HH : X → Heap} {I : X → Prop} {D : List Deferred} : NoOut (asgQ P N Be l rec w0 VB HH I D) := ⟨fun e w H h => h⟩
theorem asg_n {l : Nat} {rec : Loop} {X : Type} {VB : X → Bool} {HH : X → Heap} {I : X → Prop} (R1 : Heap) (hp : H.Perm ((l, .loop rec) :: R1)) (h : SpcM (some l) [] P N Be rec.body (rndQ l rec w0 VB HH I) e w0 ((l, .loop { rec with state := .busy }) :: R1)) : asgQ P N Be l rec w0 VB HH I [] .normal e w0 H :=
  ⟨rfl, rfl, R1, hp, h⟩
theorem rnd_n {l : Nat} {rec : Loop} {X : Type} {VB : X → Bool} {HH : X → Heap} {I : X → Prop} (R1 : Heap) (y : X) (hp : H.Perm ((l, .loop { rec with state := .busy }) :: R1)) (hI : I y) (hV : VB y = true) (hk : HKeep w0 (HH y) ((l, .loop { rec with state := .ready, pending := none }) :: R1)) : rndQ l rec w0 VB HH I D .normal e w0 H :=
  ⟨rfl, y, R1, hp, hI, hV, hk⟩
theorem rnd_r {l : Nat} {rec : Loop} {X : Type} {VB : X → Bool} {HH : X → Heap} {I : X → Prop} (R1 : Heap) (y : X) (hp : H.Perm ((l, .loop { rec with state := .busy }) :: R1)) (hI : I y) (hV : VB y = false) (hk : HKeep w0 (HH y) ((l, .loop { rec with state := .done, pending := some .ret }) :: R1)) : rndQ l rec w0 VB HH I D .ret e w0 H :=
  ⟨rfl, y, R1, hp, hI, hV, hk⟩
theorem markH_none {fn : Func} {rs : Array ResultVar} {w : World} {v : Value} {X : Type} {V : X → Value} {HH : X → Heap} {I : X → Prop} (hr : fn.results = rs) (h : Res rs P w.heap.size e w H v) (hv : ∃ x, v = V x ∧ I x ∧ HKeep w (HH x) H) : markQ P fn w.heap.size (RetH w V HH I) [] .ret e w H := by
  subst hr
  obtain ⟨x, rfl, hI, hk⟩ := hv
  exact .inl ⟨rfl, _, h, fun w' hh => ⟨x, rfl, hI, hh.sub hk⟩⟩
theorem markH_one {fn : Func} {rs : Array ResultVar} {w : World} {v : Value} {d0 : Nat} {H' : Heap} {X : Type} {V : X → Value} {HH : X → Heap} {I : X → Prop} (hr : fn.results = rs) (hu : Upd H d0 (.deferred (some [])) (.deferred none) H') (h : Res rs P w.heap.size e w H' v) (hv : ∃ x, v = V x ∧ I x ∧ HKeep w (HH x) H') : markQ P fn w.heap.size (RetH w V HH I) [{ target := .collected d0, args := #[] }] .ret e w H := by
  subst hr
  obtain ⟨x, rfl, hI, hk⟩ := hv
  exact .inr ⟨d0, H', _, rfl, hu, h, fun w' hh => ⟨x, rfl, hI, hh.sub hk⟩⟩
theorem SpcM.sub {c : Code} {e' : Env} {H' : Heap} (h : SpcM r D P N Be c Q e w0 H) (he : ESub e e') (hH : HKeep w0 H H') : SpcM r D P N Be c Q e' w0 H' := fun a w hf hh => h a w (hf.sub he) (hh.sub hH)
theorem yield_round {l p : Nat} {rec : Loop} {v : Value} {R : Heap} {X : Type} {VB : X → Bool} {HH : X → Heap} {I : X → Prop} (hst : rec.state = .ready) (hps : rec.params = #[p]) (hfr : Fr N e { tmps := rec.tmps, defers := [] }) (hp : Nat.blt p N = true)
    (h : SpcM (some l) [] P N Be rec.assign (asgQ P N Be l rec w0 VB HH I) ((p, true, v) :: e) w0 ((l, .loop rec) :: R)) (w : World) (hh : Hp Be w0 ((l, .loop rec) :: R) w) :
    YieldAt Fence.wide 0 P l #[v] w (RetX Be w0 (fun x => .bool (VB x)) HH I) := by
  have hl := hh.own _ (.head _)
  have hp' : p < N := by simpa [Nat.blt_eq] using hp
  have hy := run_yield (P := P) (args := #[v]) hl (by rw [hps]; rfl)
  have ht : (rec.params.zip #[v]).foldl (fun tmps (t, a) => tmps.setIfInBounds t a) rec.tmps = rec.tmps.setIfInBounds p v := by rw [hps]; simp
  rw [ht] at hy
  refine ⟨_, _, _, _, hy, roundIn_of_wpIn trivial ?_⟩
  have h1 := h { tmps := rec.tmps.setIfInBounds p v, defers := [] } w (hfr.puttrue hp') hh
  rw [wd_nil] at h1
  refine wpIn_mono (F := fenceAt (some l)) h1 ?_
  rintro x a1 w1 ⟨e1, w1', H1, hf1, hh1, hq⟩
  cases x <;> first | exact hq.elim | skip
  obtain ⟨rfl, hD, R1, hperm, hbody⟩ := hq
  have hh2 := hh1.perm hperm
  have hl2 := hh2.own _ (.head _)
  refine ⟨_, run_beginRound hl2 hst, ?_⟩
  have hh3 := hh2.putObj (o' := .loop { rec with state := .busy }) Upd.here
  have h2 := hbody { a1 with defers := [] } _ hf1 hh3
  have ha : wd { a1 with defers := [] } [] = a1 := by cases a1; simp_all [wd]
  rw [ha] at h2
  refine wpIn_mono (F := fenceAt (some l)) h2 ?_
  rintro x a2 w2 ⟨e2, w2', H2, hf2, hh4, hq⟩
  cases x <;> first | exact hq.elim | skip
  · obtain ⟨rfl, y, R2, hperm2, hI, hV, hk⟩ := hq
    have hh5 := hh4.perm hperm2
    have hl3 := hh5.own _ (.head _)
    refine ⟨_, _, run_endRound none hl3, y, (by show _ = Ending.returned (.bool (VB y)); rw [hV]; rfl), hI, ?_⟩
    exact (hh5.putObj (o' := .loop { rec with state := .ready, pending := none }) Upd.here).sub hk
  · obtain ⟨rfl, y, R2, hperm2, hI, hV, hk⟩ := hq
    have hh5 := hh4.perm hperm2
    have hl3 := hh5.own _ (.head _)
    refine ⟨_, _, run_endRound (some .ret) hl3, y, (by show _ = Ending.returned (.bool (VB y)); rw [hV]; rfl), hI, ?_⟩
    exact (hh5.putObj (o' := .loop { rec with state := .done, pending := some .ret }) Upd.here).sub hk
end rules

section
variable {P : Program} {N Be : Nat} {Q : Post} {e : Env} {w0 : World} {H : Heap} {ops : Array Oper} {rest : List Oper} {op : Op} {ty : TypeId} {pos : String} {after : Array Edge} {d : Nat} {v : Value}
theorem sp_regionI {id : Nat} {l : List Oper} (h : SplI P N Be l.toArray Q l e w0 H) : Spc P N Be (.region id l.toArray false) Q e w0 H :=
  fun a w hf hh => wpIn_wide.1 (wpIn_region_lit (h a w hf hh) : Code.wpIn Fence.wide 0 P _ _ a w)
theorem spi_pure (hN : Nat.blt d N = true) (hx : Ex P Be w0 H true e op ty v) (hnd : noDefer [⟨some d, op, ty, pos, after, none⟩] = true) (k : SplI P N Be ops Q rest ((d, true, v) :: e) w0 H) :
    SplI P N Be ops Q (⟨some d, op, ty, pos, after, none⟩ :: rest) e w0 H := by
  intro a w hf hh
  have hd : d < N := by simpa [Nat.blt_eq] using hN
  refine wpListIn_plain rfl fun K hK => ⟨fun _ _ => trivial, ?_⟩
  rw [Oper.semAt_eq _ _ _ (noDefer_mem hnd (.head _)), hx N a w _ rfl rfl hf hh rfl, Oper.uponIn_value]
  exact hK _ _ (k _ _ (hf.puttrue hd) hh)
theorem spi_of_spl {l : List Oper} (hnd : noDefer l = true) [NoOut Q] (h : Spl P N Be ops Q l e w0 H) : SplI P N Be ops Q l e w0 H := by
  intro a w hf hh
  have := list_in (r := none) (n := 0) (D := []) (Q' := lift N Be Q) NoOut.lift (fun x a w h => by rw [wd_nil]; exact h) l hnd a w (h a w hf hh)
  rwa [wd_nil] at this
/-- A call of yield. -/
theorem spi_yield {c x : Operand} {ts : Array TypeId} {l : Nat} {X : Type} {V : X → Value} {HH : X → Heap} {I : X → Prop} (hN : Nat.blt d N = true) (hcv : Ev true e c (.func (.yield l) #[] #[])) (hx : Ev true e x v)
    (hy : ∀ w, Hp Be w0 H w → YieldAt Fence.wide 0 P l #[v] w (RetX Be w0 V HH I)) (hnd : noDefer rest = true) [NoOut Q] (k : ∀ y, I y → Spl P N Be ops Q rest ((d, true, V y) :: e) w0 (HH y)) :
    SplI P N Be ops Q (⟨some d, .call ⟨.value c, #[x], ts⟩, ty, pos, after, none⟩ :: rest) e w0 H := by
  intro a w hf hh
  have hd : d < N := by simpa [Nat.blt_eq] using hN
  refine wpListIn_plain rfl fun K hK => ⟨fun _ _ => trivial, ?_⟩
  obtain ⟨fn, tmps, assign, body, hrun, hr⟩ := hy w hh
  have hex : (execOp a.eval ⟨some d, .call ⟨.value c, #[x], ts⟩, ty, pos, after, none⟩).run P w = .ok (.round l fn tmps assign body) w := by
    simp only [execOp, resolve, Deferred.ofValue, hcv N a hf rfl, hx N a hf rfl, Sem.run_bind, Sem.run_pure, Result.andThen_ok, List.map_toArray, List.map_cons, List.map_nil]
    have : (invoke (.fn (.yield l) #[]) (#[] ++ #[v])) = Instr.yield l #[v] := rfl
    rw [this]
    exact hrun
  rw [Oper.semAt_eq _ _ _ (by intro c hc; cases hc), hex, Oper.uponIn_round]
  refine ⟨fun h => (by cases h), hr.mono ?_⟩
  rintro en w' ⟨y, rfl, hI, hp⟩
  exact hK _ _ (spi_of_spl hnd (k y hI) _ _ (hf.puttrue hd) hp)
end
end Go.Sy
