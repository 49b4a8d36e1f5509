/-
  Ranges over a function: code in a round, the statement, calls of yield, functions that leave with a mark.
-/
import Derived.Test.YtfdjlphfohnnnaaQE2
import Derived.RangeFuncOwn
import Derived.OrdersIn
import Derived.TacticsIn
import Derived.Scope
import Derived.Test.YtfdjlphfohnnnaaQE1
import Derived.Recover
namespace Go.Sy
open Go.RowKit
set_option linter.unusedVariables false
set_option linter.unusedSimpArgs false

def fenceAt (r : Option Nat) : Fence := { Fence.wide with round := r }
def wd (a : Act) (D : List Deferred) : Act := { a with defers := a.defers ++ D }
theorem wd_put (a : Act) (D : List Deferred) (d : Option Tmp) (v : Value) : (wd a D).put d v = wd (a.put d v) D := by cases d <;> rfl
theorem wd_nil (a : Act) : wd a [] = a := by cases a; simp [wd]
theorem wd_back (a : Act) : wd { a with defers := [] } a.defers = a := by cases a; simp [wd]
def noDefer (l : List Oper) : Bool := l.all fun o => match o.op with | .defer _ => false | _ => true
theorem noDefer_mem {l : List Oper} (h : noDefer l = true) {o : Oper} (ho : o ∈ l) : ∀ c, o.op ≠ .defer c := by
  have := List.all_eq_true.1 h o ho
  intro c hc
  rw [hc] at this
  cases this

section
variable {P : Program} {r : Option Nat} {n : Nat} {D : List Deferred}
theorem callsIn_at {f : FuncId} {args : Array Value} {w : World} {R : Ending → World → Prop} (h : Calls P f args w R) : CallsIn (fenceAt r) n P f args w R :=
  (callsIn_wide.2 h : CallsIn Fence.wide n P f args w R)
theorem rowsIn_at {row : String} {args : Array Value} {w : World} {R : Value → World → Prop} (h : Rows P row args w R) : RowsIn (fenceAt r) n P row args w R := by
  intro c cs _
  obtain ⟨v, w', hR, hs⟩ := h c cs
  exact ⟨v, w', hR, (stepsIn_wide.2 hs : StepsIn (Machine.fenced P Fence.wide) P _ _)⟩

theorem oper_in {o : Oper} (hnd : ∀ c, o.op ≠ .defer c) {K K' : Act → World → Prop} {Q Q' : Exit → Act → World → Prop} (hK : ∀ a w, K a w → K' (wd a D) w) (hQ : ∀ x a w, Q x a w → Q' x (wd a D) w) {a : Act} {w : World} (h : o.wp P a w K Q) : o.wpIn (fenceAt r) n P (wd a D) w K' Q' := by
  refine ⟨fun _ _ => trivial, ?_⟩
  rw [Oper.semAt_eq _ _ _ hnd]
  have he : (wd a D).eval = a.eval := rfl
  rw [he]
  unfold Oper.wp at h
  generalize (execOp a.eval o).run P w = res at h ⊢
  cases res with
  | ok x w' =>
    cases x <;> simp only [Oper.upon] at h <;> simp only [Oper.uponIn]
    case value v => rw [wd_put]; exact hK _ _ h
    case skip => rw [wd_put]; exact hK _ _ h
    case defer d =>
      have : ({ wd a D with defers := d :: (wd a D).defers } : Act) = wd { a with defers := d :: a.defers } D := rfl
      rw [this, wd_put]; exact hK _ _ h
    case enter f args =>
      refine ⟨fun h => (by cases h), callsIn_at (h.mono fun en w'' he => ?_)⟩
      cases en with
      | returned v =>
        have h3 := hK _ _ he
        rw [← wd_put] at h3
        exact h3
      | panicked c => exact hQ _ _ _ he
      | outgrown => obtain ⟨a0, w0, h0⟩ := he; exact ⟨_, _, hQ _ _ _ h0⟩
    case row row args => exact ⟨fun h => (by cases h), rowsIn_at (h.mono fun v w'' he => by rw [wd_put]; exact hK _ _ he)⟩
    all_goals exact h
  | halt x w' =>
    cases x <;> simp only [Oper.upon] at h <;> simp only [Oper.uponIn]
    case panic v => exact hQ _ _ _ h

theorem list_in {ops : Array Oper} {Q Q' : Exit → Act → World → Prop} (hno : ∀ a w, ¬ Q .outgrown a w) (hQ : ∀ x a w, Q x a w → Q' x (wd a D) w) : ∀ (l : List Oper), noDefer l = true → ∀ (a : Act) (w : World), wpList P ops Q l a w → wpListIn (fenceAt r) n P ops Q' l (wd a D) w
  | [], _, a, w, h => hQ _ _ _ h
  | o :: l, hl, a, w, h => by
    have hl' : noDefer l = true := by simp only [noDefer, List.all_cons, Bool.and_eq_true] at hl ⊢; exact hl.2
    simp only [wpList] at h
    simp only [wpListIn]
    have hy : yielded ops (wd a D).tmps = yielded ops a.tmps := rfl
    rw [hy]
    split
    · rename_i hw
      rw [if_pos hw] at h
      rcases h with h | ⟨_, a0, w0, h⟩
      · exact oper_in (noDefer_mem hl (.head _)) (fun a w h => list_in hno hQ l hl' a w h) hQ h
      · exact (hno _ _ h).elim
    · rename_i hw
      rw [if_neg hw] at h
      refine ⟨fun _ _ => trivial, ?_⟩
      rw [wd_put]
      exact list_in hno hQ l hl' _ _ h

theorem any_in {ops : Array Oper} (hnd : noDefer ops.toList = true) {C : World → Prop} {Q : Act → World → Prop} {m : Nat} {Q' : Exit → Act → World → Prop} (hQ : ∀ a w, Q a w → Q' .normal (wd a D) w) : ∀ (fuel : Nat) (listed : Array Bool) (a : Act) (w : World),
    wpI P .any ops m C Q fuel listed a w → wpAnyIn (fenceAt r) n P .any ops Q' fuel listed (wd a D) w
  | 0, _, _, _, h => ⟨h.1, hQ _ _ h.2⟩
  | fuel + 1, listed, a, w, h => ⟨fun h0 => hQ _ _ (h.1 h0), fun i hi => by
      have h1 := h.2 i hi
      unfold opI at h1
      unfold wpOpIn
      have hy : yielded ops (wd a D).tmps = yielded ops a.tmps := rfl
      split
      · rename_i ho; simp only [ho] at h1; exact any_in hnd hQ fuel _ _ _ h1.2
      · rename_i o ho
        simp only [ho] at h1
        rw [hy]
        split
        · rename_i hw; simp only [hw, if_true] at h1; exact oper_in (noDefer_mem hnd (Array.mem_toList_iff.2 (Array.mem_of_getElem? ho))) (fun a' w' h2 => any_in hnd hQ fuel _ _ _ h2.2) (Q := fun _ _ _ => False) (fun _ _ _ h => h.elim) h1
        · rename_i hw; simp only [hw] at h1; exact ⟨fun _ _ => trivial, by rw [wd_put]; exact any_in hnd hQ fuel _ _ _ h1.2⟩⟩
end

/-- Not left by outgrowing. -/
class NoOut (Q : Post) : Prop where
  no : ∀ e w H, ¬ Q .outgrown e w H
instance NoOut.then {K : Env → World → Heap → Prop} {Q : Post} [h : NoOut Q] : NoOut (thenQ K Q) := ⟨fun e w H => h.no e w H⟩
instance NoOut.block {id : Nat} {Q : Post} [h : NoOut Q] : NoOut (blockQ id Q) := ⟨fun e w H => h.no e w H⟩
instance NoOut.ret {P : Program} {fn : Func} {Be : Nat} {R : Ending → World → Prop} : NoOut (retQ P fn Be R) := ⟨fun e w H h => h⟩
theorem NoOut.lift {N Be : Nat} {Q : Post} [h : NoOut Q] (a : Act) (w : World) : ¬ lift N Be Q .outgrown a w := fun ⟨_, _, _, _, _, hq⟩ => h.no _ _ _ hq

/-- A scope that nothing jumps in. -/
def scopeQ (Q : Post) : Post := fun x e w H => match x with | .goto _ => False | x => Q x e w H
instance NoOut.scope {Q : Post} [h : NoOut Q] : NoOut (scopeQ Q) := ⟨fun e w H => h.no e w H⟩
section
variable {P : Program} {N Be : Nat} {Q : Post} {e : Env} {w0 : World} {H : Heap}
theorem scope_n (h : Q .normal e w0 H) : scopeQ Q .normal e w0 H := h
theorem scope_r (h : Q .ret e w0 H) : scopeQ Q .ret e w0 H := h
theorem scope_e {id : Nat} (h : Q (.exit id) e w0 H) : scopeQ Q (.exit id) e w0 H := h
theorem sp_scope {c : Code} (h : Spc P N Be c (scopeQ Q) e w0 H) : Spc P N Be (.scope c) Q e w0 H := by
  intro a w hf hh
  refine wp_scope_straight (wp_mono (h a w hf hh) ?_)
  rintro x a w ⟨e, w0, H, h1, h2, h3⟩
  cases x <;> first | exact ⟨e, w0, H, h1, h2, h3⟩ | exact h3.elim
end

abbrev PostM := List Deferred → Post
def liftM (N Be : Nat) (Q : PostM) : Exit → Act → World → Prop := fun x a w => ∃ e w0 H, Fr N e { a with defers := [] } ∧ Hp Be w0 H w ∧ Q a.defers x e w0 H
/-- Code in a round (r) or in a function, with marks D to come behind it. -/
def SpcM (r : Option Nat) (D : List Deferred) (P : Program) (N Be : Nat) (c : Code) (Q : PostM) (e : Env) (w0 : World) (H : Heap) : Prop := ∀ a w, Fr N e a → Hp Be w0 H w → c.wpIn (fenceAt r) 0 P (liftM N Be Q) (wd a D) w
def SplI (P : Program) (N Be : Nat) (ops : Array Oper) (Q : Post) (l : List Oper) (e : Env) (w0 : World) (H : Heap) : Prop := ∀ a w, Fr N e a → Hp Be w0 H w → wpListIn (fenceAt none) 0 P ops (lift N Be Q) l a w

section rules
variable {P : Program} {r : Option Nat} {D : List Deferred} {N Be : Nat} {Q : PostM} {e : Env} {w0 : World} {H : Heap}
theorem liftM_of {a : Act} {w : World} {x : Exit} (hf : Fr N e a) (hh : Hp Be w0 H w) (h : Q D x e w0 H) : liftM N Be Q x (wd a D) w := by
  have hd := hf.defers
  refine ⟨e, w0, H, ⟨rfl, hf.size, hf.get⟩, hh, ?_⟩
  show Q (a.defers ++ D) x e w0 H
  rw [hd]; exact h
theorem liftM_lift {a : Act} {w : World} {x : Exit} (h : lift N Be (Q D) x a w) : liftM N Be Q x (wd a D) w := by
  obtain ⟨e, w0, H, hf, hh, h⟩ := h
  exact liftM_of hf hh h
theorem spm_region {id : Nat} {l : List Oper} (hnd : noDefer l = true) [NoOut (Q D)] (h : Spl P N Be l.toArray (Q D) l e w0 H) : SpcM r D P N Be (.region id l.toArray false) Q e w0 H :=
  fun a w hf hh => wpIn_region_lit (list_in (Q := lift N Be (Q D)) NoOut.lift (fun _ _ _ h => liftM_lift h) l hnd a w (h a w hf hh))
theorem spm_drawn {id : Nat} {l : List Oper} (p : List (Nat × Bool)) (m : Nat) (H1 : Heap) (hm : P.follows .mixedOrders = true) (hB : drawnB l.toArray m p = true) (hnd : noDefer l = true) (hk : HKeep w0 H1 H) (h : wlk P N Be l.toArray m (Q D) H1 p e w0 H) :
    SpcM r D P N Be (.region id l.toArray true) Q e w0 H := by
  intro a w hf hh
  simp only [drawnB, Bool.and_eq_true, decide_eq_true_eq] at hB
  obtain ⟨⟨⟨h1, h2⟩, h3⟩, h4⟩ := hB
  refine wpIn_region_any hm ?_
  have := wlk_sound h2 h1 p _ false a _ e H h4 (Cl.start rfl) hf hh.drew (fun _ => (hh.drew).sub hk) h
  rw [h3] at this
  exact any_in (by simpa using hnd) (fun _ _ hq => liftM_lift hq) _ _ _ _ this
theorem spm_seq {x y : Code} (h : SpcM r D P N Be x (fun D' => thenQ (fun e w H => SpcM r D' P N Be y Q e w H) (Q D')) e w0 H) : SpcM r D P N Be (.seq x y) Q e w0 H := by
  intro a w hf hh
  refine wpIn_seq (wpIn_mono (h a w hf hh) ?_)
  rintro x a w ⟨e, w0, H, h1, h2, h3⟩
  cases x <;> first | exact (wd_back a ▸ h3 _ w h1 h2 : Code.wpIn _ _ _ _ _ a w) | exact ⟨e, w0, H, h1, h2, h3⟩
theorem spm_skip (h : Q D .normal e w0 H) : SpcM r D P N Be .skip Q e w0 H := fun a w hf hh => wpIn_skip (liftM_of hf hh h)
theorem spm_exit {id : Nat} (h : Q D (.exit id) e w0 H) : SpcM r D P N Be (.exit id) Q e w0 H := fun a w hf hh => wpIn_exit (liftM_of hf hh h)
theorem spm_ret (h : Q D .ret e w0 H) : SpcM r D P N Be .ret Q e w0 H := fun a w hf hh => wpIn_ret (liftM_of hf hh h)
theorem spm_block {id : Nat} {c : Code} (h : SpcM r D P N Be c (fun D' => blockQ id (Q D')) e w0 H) : SpcM r D P N Be (.block id c) Q e w0 H := by
  intro a w hf hh
  refine wpIn_block (wpIn_mono (h a w hf hh) ?_)
  rintro x a w ⟨e, w0, H, h1, h2, h3⟩
  cases x <;> first | exact ⟨e, w0, H, h1, h2, h3⟩ | skip
  rename_i id'
  simp only [blockQ] at h3
  simp only [Exit.inBlock]
  split at h3
  · rename_i he; rw [if_pos he]; exact ⟨e, w0, H, h1, h2, h3⟩
  · rename_i he; rw [if_neg he]; exact ⟨e, w0, H, h1, h2, h3⟩
theorem spm_cond {c : Operand} {x y : Code} {b : Bool} (hc : Ev true e c (.bool b)) (ht : b = true → SpcM r D P N Be x Q e w0 H) (hf : b = false → SpcM r D P N Be y Q e w0 H) : SpcM r D P N Be (.cond c x y) Q e w0 H :=
  fun a w h1 h2 => wpIn_cond_split (a := wd a D) (hc N a h1 rfl) (fun hb => ht hb a w h1 h2) (fun hb => hf hb a w h1 h2)
theorem spm_cond_t {c : Operand} {x y : Code} {b : Bool} (hc : Ev true e c (.bool b)) (hb : b = true) (ht : SpcM r D P N Be x Q e w0 H) : SpcM r D P N Be (.cond c x y) Q e w0 H :=
  spm_cond hc (fun _ => ht) (fun h => by rw [hb] at h; cases h)
theorem spm_cond_f {c : Operand} {x y : Code} {b : Bool} (hc : Ev true e c (.bool b)) (hb : b = false) (hf : SpcM r D P N Be y Q e w0 H) : SpcM r D P N Be (.cond c x y) Q e w0 H :=
  spm_cond hc (fun h => by rw [hb] at h; cases h) (fun _ => hf)

/-- A function that may leave with a mark. -/
def markQ (P : Program) (fn : Func) (Be : Nat) (R : Ending → World → Prop) : PostM := fun D x e w0 H =>
  match x with
  | .ret | .normal => (D = [] ∧ ∃ v, Res fn.results P Be e w0 H v ∧ ∀ w', Hp Be w0 H w' → R (.returned v) w') ∨
      ∃ d0 H' v, D = [{ target := .collected d0, args := #[] }] ∧ Upd H d0 (.deferred (some [])) (.deferred none) H' ∧ Res fn.results P Be e w0 H' v ∧ ∀ w', Hp Be w0 H' w' → R (.returned v) w'
  | _ => False
instance NoOut.mark {P : Program} {fn : Func} {Be : Nat} {R : Ending → World → Prop} {D : List Deferred} : NoOut (markQ P fn Be R D) := ⟨fun e w H h => h⟩
theorem Hp.putObj {w : World} {H' : Heap} {g : Nat} {o o' : Obj} (h : Hp Be w0 H w) (hu : Upd H g o o' H') : Hp Be w0 H' (w.putObj g o') :=
  h.upd hu rfl rfl rfl (by simp) (fun k _ hk => World.putObj_heap_other hk) (World.putObj_heap_same (h.lt hu.mem))
theorem sp_enterD {f : FuncId} {fn : Func} {c : Code} {vs : List Value} {w : World} {R : Ending → World → Prop} (hf : P.funcs[f]? = some fn) (hb : fn.body = some c) (hN : fn.ntmps = N) (hl : Nat.ble vs.length N = true)
    (h : SpcM none [] P N w.heap.size c (markQ P fn w.heap.size R) (envOf 0 vs) w []) : Calls P f vs.toArray w R := by
  refine callsIn_wide.1 (callsIn_of_wp_marks (F := Fence.wide) (n := 0) hf hb trivial (wpIn_mono (wd_nil _ ▸ h { tmps := vs.toArray ++ Array.replicate (fn.ntmps - vs.toArray.size) undef, defers := [] } w ?_ (Hp.start w) : Code.wpIn Fence.wide 0 P c _ _ w) ?_))
  · have key : ∀ (a : Act) (w' : World) (e : Env) (w0 : World) (H : Heap), Fr N e { a with defers := [] } → Hp w.heap.size w0 H w' → markQ P fn w.heap.size R a.defers .ret e w0 H → LeavesInM Fence.wide 0 P fn a.tmps R a.defers .returning w' := by
      intro a w' e w0 H h1 h2 h3
      rcases h3 with ⟨hd, v, hv, hR⟩ | ⟨d0, H', v, hd, hu, hv, hR⟩
      · rw [hd]
        exact ⟨v, hv _ { a with defers := [] } _ fn rfl h1 h2, hR w' h2⟩
      · rw [hd]
        have hg : w'.heap[d0]? = some (.deferred (some [])) := h2.own _ hu.mem
        have h4 := h2.putObj hu
        exact ⟨by simp, .inl ⟨d0, _, rfl, run_takeDeferred hg, v, hv _ { a with defers := [] } _ fn rfl h1 h4, hR _ h4⟩⟩
    rintro x a w' ⟨e, w0, H, h1, h2, h3⟩
    cases x with
    | normal => exact key a w' e w0 H h1 h2 h3
    | ret => exact key a w' e w0 H h1 h2 h3
    | exit _ => exact h3.elim
    | goto _ => exact h3.elim
    | panic _ => exact h3.elim
    | outgrown => exact h3.elim
  · have hl' : vs.length ≤ N := Nat.le_of_ble_eq_true hl
    refine ⟨rfl, by simp [hN]; omega, fun k g v hk => ?_⟩
    obtain ⟨rfl, _, h3⟩ := look_envOf vs 0 k g v hk
    simp only [Nat.sub_zero] at h3
    have hk : k < vs.length := (List.getElem?_eq_some_iff.1 h3).1
    simp [Array.getElem?_append, hk, gv]
    have := (List.getElem?_eq_some_iff.1 h3).2
    simpa using this

/-- The statement. -/
theorem spm_rangeFunc {g : Operand} {ps : Array Tmp} {assign body : Code} {gf : FuncId} {caps : List Value} [TFn P gf] {X : Type} {V : X → Value} {st : X → LoopState} {pend : X → Option Code} {HX : X → Heap} {I : X → Prop} (hg : Ev true e g (.func (.func gf) #[] caps.toArray))
    (hcall : ∀ fn tmps l d0, Fr N e { tmps := tmps, defers := [] } → w0.heap.size ≤ l → w0.heap.size ≤ d0 → ∀ w, Hp Be w0 ((l, .loop { state := .ready, pending := none, fn, tmps, params := ps, assign, body, defers := d0 }) :: (d0, .deferred (some [])) :: H) w →
      Calls P gf (Value.func (.yield l) #[] #[] :: caps).toArray w (RetX Be w0 V (fun x => (l, .loop { state := st x, pending := pend x, fn, tmps, params := ps, assign, body, defers := d0 }) :: (d0, .deferred (some [])) :: HX x) I))
    (k : ∀ d0 x, I x → w0.heap.size ≤ d0 → st x ≠ .busy ∧ (match pend x with | none => Q [{ target := .collected d0, args := #[] }] .normal e w0 ((d0, .deferred (some [])) :: HX x) | some .ret => Q [{ target := .collected d0, args := #[] }] .ret e w0 ((d0, .deferred (some [])) :: HX x) | some _ => False)) :
    SpcM none [] P N Be (.rangeFunc g ps assign body) Q e w0 H := by
  intro a w hf hh
  rw [wd_nil]
  refine wpIn_rangeFunc fun fn hfn => ?_
  have hga := hg N a hf rfl
  obtain ⟨W1, hW1⟩ : ∃ W1, (w.alloc (.deferred (some []))).alloc (.loop { state := .ready, pending := none, fn, tmps := a.tmps, params := ps, assign, body, defers := w.heap.size }) = W1 := ⟨_, rfl⟩
  have hH1 := (hh.alloc (.deferred (some []))).alloc (.loop { state := .ready, pending := none, fn, tmps := a.tmps, params := ps, assign, body, defers := w.heap.size })
  have hsz : (w.alloc (.deferred (some []))).heap.size = w.heap.size + 1 := by simp
  rw [hsz, hW1] at hH1
  have hle := hh.size
  have hfr : Fr N e { tmps := a.tmps, defers := [] } := ⟨rfl, hf.size, hf.get⟩
  refine ⟨w.heap.size + 1, [{ target := .collected w.heap.size, args := #[] }], W1, { target := .fn (.func gf) caps.toArray, args := #[.func (.yield (w.heap.size + 1)) #[] #[]] }, W1, gf,
    (Value.func (.yield (w.heap.size + 1)) #[] #[] :: caps).toArray, W1, ?_, ?_, fun _ _ => trivial, ?_, fun h => (by cases h), ?_⟩
  · rw [← hW1]; exact run_enterLoop_outer _ _ _ _ _
  · simp only [resolve, hga]
    simp [go_sem]
  · have : (invoke (.fn (.func gf) caps.toArray) #[.func (.yield (w.heap.size + 1)) #[] #[]]) = callFunc gf (#[.func (.yield (w.heap.size + 1)) #[] #[]] ++ caps.toArray) := rfl
    rw [this]
    have h2 : (#[.func (.yield (w.heap.size + 1)) #[] #[]] ++ caps.toArray : Array Value) = (Value.func (.yield (w.heap.size + 1)) #[] #[] :: caps).toArray := by simp
    rw [h2]
    exact TFn.run W1 _
  · refine callsIn_at ((hcall fn a.tmps (w.heap.size + 1) w.heap.size hfr (by omega) hle W1 hH1).mono ?_)
    rintro en w2 ⟨x, rfl, hI, hp⟩
    obtain ⟨hst, hk⟩ := k w.heap.size x hI hle
    have hl := hp.own _ (.head _)
    have hend := run_endLoop (P := P) hl hst
    refine ⟨_, _, hend, ?_⟩
    have hp2 := (hp.putObj (o' := .loop { state := .exhausted, pending := pend x, fn, tmps := a.tmps, params := ps, assign, body, defers := w.heap.size }) Upd.here).drop (show w0.heap.size ≤ (w.heap.size + 1, Obj.loop { state := .exhausted, pending := pend x, fn, tmps := a.tmps, params := ps, assign, body, defers := w.heap.size }).1 by show w0.heap.size ≤ w.heap.size + 1; omega)
    have hd := hf.defers
    have ha : ({ a with defers := [{ target := .collected w.heap.size, args := #[] }] ++ a.defers } : Act) = wd a [{ target := .collected w.heap.size, args := #[] }] := by
      simp [wd, hd]
    rw [ha]
    cases hpd : pend x with
    | none =>
      rw [hpd] at hk hp2
      exact liftM_of hf hp2 hk
    | some c =>
      rw [hpd] at hk hp2
      cases c <;> first | exact hk.elim | skip
      exact wpIn_ret (liftM_of hf hp2 hk)

/-- How a round may end. -/
def rndQ (l : Nat) (rec : Loop) (w0 : World) {X : Type} (VB : X → Bool) (HH : X → Heap) (I : X → Prop) : PostM := fun D x e w0' H =>
  match x with
  | .normal => w0' = w0 ∧ ∃ y R1, H.Perm ((l, .loop { rec with state := .busy }) :: R1) ∧ I y ∧ VB y = true ∧ HKeep w0 (HH y) ((l, .loop { rec with state := .ready, pending := none }) :: R1)
  | .ret => w0' = w0 ∧ ∃ y R1, H.Perm ((l, .loop { rec with state := .busy }) :: R1) ∧ I y ∧ VB y = false ∧ HKeep w0 (HH y) ((l, .loop { rec with state := .done, pending := some .ret }) :: R1)
  | _ => False
instance NoOut.rnd {l : Nat} {rec : Loop} {X : Type} {VB : X → Bool} {HH : X → Heap} {I : X → Prop} {D : List Deferred} : NoOut (rndQ l rec w0 VB HH I D) := ⟨fun e w H h => h⟩
/-- What is asked behind the assignment to the loop's variables. -/
def asgQ (P : Program) (N Be l : Nat) (rec : Loop) (w0 : World) {X : Type} (VB : X → Bool) (HH : X → Heap) (I : X → Prop) : PostM := fun D x e w0' H =>
  match x with
  | .normal => w0' = w0 ∧ D = [] ∧ ∃ R1, H.Perm ((l, .loop rec) :: R1) ∧ SpcM (some l) [] P N Be rec.body (rndQ l rec w0 VB HH I) e w0 ((l, .loop { rec with state := .busy }) :: R1)
  | _ => False
instance NoOut.asg {P : Program} {N Be l : Nat} {rec : Loop} {X : Type} {VB : X → Bool} {HH : X → Heap} {I : X → Prop} {D : List Deferred} : NoOut (asgQ P N Be l rec w0 VB HH I D) := ⟨fun e w H h => h⟩
theorem asg_n {l : Nat} {rec : Loop} {X : Type} {VB : X → Bool} {HH : X → Heap} {I : X → Prop} (R1 : Heap) (hp : H.Perm ((l, .loop rec) :: R1)) (h : SpcM (some l) [] P N Be rec.body (rndQ l rec w0 VB HH I) e w0 ((l, .loop { rec with state := .busy }) :: R1)) : asgQ P N Be l rec w0 VB HH I [] .normal e w0 H :=
  ⟨rfl, rfl, R1, hp, h⟩
theorem rnd_n {l : Nat} {rec : Loop} {X : Type} {VB : X → Bool} {HH : X → Heap} {I : X → Prop} (R1 : Heap) (y : X) (hp : H.Perm ((l, .loop { rec with state := .busy }) :: R1)) (hI : I y) (hV : VB y = true) (hk : HKeep w0 (HH y) ((l, .loop { rec with state := .ready, pending := none }) :: R1)) : rndQ l rec w0 VB HH I D .normal e w0 H :=
  ⟨rfl, y, R1, hp, hI, hV, hk⟩
theorem rnd_r {l : Nat} {rec : Loop} {X : Type} {VB : X → Bool} {HH : X → Heap} {I : X → Prop} (R1 : Heap) (y : X) (hp : H.Perm ((l, .loop { rec with state := .busy }) :: R1)) (hI : I y) (hV : VB y = false) (hk : HKeep w0 (HH y) ((l, .loop { rec with state := .done, pending := some .ret }) :: R1)) : rndQ l rec w0 VB HH I D .ret e w0 H :=
  ⟨rfl, y, R1, hp, hI, hV, hk⟩
theorem markH_none {fn : Func} {rs : Array ResultVar} {w : World} {v : Value} {X : Type} {V : X → Value} {HH : X → Heap} {I : X → Prop} (hr : fn.results = rs) (h : Res rs P w.heap.size e w H v) (hv : ∃ x, v = V x ∧ I x ∧ HKeep w (HH x) H) : markQ P fn w.heap.size (RetH w V HH I) [] .ret e w H := by
  subst hr
  obtain ⟨x, rfl, hI, hk⟩ := hv
  exact .inl ⟨rfl, _, h, fun w' hh => ⟨x, rfl, hI, hh.sub hk⟩⟩
theorem markH_one {fn : Func} {rs : Array ResultVar} {w : World} {v : Value} {d0 : Nat} {H' : Heap} {X : Type} {V : X → Value} {HH : X → Heap} {I : X → Prop} (hr : fn.results = rs) (hu : Upd H d0 (.deferred (some [])) (.deferred none) H') (h : Res rs P w.heap.size e w H' v) (hv : ∃ x, v = V x ∧ I x ∧ HKeep w (HH x) H') : markQ P fn w.heap.size (RetH w V HH I) [{ target := .collected d0, args := #[] }] .ret e w H := by
  subst hr
  obtain ⟨x, rfl, hI, hk⟩ := hv
  exact .inr ⟨d0, H', _, rfl, hu, h, fun w' hh => ⟨x, rfl, hI, hh.sub hk⟩⟩
theorem SpcM.sub {c : Code} {e' : Env} {H' : Heap} (h : SpcM r D P N Be c Q e w0 H) (he : ESub e e') (hH : HKeep w0 H H') : SpcM r D P N Be c Q e' w0 H' := fun a w hf hh => h a w (hf.sub he) (hh.sub hH)
theorem yield_round {l p : Nat} {rec : Loop} {v : Value} {R : Heap} {X : Type} {VB : X → Bool} {HH : X → Heap} {I : X → Prop} (hst : rec.state = .ready) (hps : rec.params = #[p]) (hfr : Fr N e { tmps := rec.tmps, defers := [] }) (hp : Nat.blt p N = true)
    (h : SpcM (some l) [] P N Be rec.assign (asgQ P N Be l rec w0 VB HH I) ((p, true, v) :: e) w0 ((l, .loop rec) :: R)) (w : World) (hh : Hp Be w0 ((l, .loop rec) :: R) w) :
    YieldAt Fence.wide 0 P l #[v] w (RetX Be w0 (fun x => .bool (VB x)) HH I) := by
  have hl := hh.own _ (.head _)
  have hp' : p < N := by simpa [Nat.blt_eq] using hp
  have hy := run_yield (P := P) (args := #[v]) hl (by rw [hps]; rfl)
  have ht : (rec.params.zip #[v]).foldl (fun tmps (t, a) => tmps.setIfInBounds t a) rec.tmps = rec.tmps.setIfInBounds p v := by rw [hps]; simp
  rw [ht] at hy
  refine ⟨_, _, _, _, hy, roundIn_of_wpIn trivial ?_⟩
  have h1 := h { tmps := rec.tmps.setIfInBounds p v, defers := [] } w (hfr.puttrue hp') hh
  rw [wd_nil] at h1
  refine wpIn_mono (F := fenceAt (some l)) h1 ?_
  rintro x a1 w1 ⟨e1, w1', H1, hf1, hh1, hq⟩
  cases x <;> first | exact hq.elim | skip
  obtain ⟨rfl, hD, R1, hperm, hbody⟩ := hq
  have hh2 := hh1.perm hperm
  have hl2 := hh2.own _ (.head _)
  refine ⟨_, run_beginRound hl2 hst, ?_⟩
  have hh3 := hh2.putObj (o' := .loop { rec with state := .busy }) Upd.here
  have h2 := hbody { a1 with defers := [] } _ hf1 hh3
  have ha : wd { a1 with defers := [] } [] = a1 := by cases a1; simp_all [wd]
  rw [ha] at h2
  refine wpIn_mono (F := fenceAt (some l)) h2 ?_
  rintro x a2 w2 ⟨e2, w2', H2, hf2, hh4, hq⟩
  cases x <;> first | exact hq.elim | skip
  · obtain ⟨rfl, y, R2, hperm2, hI, hV, hk⟩ := hq
    have hh5 := hh4.perm hperm2
    have hl3 := hh5.own _ (.head _)
    refine ⟨_, _, run_endRound none hl3, y, (by show _ = Ending.returned (.bool (VB y)); rw [hV]; rfl), hI, ?_⟩
    exact (hh5.putObj (o' := .loop { rec with state := .ready, pending := none }) Upd.here).sub hk
  · obtain ⟨rfl, y, R2, hperm2, hI, hV, hk⟩ := hq
    have hh5 := hh4.perm hperm2
    have hl3 := hh5.own _ (.head _)
    refine ⟨_, _, run_endRound (some .ret) hl3, y, (by show _ = Ending.returned (.bool (VB y)); rw [hV]; rfl), hI, ?_⟩
    exact (hh5.putObj (o' := .loop { rec with state := .done, pending := some .ret }) Upd.here).sub hk
end rules

section
variable {P : Program} {N Be : Nat} {Q : Post} {e : Env} {w0 : World} {H : Heap} {ops : Array Oper} {rest : List Oper} {op : Op} {ty : TypeId} {pos : String} {after : Array Edge} {d : Nat} {v : Value}
theorem sp_regionI {id : Nat} {l : List Oper} (h : SplI P N Be l.toArray Q l e w0 H) : Spc P N Be (.region id l.toArray false) Q e w0 H :=
  fun a w hf hh => wpIn_wide.1 (wpIn_region_lit (h a w hf hh) : Code.wpIn Fence.wide 0 P _ _ a w)
theorem spi_pure (hN : Nat.blt d N = true) (hx : Ex P Be w0 H true e op ty v) (hnd : noDefer [⟨some d, op, ty, pos, after, none⟩] = true) (k : SplI P N Be ops Q rest ((d, true, v) :: e) w0 H) :
    SplI P N Be ops Q (⟨some d, op, ty, pos, after, none⟩ :: rest) e w0 H := by
  intro a w hf hh
  have hd : d < N := by simpa [Nat.blt_eq] using hN
  refine wpListIn_plain rfl fun K hK => ⟨fun _ _ => trivial, ?_⟩
  rw [Oper.semAt_eq _ _ _ (noDefer_mem hnd (.head _)), hx N a w _ rfl rfl hf hh rfl, Oper.uponIn_value]
  exact hK _ _ (k _ _ (hf.puttrue hd) hh)
theorem spi_of_spl {l : List Oper} (hnd : noDefer l = true) [NoOut Q] (h : Spl P N Be ops Q l e w0 H) : SplI P N Be ops Q l e w0 H := by
  intro a w hf hh
  have := list_in (r := none) (n := 0) (D := []) (Q' := lift N Be Q) NoOut.lift (fun x a w h => by rw [wd_nil]; exact h) l hnd a w (h a w hf hh)
  rwa [wd_nil] at this
/-- A call of yield. -/
theorem spi_yield {c x : Operand} {ts : Array TypeId} {l : Nat} {X : Type} {V : X → Value} {HH : X → Heap} {I : X → Prop} (hN : Nat.blt d N = true) (hcv : Ev true e c (.func (.yield l) #[] #[])) (hx : Ev true e x v)
    (hy : ∀ w, Hp Be w0 H w → YieldAt Fence.wide 0 P l #[v] w (RetX Be w0 V HH I)) (hnd : noDefer rest = true) [NoOut Q] (k : ∀ y, I y → Spl P N Be ops Q rest ((d, true, V y) :: e) w0 (HH y)) :
    SplI P N Be ops Q (⟨some d, .call ⟨.value c, #[x], ts⟩, ty, pos, after, none⟩ :: rest) e w0 H := by
  intro a w hf hh
  have hd : d < N := by simpa [Nat.blt_eq] using hN
  refine wpListIn_plain rfl fun K hK => ⟨fun _ _ => trivial, ?_⟩
  obtain ⟨fn, tmps, assign, body, hrun, hr⟩ := hy w hh
  have hex : (execOp a.eval ⟨some d, .call ⟨.value c, #[x], ts⟩, ty, pos, after, none⟩).run P w = .ok (.round l fn tmps assign body) w := by
    simp only [execOp, resolve, Deferred.ofValue, hcv N a hf rfl, hx N a hf rfl, Sem.run_bind, Sem.run_pure, Result.andThen_ok, List.map_toArray, List.map_cons, List.map_nil]
    have : (invoke (.fn (.yield l) #[]) (#[] ++ #[v])) = Instr.yield l #[v] := rfl
    rw [this]
    exact hrun
  rw [Oper.semAt_eq _ _ _ (by intro c hc; cases hc), hex, Oper.uponIn_round]
  refine ⟨fun h => (by cases h), hr.mono ?_⟩
  rintro en w' ⟨y, rfl, hI, hp⟩
  exact hK _ _ (spi_of_spl hnd (k y hI) _ _ (hf.puttrue hd) hp)
end
end Go.Sy
/-
  Contracts: the iterator of tokens: its class function, the closure.
-/
namespace Go.Proofs.Ytfdjlphfohnnnaa
open Go.RowKit Go.Sy
set_option linter.unusedVariables false
set_option linter.unusedSimpArgs false
def clsAt (t : ByteArray) (i : Nat) : Nat := match (tx t)[i]? with | some c => cls c | none => 0
theorem clsAt_at {t : ByteArray} {i : Nat} {c : UInt8} {h : i < t.size} (hb : t[i] = c) : clsAt t i = cls c := by
  have h1 : i < (tx t).length := by rw [tx_len]; exact h
  unfold clsAt
  rw [List.getElem?_eq_getElem h1]
  exact congrArg cls hb
theorem clsAt_end {t : ByteArray} {i : Nat} (h : t.size ≤ i) : clsAt t i = 0 := by
  unfold clsAt
  rw [List.getElem?_eq_none (by rw [tx_len]; exact h)]
theorem clsAt_word (t : ByteArray) (i : Nat) : ((decide (((clsAt t i : Nat) : Int) = 3) || decide (((clsAt t i : Nat) : Int) = 4)) || decide (((clsAt t i : Nat) : Int) = 5)) = headIs isWord ((tx t).drop i) := by
  by_cases h : i < t.size
  · obtain ⟨c, hb, hd⟩ := drop_at h
    obtain ⟨f3, f4, f5, -⟩ := clsF c
    rw [clsAt_at hb, hd, f3, f4, f5]
    rfl
  · rw [clsAt_end (by omega), drop_end (by omega)]
    rfl
theorem clsAt_digit (t : ByteArray) (i : Nat) : decide (((clsAt t i : Nat) : Int) = 4) = headIs isDigit ((tx t).drop i) := by
  by_cases h : i < t.size
  · obtain ⟨c, hb, hd⟩ := drop_at h
    obtain ⟨f3, f4, f5, -⟩ := clsF c
    rw [clsAt_at hb, hd, f4]
    rfl
  · rw [clsAt_end (by omega), drop_end (by omega)]
    rfl
instance zeroAt : TZero Try.prog 113 .nilFunc := ⟨by kernel_rfl⟩
/-- The iterator's own blocks. -/
def TH (t : ByteArray) (g1 g3 g4 : Nat) : Heap := [(g4, .cells #[.func (.func 73) #[] #[.pointer (some ⟨g1, 0, none⟩), .pointer (some ⟨g3, 0, none⟩)]] 113 (0, 0)), (g3, .cells clsA 108 (0, 0)), (g1, .cells #[.string t] 9 (0, 0))]
attribute [local irreducible] Calls thenQ blockQ retQ Spc Spl Spq Ex Ev Evs Gd Upd ESub HKeep Res Res1 wlk effQ Rem SrcAt Split tabA clsA

set_option maxRecDepth 100000 in
theorem at_c {w : World} {g1 g3 : Nat} (t : ByteArray) (h1 : w.heap[g1]? = some (.cells #[.string t] 9 (0, 0))) (h3 : w.heap[g3]? = some (.cells clsA 108 (0, 0))) (i : Nat) :
    Calls Try.prog 73 #[.int .i64 (i : Int), .pointer (some ⟨g1, 0, none⟩), .pointer (some ⟨g3, 0, none⟩)] w (Ret w (.int .u8 ((clsAt t i : Nat) : Int))) := by
  refine sp_enter (vs := [_, _, _]) Try.func73 rfl Try.ntmps73 rfl ?_
  by_cases h : i < t.size
  · obtain ⟨c, hb, hd⟩ := drop_at h
    have hat := clsA_at c
    repeat (first|apply then_n|apply sp_seq|apply sp_region|apply spl_nil|(apply sp_cond_f;(·exact eT rfl);(·(exact decide_eq_false (by omega))))|apply sp_skip|apply sp_ret|((apply spl_pure rfl);(·(first|(apply ex_sindexE h hb;(·exact eT rfl);(·exact eT rfl))|(apply ex_indexAddrA;(·exact eT rfl);(·exact eT rfl);(·exact c.toNat_lt))|(apply ex_loadown;(·exact eT rfl);(·(exact Bk.old (by assumption) (Nat.le_refl _)));(·exact hat))|((first|apply ex_move|apply ex_assign|apply ex_geq)<;>(first|exact eT rfl|exact eC))|((apply ex_slen)<;>(exact eT rfl))|((apply ex_loadown)<;>(first|exact eT rfl|exact Bk.old (by assumption) (Nat.le_refl _)|rfl))))))
    (apply ret_ok rfl;(·((apply Res.ofOne;((apply Res1.tmp;(·rfl)))))))
    rw [clsAt_at hb]
  · repeat (first|apply then_n|apply sp_seq|apply sp_region|apply spl_nil|apply then_r|((apply sp_cond_t);(·exact eT rfl);(·(exact decide_eq_true (by omega))))|apply sp_ret|((apply spl_pure rfl);(·(first|((first|apply ex_move|apply ex_assign|apply ex_geq)<;>(first|exact eT rfl|exact eC))|((apply ex_slen)<;>(exact eT rfl))|((apply ex_loadown)<;>(first|exact eT rfl|exact Bk.old (by assumption) (Nat.le_refl _)|rfl))))))
    (apply ret_ok rfl;(·((apply Res.ofOne;((apply Res1.tmp;(·rfl)))))))
    rw [clsAt_end (by omega)]
    rfl
set_option maxRecDepth 100000 in
theorem tokens_c {w : World} (t : ByteArray) : Calls Try.prog 52 #[.string t] w (RetH w (fun x : Nat × Nat × Nat => .func (.func 74) #[] #[.pointer (some ⟨x.1, 0, none⟩), .pointer (some ⟨x.2.2, 0, none⟩)]) (fun x => TH t x.1 x.2.1 x.2.2) (fun _ => True)) := by
  refine sp_enter (vs := [_]) Try.func52 rfl Try.ntmps52 rfl ?_
  have hs00 := tabA_size 0
  have hs1 := clsA_size
  have hon := clsA_ones
  repeat (first|(apply spl_callp rfl;(·(repeat (exact eN)));(·exact fun w' hh => classes_c))|apply then_n|apply sp_seq|apply sp_region|apply spl_nil|apply sp_ret|((apply spl_pure rfl);(·(first|(apply ex_assign<;>(first|exact eT rfl|exact eC))|(apply ex_makeFunc<;>(((repeat (first|exact eN|(apply eS;(·exact eT rfl))));done))))))|(apply spl_box;(·exact eT rfl);(·rfl);intro _ _)|(apply spl_alloc rfl;intro _ _)|(apply spl_store1;(·exact eT rfl);(·exact eT rfl);(·rfl);(·(repeat (exact Upd.here)));(·rfl))|(apply spl_stores;(·exact eT rfl);(·exact eT rfl);(·(repeat (exact Upd.here)));(·(assumption));(·(assumption));(·(assumption))))
  rename_i g1 hg1 g3 hg3 g4 hg4
  (apply retH_ok rfl;(·((apply Res.ofOne;((apply Res1.tmp;(·rfl)))))))
  exact ⟨(g1, g3, g4), rfl, trivial, by unfold TH; (repeat (exact HKeep.refl))⟩
end Go.Proofs.Ytfdjlphfohnnnaa
/-
  Contracts: the iterator of tokens.
-/
namespace Go.Proofs.Ytfdjlphfohnnnaa
open Go.RowKit Go.Sy
set_option linter.unusedVariables false
set_option linter.unusedSimpArgs false
/-- What is handed to yield. -/
def fcells (k : Nat) (s : ByteArray) (a e : Nat) : Array Value := #[.int .i64 (k : Int), .string s, .int .i64 (a : Int), .int .i64 (e : Int)]
def fv (k : Nat) (s : ByteArray) (a e : Nat) : Value := .agg (fcells k s a e)
theorem TH_w {t : ByteArray} {g1 g3 g4 Be : Nat} {w0 w : World} {H : Heap} (hh : Hp Be w0 (H ++ TH t g1 g3 g4) w) : w.heap[g1]? = some (.cells #[.string t] 9 (0, 0)) ∧ w.heap[g3]? = some (.cells clsA 108 (0, 0)) :=
  ⟨hh.own (g1, _) (by simp [TH]), hh.own (g3, _) (by simp [TH])⟩
theorem TH_w2 {t : ByteArray} {g1 g3 g4 Be : Nat} {w0 w : World} {H : Heap} {p : Nat × Obj} (hh : Hp Be w0 (p :: (H ++ TH t g1 g3 g4)) w) : w.heap[g1]? = some (.cells #[.string t] 9 (0, 0)) ∧ w.heap[g3]? = some (.cells clsA 108 (0, 0)) :=
  ⟨hh.own (g1, _) (by simp [TH]), hh.own (g3, _) (by simp [TH])⟩
theorem TH_w3 {t : ByteArray} {g1 g3 g4 Be : Nat} {w0 w : World} {H : Heap} {p : Nat × Obj} (hh : Hp Be w0 (H ++ p :: TH t g1 g3 g4) w) : w.heap[g1]? = some (.cells #[.string t] 9 (0, 0)) ∧ w.heap[g3]? = some (.cells clsA 108 (0, 0)) :=
  ⟨hh.own (g1, _) (by simp [TH]), hh.own (g3, _) (by simp [TH])⟩
instance {t : ByteArray} {g1 g3 g4 : Nat} : InH (TH t g1 g3 g4) g1 (Obj.cells #[.string t] 9 (0, 0)) := ⟨by simp [TH]⟩
instance {t : ByteArray} {g1 g3 g4 : Nat} : InH (TH t g1 g3 g4) g4 (Obj.cells #[.func (.func 73) #[] #[.pointer (some ⟨g1, 0, none⟩), .pointer (some ⟨g3, 0, none⟩)]] 113 (0, 0)) := ⟨by simp [TH]⟩
theorem ex_buildE {P : Program} {Be : Nat} {w0 : World} {H : Heap} {G : Bool} {e : Env} {ty t : TypeId} {z : Value} {pl : List (Nat × Nat)} {ps : List (Nat × Operand)} {vs : List Value} {r : Array Value} [hz : TZero P t z] [hp : TPlaces P t pl] (h : Evs G e (ps.map (·.2)) vs) (hok : fillOk pl z.cells.toList.length (zipI ps vs) = true) (hr : (fillL pl z.cells.toList (zipI ps vs)).toArray = r) :
    Ex P Be w0 H G e (.build t ps.toArray) ty (.agg r) := by
  subst hr
  exact ex_build h hok
theorem lexN_at {t : ByteArray} {k kd n : Nat} {s : List UInt8} {c : UInt8} (hd : (tx t).drop k = c :: (tx t).drop (k + 1)) (h1 : isBlank c = false) (h2 : ¬ c.toNat = 35) (ht : tokC c ((tx t).drop (k + 1)) = .tok kd s n) :
    lexN ((tx t).drop k) k = (⟨kd, ofL s, k⟩ :: (lexN ((tx t).drop (k + n)) (k + n)).1, (lexN ((tx t).drop (k + n)) (k + n)).2) := by
  have h := lexN_tok (a := k) ((congrArg (skipM false) hd).trans (skipM_cons h1 h2)) ht
  rw [h, ← hd, Nat.sub_self, Nat.add_zero, List.drop_drop]
theorem lexN_at_err {t : ByteArray} {k e : Nat} {c : UInt8} (hd : (tx t).drop k = c :: (tx t).drop (k + 1)) (h1 : isBlank c = false) (h2 : ¬ c.toNat = 35) (ht : tokC c ((tx t).drop (k + 1)) = .err e) :
    lexN ((tx t).drop k) k = ([], some (e, k)) := by
  have h := lexN_err (a := k) ((congrArg (skipM false) hd).trans (skipM_cons h1 h2)) ht
  rw [h, ← hd, Nat.sub_self, Nat.add_zero]
theorem extract_run {p : UInt8 → Bool} (t : ByteArray) (k : Nat) : ofL (((tx t).drop k).takeWhile p) = t.extract k (k + (((tx t).drop k).takeWhile p).length) := by
  apply tx_inj
  rw [tx_ofL, tx_extract, List.drop_take, Nat.add_sub_cancel_left, takeWhile_take]
theorem lex_more {t : ByteArray} {pre : List Tk} {k m : Nat} {tk : Tk} (hL : lexA t = (pre ++ (lexN ((tx t).drop k) k).1, (lexN ((tx t).drop k) k).2)) (h : lexN ((tx t).drop k) k = (tk :: (lexN ((tx t).drop m) m).1, (lexN ((tx t).drop m) m).2)) :
    lexA t = ((pre ++ [tk]) ++ (lexN ((tx t).drop m) m).1, (lexN ((tx t).drop m) m).2) ∧ (∃ q, (lexA t).1 = pre ++ tk :: q) := by
  rw [hL, h]
  exact ⟨by simp, _, rfl⟩
theorem lex_last {t : ByteArray} {pre : List Tk} {k e : Nat} (hL : lexA t = (pre ++ (lexN ((tx t).drop k) k).1, (lexN ((tx t).drop k) k).2)) (h : lexN ((tx t).drop k) k = ([], some (e, k))) : lexA t = (pre, some (e, k)) := by
  rw [hL, h]; simp
theorem clsAt_nd {t : ByteArray} {i : Nat} (h : headIs isDigit ((tx t).drop i) = false) : (decide (((clsAt t i : Nat) : Int) = 3) || decide (((clsAt t i : Nat) : Int) = 5)) = headIs isWord ((tx t).drop i) := by
  rw [← clsAt_digit] at h
  rw [← clsAt_word, h, Bool.or_false]
/-- The body of the loop. -/
def loopAt (f : Func) : Code := match f.body with | some (.scope (.seq _ (.seq _ (.block _ (.loop b))))) => b | _ => .skip
/-- Who is yielded to. -/
structure Yld (Be : Nat) (w0 : World) (l : Nat) (t : ByteArray) (J : List Tk → Heap → Prop) (Jx : List Tk → Tk → Heap → Prop) (Je : Nat → Nat → Heap → Prop) : Prop where
  hyT : ∀ pre tk H R, J pre H → (∃ q, (lexA t).1 = pre ++ tk :: q) → ∀ w, Hp Be w0 (H ++ R) w → YieldAt Fence.wide 0 Try.prog l #[fv tk.kind tk.text tk.pos 0] w (RetX Be w0 (fun x : Bool × Heap => .bool x.1) (fun x => x.2 ++ R) (fun x => (x.1 = true → J (pre ++ [tk]) x.2) ∧ (x.1 = false → Jx pre tk x.2)))
  hyE : ∀ pre k s a e H R, J pre H → lexA t = (pre, some (e, a)) → e ≠ 0 → ∀ w, Hp Be w0 (H ++ R) w → YieldAt Fence.wide 0 Try.prog l #[fv k s a e] w (RetX Be w0 (fun x : Heap => .bool false) (fun x => x ++ R) (fun x => Je e a x))
def tokR (Be : Nat) (w0 : World) (g1 g3 g4 : Nat) (t : ByteArray) (J : List Tk → Heap → Prop) (Jx : List Tk → Tk → Heap → Prop) (Je : Nat → Nat → Heap → Prop) : Ending → World → Prop :=
  RetX Be w0 (fun _ : Heap => .tuple #[]) (fun x => x ++ TH t g1 g3 g4) (fun x => (J (lexA t).1 x ∧ (lexA t).2 = none) ∨ (∃ pre tk q, (lexA t).1 = pre ++ tk :: q ∧ Jx pre tk x) ∨ (∃ e a, (lexA t).2 = some (e, a) ∧ Je e a x))
def rdQ (Be : Nat) (w0 : World) (l g1 g3 g4 : Nat) (t : ByteArray) (J : List Tk → Heap → Prop) (Jx : List Tk → Tk → Heap → Prop) (Je : Nat → Nat → Heap → Prop) (k : Nat) : Post :=
  thenQ (fun e' w' H' => ∃ x : Nat × List Tk × Heap, (x.1 ≤ t.size ∧ J x.2.1 x.2.2 ∧ lexA t = (x.2.1 ++ (lexN ((tx t).drop x.1) x.1).1, (lexN ((tx t).drop x.1) x.1).2)) ∧ t.size - x.1 < t.size - k ∧
    ESub [(4, true, .int .i64 (x.1 : Int)), (0, true, .func (.yield l) #[] #[]), (1, true, .pointer (some ⟨g1, 0, none⟩)), (2, true, .pointer (some ⟨g4, 0, none⟩))] e' ∧ w0 = w' ∧ HKeep w' (x.2.2 ++ TH t g1 g3 g4) H')
    (blockQ 0 (scopeQ (retQ Try.prog Try.f74 Be (tokR Be w0 g1 g3 g4 t J Jx Je))))
end Go.Proofs.Ytfdjlphfohnnnaa
/-
  The iterator of tokens: a round of its loop: letters.
-/
namespace Go.Proofs.Ytfdjlphfohnnnaa
open Go.RowKit Go.Sy
set_option linter.unusedVariables false
set_option linter.unusedSimpArgs false
attribute [local irreducible] Calls thenQ blockQ retQ Spc Spl SplI Spq Ex Ev Evs Gd Upd ESub HKeep Res Res1 wlk effQ Rem SrcAt Split tabA clsA TH scopeQ

set_option maxRecDepth 100000 in
set_option maxHeartbeats 4000000 in
theorem round_letter {Be : Nat} {w0 : World} {g1 g3 g4 l : Nat} {t : ByteArray} (ht : t.size < 1000000) {J : List Tk → Heap → Prop} {Jx : List Tk → Tk → Heap → Prop} {Je : Nat → Nat → Heap → Prop} (hY0 : Yld Be w0 l t J Jx Je)
    {k : Nat} {pre : List Tk} {H : Heap} (hk : k ≤ t.size) (hJ : J pre H) (hL : lexA t = (pre ++ (lexN ((tx t).drop k) k).1, (lexN ((tx t).drop k) k).2)) (hlt : k < t.size) {c : UInt8} (hb : t[k] = c) (hd : (tx t).drop k = c :: (tx t).drop (k + 1)) (hlet : isLetter c = true) :
    Spc Try.prog 149 Be (loopAt Try.f74) (rdQ Be w0 l g1 g3 g4 t J Jx Je k) [(4, true, .int .i64 (k : Int)), (0, true, .func (.yield l) #[] #[]), (1, true, .pointer (some ⟨g1, 0, none⟩)), (2, true, .pointer (some ⟨g4, 0, none⟩))] w0 (H ++ TH t g1 g3 g4) := by
  -- Try.func74 rfl 
  obtain ⟨hyT, hyE⟩ := hY0
  have hlen := tx_len t
  have hcl := clsAt_at hb
  obtain ⟨f3, f4, f5, f1, f2, f6, f7⟩ := clsF c
  rw [← hcl] at f1 f2 f3 f4 f5 f6 f7
  unfold rdQ
  have hC := of_decide_eq_true (f3.trans hlet)
  have hbl : isBlank c = false := f1 ▸ decide_eq_false (by omega)
  have hha : ¬ c.toNat = 35 := fun h => of_decide_eq_false (f2 ▸ decide_eq_false (by omega) : decide ((c.toNat : Int) = 35) = false) (by omega)
  repeat (first|(apply spl_callv (f:=73) (first:=[]) (cap:=[.pointer (some ⟨g1, 0, none⟩), .pointer (some ⟨g3, 0, none⟩)]) rfl;(·exact eT rfl);(·(repeat (first|exact eN|(apply eS;(·exact eT rfl)))));(·exact fun w' hh => at_c t (TH_w2 hh).1 (TH_w2 hh).2 _))|apply then_n|apply sp_seq|apply sp_region|apply spl_nil|((apply sp_cond_t);(·exact eT rfl);(·(exact decide_eq_true (by omega))))|(apply sp_cond_f;(·exact eT rfl);(·(exact decide_eq_false (by omega))))|apply sp_skip|apply sp_block|((apply spl_pure rfl);(·(first|(apply ex_buildE (r:=#[.int .i64 0, .string ⟨#[]⟩, .int .i64 (k : Int)]);(·(repeat (first|exact eN|(apply eS;(·(first|exact eT rfl|exact eC))))));(·rfl);(·rfl))|(apply ex_buildE (r:=fcells 0 ⟨#[]⟩ k 10);(·(repeat (first|exact eN|(apply eS;(·(first|exact eT rfl|exact eC))))));(·rfl);(·rfl))|((first|apply ex_move|apply ex_assign|apply ex_lss|apply ex_seql)<;>(exact eT rfl))|((first|apply ex_eql|apply ex_slen)<;>(first|exact eT rfl|exact eC))|((apply ex_loadown)<;>(first|exact eT rfl|exact Bk.own InH.mem|rfl)))))|(apply spl_alloc rfl;intro _ _)|(apply spl_stores;(·exact eT rfl);(·exact eT rfl);(·(repeat (exact Upd.here)));(·(rfl));(·(rfl));(·exact ones_of_all rfl)))
  rename_i g6 hg6
  refine sp_loop (X := Nat) (fun j => [(4, true, .int .i64 (j : Int)), (7, true, .int .u8 ((clsAt t j : Nat) : Int)), (5, true, .int .i64 (k : Int)), (6, true, .pointer (some ⟨g6, 0, none⟩)), (0, true, .func (.yield l) #[] #[]), (1, true, .pointer (some ⟨g1, 0, none⟩)), (2, true, .pointer (some ⟨g4, 0, none⟩))]) (fun _ => w0) (fun _ => (g6, .cells (fcells 0 ⟨#[]⟩ k 10) 93 (0, 0)) :: (H ++ TH t g1 g3 g4))
    (fun j => k ≤ j ∧ j ≤ t.size ∧ (((tx t).drop k).takeWhile isWord).length = (j - k) + (((tx t).drop j).takeWhile isWord).length) (fun j => t.size - j) k ⟨Nat.le_refl _, by omega, by omega⟩ (by (repeat (first|exact ESub.nil|apply ESub.cons rfl))) rfl (by (repeat (exact HKeep.refl))) ?_
  rintro j ⟨hkj, hj, hrun⟩
  cases hw : headIs isWord ((tx t).drop j) with
  | true =>
    have hcond := (clsAt_word t j).trans hw
    have hlt2 : j < t.size := Nat.lt_of_not_le fun h => by rw [drop_end h] at hw; cases hw
    obtain ⟨d, hb2, hd2⟩ := drop_at hlt2
    have hpd : isWord d = true := by rw [hd2] at hw; simpa [headIs] using hw
    repeat (first|(apply sp_cond_t;(·exact eT rfl);(·exact hcond))|(apply spl_callv (f:=73) (first:=[]) (cap:=[.pointer (some ⟨g1, 0, none⟩), .pointer (some ⟨g3, 0, none⟩)]) rfl;(·exact eT rfl);(·(repeat (first|exact eN|(apply eS;(·exact eT rfl)))));(·exact fun w' hh => at_c t (TH_w2 hh).1 (TH_w2 hh).2 _))|apply then_n|apply block_n|apply sp_seq|apply sp_region|apply spl_nil|apply sp_skip|apply sp_block|((first|apply spl_pure rfl|(apply spl_pure_g rfl;(·exact Gd.tf rfl rfl)));(·(first|((first|apply ex_move|apply ex_assign|apply ex_seql)<;>(exact eT rfl))|((first|apply ex_eql|apply ex_orT)<;>(first|exact eT rfl|exact eC|exact eG rfl))|((apply ex_addn)<;>(first|exact eT rfl|exact eC|(constructor<;>omega)))|((apply ex_loadown)<;>(first|exact eT rfl|exact Bk.own InH.mem|rfl))))))
    exact ⟨j + 1, ⟨by omega, by omega, by rw [hrun, hd2, takeWhile_step hpd, List.length_cons]; omega⟩, by omega, (by (repeat (first|exact ESub.nil|apply ESub.cons rfl))), rfl, (by (repeat (exact HKeep.refl)))⟩
  | false =>
    have hcond := (clsAt_word t j).trans hw
    have hj' : j = k + (((tx t).drop k).takeWhile isWord).length := by rw [hrun, takeWhile_head hw, List.length_nil]; omega
    have hex := extract_run (p := isWord) t k
    rw [← hj'] at hex
    repeat (first|(apply sp_cond_f;(·exact eT rfl);(·exact hcond))|apply then_n|apply sp_seq|apply sp_region|apply spl_nil|apply then_e|apply block_here|apply sp_exit|((first|apply spl_pure rfl|(apply spl_pure_g rfl;(·exact Gd.tf rfl rfl)));(·(first|((first|apply ex_move|apply ex_seql)<;>(exact eT rfl))|((first|apply ex_eql|apply ex_orT)<;>(first|exact eT rfl|exact eC|exact eG rfl))))))
    refine sp_drawn [(0, true), (1, true), (2, true), (3, true), (4, true), (5, true), (6, false), (7, true), (8, true), (9, false), (10, true), (11, false)] 12 (H ++ TH t g1 g3 g4) mixed (by kernel_rfl) (by (repeat (first|exact HKeep.refl|(apply HKeep.app;(·(repeat (first|exact Split.here|apply Split.cons))))|apply HKeep.drop (by first|assumption|omega)))) ?_
    by_cases h24 : 24 < (((tx t).drop k).takeWhile isWord).length
    · have ht : tokC c ((tx t).drop (k + 1)) = .err 7 := by unfold tokC; rw [if_pos hlet, ← hd, if_pos h24]
      have hL1 := lex_last hL (lexN_at_err hd hbl hha ht)
      have hY := hyE pre 1 (t.extract k j) k 7 H ((g6, .cells (fcells 1 (t.extract k j) k 7) 93 (0, 0)) :: TH t g1 g3 g4) hJ hL1 (by decide)
      repeat (first|(apply sp_regionI (id:=33))|(apply spi_pure rfl;(·(first|((apply ex_move)<;>(exact eT rfl))|(apply ex_loadowns<;>(first|exact eT rfl|exact Bk.own InH.mem|(rfl)))));(·rfl))|apply then_n|apply block_n|apply sp_seq|apply sp_region|apply spl_nil|((apply sp_cond_t);(·exact eT rfl);(·(exact decide_eq_true (by omega))))|((first|apply spl_pure rfl|apply wlk_read rfl rfl);(·(first|((first|apply ex_move|apply ex_fieldAddr'|apply ex_gtr)<;>(first|exact eT rfl|exact eC))|((apply ex_subn)<;>(first|exact eT rfl|(constructor<;>omega)))|((apply ex_loadown)<;>(first|exact eT rfl|exact Bk.own InH.mem|rfl))|((apply ex_sslice)<;>(first|exact eT rfl|(constructor<;>omega))))))|(apply spl_store1;(·exact eT rfl);(·(first|exact eT rfl|exact eC));(·rfl);(·(repeat (exact Upd.here)));(·rfl))|(apply effq;(·(intro h_;((repeat (first|exact HKeep.refl|(apply HKeep.app;(·(repeat (first|exact Split.here|apply Split.cons))))|apply HKeep.drop (by first|assumption|omega)))))))|apply wlk_nil|apply wlk_eff rfl)
      repeat (first|apply scope_r|(apply spi_yield rfl;(·exact eT rfl);(·exact eT rfl);(·exact fun w' hh => hY w' (hh.perm List.perm_middle.symm));(·rfl);(intro H' hye))|apply then_n|apply spl_nil|apply then_r|apply block_r|((apply sp_cond_t);(·exact eT rfl);(·(rfl)))|apply sp_ret|((first|apply spl_pure rfl|(apply spl_pure_g rfl;(·exact Gd.tf rfl rfl)));(·(first|((first|apply ex_move|apply ex_fieldAddr'|apply ex_not|apply ex_sneq)<;>(exact eT rfl))|((first|apply ex_neq|apply ex_orT)<;>(first|exact eT rfl|exact eC|exact eG rfl))|((apply ex_loadown)<;>(first|exact eG rfl|exact Bk.own InH.mem|rfl))))))
      repeat (apply scope_n)
      (apply retX_ok rfl;(·exact Res.none_))
      exact ⟨H', rfl, .inr (.inr ⟨7, k, by rw [hL1], hye⟩), by (repeat (first|exact HKeep.refl|(apply HKeep.app;(·(repeat (exact Split.here))))|apply HKeep.drop (by first|assumption|omega)))⟩
    · have ht : tokC c ((tx t).drop (k + 1)) = .tok 1 (((tx t).drop k).takeWhile isWord) (((tx t).drop k).takeWhile isWord).length := by unfold tokC; rw [if_pos hlet, ← hd, if_neg h24]
      have hn := tokL_len c _ _ _ _ ht
      rw [List.length_cons, List.length_drop, hlen] at hn
      have hN := lexN_at hd hbl hha ht
      rw [hex, ← hj'] at hN
      obtain ⟨hL1, q, hq⟩ := lex_more hL hN
      have hY := hyT pre ⟨1, t.extract k j, k⟩ H ((g6, .cells (fcells 1 (t.extract k j) k 0) 93 (0, 0)) :: TH t g1 g3 g4) hJ ⟨q, hq⟩
      repeat (first|(apply sp_regionI (id:=33))|(apply spi_pure rfl;(·(first|((apply ex_move)<;>(exact eT rfl))|(apply ex_loadowns<;>(first|exact eT rfl|exact Bk.own InH.mem|(rfl)))));(·rfl))|apply then_n|apply block_n|apply sp_seq|apply sp_region|apply spl_nil|(apply sp_cond_f;(·exact eT rfl);(·(exact decide_eq_false (by omega))))|apply sp_skip|((first|apply spl_pure rfl|apply wlk_read rfl rfl);(·(first|((first|apply ex_move|apply ex_fieldAddr'|apply ex_gtr)<;>(first|exact eT rfl|exact eC))|((apply ex_subn)<;>(first|exact eT rfl|(constructor<;>omega)))|((apply ex_loadown)<;>(first|exact eT rfl|exact Bk.own InH.mem|rfl))|((apply ex_sslice)<;>(first|exact eT rfl|(constructor<;>omega))))))|(apply spl_store1;(·exact eT rfl);(·(first|exact eT rfl|exact eC));(·rfl);(·(repeat (exact Upd.here)));(·rfl))|(apply effq;(·(intro h_;((repeat (first|exact HKeep.refl|(apply HKeep.app;(·(repeat (first|exact Split.here|apply Split.cons))))|apply HKeep.drop (by first|assumption|omega)))))))|apply wlk_nil|apply wlk_eff rfl)
      repeat (first|apply scope_r|(apply spi_yield rfl;(·exact eT rfl);(·exact eT rfl);(·exact fun w' hh => hY w' (hh.perm List.perm_middle.symm));(·rfl);(rintro ⟨y, H'⟩ ⟨hyt, hyf⟩;cases y))|apply then_n|apply spl_nil|apply then_r|apply block_r|((apply sp_cond_t);(·exact eT rfl);(·(rfl)))|apply sp_ret|((first|apply spl_pure rfl|(apply spl_pure_g rfl;(·exact Gd.tf rfl rfl)));(·(first|((first|apply ex_move|apply ex_fieldAddr'|apply ex_not|apply ex_sneq)<;>(exact eT rfl))|((first|apply ex_neq|apply ex_orT)<;>(first|exact eT rfl|exact eC|exact eG rfl))|((apply ex_loadown)<;>(first|exact eG rfl|exact Bk.own InH.mem|rfl))))))
      · skip
        repeat (apply scope_n)
        (apply retX_ok rfl;(·exact Res.none_))
        exact ⟨H', rfl, .inr (.inl ⟨pre, ⟨1, t.extract k j, k⟩, q, hq, hyf rfl⟩), by (repeat (first|exact HKeep.refl|(apply HKeep.app;(·(repeat (exact Split.here))))|apply HKeep.drop (by first|assumption|omega)))⟩
      · skip
        repeat (first|apply then_n|apply block_n|apply spl_nil|(apply sp_cond_f;(·exact eT rfl);(·(rfl)))|apply sp_skip|((first|apply spl_pure rfl|(apply spl_pure_g rfl;(·exact Gd.tf rfl rfl)));(·(first|((first|apply ex_move|apply ex_fieldAddr'|apply ex_not|apply ex_sneq)<;>(exact eT rfl))|((first|apply ex_neq|apply ex_orT)<;>(first|exact eT rfl|exact eC))|((apply ex_loadown)<;>(first|exact eT rfl|exact Bk.own InH.mem|rfl))))))
        exact ⟨(j, pre ++ [⟨1, t.extract k j, k⟩], H'), ⟨by (show j ≤ t.size; omega), hyt rfl, hL1⟩, by (show t.size - j < t.size - k; omega), (by (repeat (first|exact ESub.nil|apply ESub.cons rfl))), rfl, (by (repeat (first|exact HKeep.refl|(apply HKeep.app;(·(repeat (exact Split.here))))|apply HKeep.drop (by first|assumption|omega))))⟩
end Go.Proofs.Ytfdjlphfohnnnaa
/-
  The iterator of tokens: a round of its loop: digits.
-/
namespace Go.Proofs.Ytfdjlphfohnnnaa
open Go.RowKit Go.Sy
set_option linter.unusedVariables false
set_option linter.unusedSimpArgs false
attribute [local irreducible] Calls thenQ blockQ retQ Spc Spl SplI Spq Ex Ev Evs Gd Upd ESub HKeep Res Res1 wlk effQ Rem SrcAt Split tabA clsA TH scopeQ

set_option maxRecDepth 100000 in
set_option maxHeartbeats 4000000 in
theorem round_digit {Be : Nat} {w0 : World} {g1 g3 g4 l : Nat} {t : ByteArray} (ht : t.size < 1000000) {J : List Tk → Heap → Prop} {Jx : List Tk → Tk → Heap → Prop} {Je : Nat → Nat → Heap → Prop} (hY0 : Yld Be w0 l t J Jx Je)
    {k : Nat} {pre : List Tk} {H : Heap} (hk : k ≤ t.size) (hJ : J pre H) (hL : lexA t = (pre ++ (lexN ((tx t).drop k) k).1, (lexN ((tx t).drop k) k).2)) (hlt : k < t.size) {c : UInt8} (hb : t[k] = c) (hd : (tx t).drop k = c :: (tx t).drop (k + 1)) (hdig : isDigit c = true) :
    Spc Try.prog 149 Be (loopAt Try.f74) (rdQ Be w0 l g1 g3 g4 t J Jx Je k) [(4, true, .int .i64 (k : Int)), (0, true, .func (.yield l) #[] #[]), (1, true, .pointer (some ⟨g1, 0, none⟩)), (2, true, .pointer (some ⟨g4, 0, none⟩))] w0 (H ++ TH t g1 g3 g4) := by
  -- Try.func74 rfl 
  obtain ⟨hyT, hyE⟩ := hY0
  have hlen := tx_len t
  have hcl := clsAt_at hb
  obtain ⟨f3, f4, f5, f1, f2, f6, f7⟩ := clsF c
  rw [← hcl] at f1 f2 f3 f4 f5 f6 f7
  unfold rdQ
  have hlet : isLetter c = false := by
    rw [← f3]
    have := of_decide_eq_true (f4.trans hdig)
    exact decide_eq_false (by omega)
  have hC := of_decide_eq_true (f4.trans hdig)
  have hbl : isBlank c = false := f1 ▸ decide_eq_false (by omega)
  have hha : ¬ c.toNat = 35 := fun h => of_decide_eq_false (f2 ▸ decide_eq_false (by omega) : decide ((c.toNat : Int) = 35) = false) (by omega)
  repeat (first|(apply spl_callv (f:=73) (first:=[]) (cap:=[.pointer (some ⟨g1, 0, none⟩), .pointer (some ⟨g3, 0, none⟩)]) rfl;(·exact eT rfl);(·(repeat (first|exact eN|(apply eS;(·exact eT rfl)))));(·exact fun w' hh => at_c t (TH_w2 hh).1 (TH_w2 hh).2 _))|apply then_n|apply sp_seq|apply sp_region|apply spl_nil|((apply sp_cond_t);(·exact eT rfl);(·(exact decide_eq_true (by omega))))|(apply sp_cond_f;(·exact eT rfl);(·(exact decide_eq_false (by omega))))|apply sp_skip|apply sp_block|((apply spl_pure rfl);(·(first|(apply ex_buildE (r:=#[.int .i64 0, .string ⟨#[]⟩, .int .i64 (k : Int)]);(·(repeat (first|exact eN|(apply eS;(·(first|exact eT rfl|exact eC))))));(·rfl);(·rfl))|(apply ex_buildE (r:=fcells 0 ⟨#[]⟩ k 10);(·(repeat (first|exact eN|(apply eS;(·(first|exact eT rfl|exact eC))))));(·rfl);(·rfl))|((first|apply ex_move|apply ex_assign|apply ex_lss|apply ex_seql)<;>(exact eT rfl))|((first|apply ex_eql|apply ex_slen)<;>(first|exact eT rfl|exact eC))|((apply ex_loadown)<;>(first|exact eT rfl|exact Bk.own InH.mem|rfl)))))|(apply spl_alloc rfl;intro _ _)|(apply spl_stores;(·exact eT rfl);(·exact eT rfl);(·(repeat (exact Upd.here)));(·(rfl));(·(rfl));(·exact ones_of_all rfl)))
  rename_i g6 hg6
  refine sp_loop (X := Nat) (fun j => [(4, true, .int .i64 (j : Int)), (5, true, .int .i64 (k : Int)), (6, true, .pointer (some ⟨g6, 0, none⟩)), (0, true, .func (.yield l) #[] #[]), (1, true, .pointer (some ⟨g1, 0, none⟩)), (2, true, .pointer (some ⟨g4, 0, none⟩))]) (fun _ => w0) (fun _ => (g6, .cells (fcells 0 ⟨#[]⟩ k 10) 93 (0, 0)) :: (H ++ TH t g1 g3 g4))
    (fun j => k ≤ j ∧ j ≤ t.size ∧ (((tx t).drop k).takeWhile isDigit).length = (j - k) + (((tx t).drop j).takeWhile isDigit).length) (fun j => t.size - j) k ⟨Nat.le_refl _, by omega, by omega⟩ (by (repeat (first|exact ESub.nil|apply ESub.cons rfl))) rfl (by (repeat (exact HKeep.refl))) ?_
  rintro j ⟨hkj, hj, hrun⟩
  cases hw : headIs isDigit ((tx t).drop j) with
  | true =>
    have hcond := (clsAt_digit t j).trans hw
    have hlt2 : j < t.size := Nat.lt_of_not_le fun h => by rw [drop_end h] at hw; cases hw
    obtain ⟨d, hb2, hd2⟩ := drop_at hlt2
    have hpd : isDigit d = true := by rw [hd2] at hw; simpa [headIs] using hw
    repeat (first|(apply sp_cond_t;(·exact eT rfl);(·exact hcond))|(apply spl_callv (f:=73) (first:=[]) (cap:=[.pointer (some ⟨g1, 0, none⟩), .pointer (some ⟨g3, 0, none⟩)]) rfl;(·exact eT rfl);(·(repeat (first|exact eN|(apply eS;(·exact eT rfl)))));(·exact fun w' hh => at_c t (TH_w2 hh).1 (TH_w2 hh).2 _))|apply then_n|apply block_n|apply sp_seq|apply sp_region|apply spl_nil|apply sp_skip|apply sp_block|((apply spl_pure rfl);(·(first|((first|apply ex_move|apply ex_assign|apply ex_seql)<;>(exact eT rfl))|((apply ex_eql)<;>(first|exact eT rfl|exact eC))|((apply ex_addn)<;>(first|exact eT rfl|exact eC|(constructor<;>omega)))|((apply ex_loadown)<;>(first|exact eT rfl|exact Bk.own InH.mem|rfl))))))
    exact ⟨j + 1, ⟨by omega, by omega, by rw [hrun, hd2, takeWhile_step hpd, List.length_cons]; omega⟩, by omega, (by (repeat (first|exact ESub.nil|apply ESub.cons rfl))), rfl, (by (repeat (exact HKeep.refl)))⟩
  | false =>
    have hcond := (clsAt_digit t j).trans hw
    have hj' : j = k + (((tx t).drop k).takeWhile isDigit).length := by rw [hrun, takeWhile_head hw, List.length_nil]; omega
    have hex := extract_run (p := isDigit) t k
    rw [← hj'] at hex
    have hnd := clsAt_nd hw
    have hdr : ((tx t).drop k).dropWhile isDigit = (tx t).drop j := by rw [dropWhile_drop, List.drop_drop, ← hj']
    repeat (first|(apply sp_cond_f;(·exact eT rfl);(·exact hcond))|(apply spl_callv (f:=73) (first:=[]) (cap:=[.pointer (some ⟨g1, 0, none⟩), .pointer (some ⟨g3, 0, none⟩)]) rfl;(·exact eT rfl);(·(repeat (first|exact eN|(apply eS;(·exact eT rfl)))));(·exact fun w' hh => at_c t (TH_w2 hh).1 (TH_w2 hh).2 _))|apply then_n|apply sp_seq|apply sp_region|apply spl_nil|apply then_e|apply block_here|apply sp_exit|((apply spl_pure rfl);(·(first|((first|apply ex_move|apply ex_seql)<;>(exact eT rfl))|((apply ex_eql)<;>(first|exact eT rfl|exact eC))|((apply ex_loadown)<;>(first|exact eT rfl|exact Bk.own InH.mem|rfl))))))
    refine sp_drawn [(0, true), (1, true), (2, true), (3, true), (4, true), (5, true), (6, false), (7, true), (8, true), (9, false), (10, true), (11, false)] 12 (H ++ TH t g1 g3 g4) mixed (by kernel_rfl) (by (repeat (first|exact HKeep.refl|(apply HKeep.app;(·(repeat (first|exact Split.here|apply Split.cons))))|apply HKeep.drop (by first|assumption|omega)))) ?_
    by_cases hE : 7 < (((tx t).drop k).takeWhile isDigit).length ∨ headIs isWord ((tx t).drop j) = true
    · have ht : tokC c ((tx t).drop (k + 1)) = .err 11 := by unfold tokC; rw [if_neg (by rw [hlet]; simp), if_pos hdig, ← hd, hdr]; exact if_pos hE
      have hL1 := lex_last hL (lexN_at_err hd hbl hha ht)
      have hcond2 : ((decide ((j : Int) - k > 7) || decide (((clsAt t j : Nat) : Int) = 3)) || decide (((clsAt t j : Nat) : Int) = 5)) = true := by
        rw [Bool.or_assoc, hnd]
        rcases hE with h | h
        · rw [decide_eq_true (by omega), Bool.true_or]
        · rw [h, Bool.or_true]
      have hY := hyE pre 2 (t.extract k j) k 11 H ((g6, .cells (fcells 2 (t.extract k j) k 11) 93 (0, 0)) :: TH t g1 g3 g4) hJ hL1 (by decide)
      repeat (first|(apply sp_cond_t;(·exact eT rfl);(·exact hcond2))|(apply sp_regionI (id:=33))|(apply spl_callv (f:=73) (first:=[]) (cap:=[.pointer (some ⟨g1, 0, none⟩), .pointer (some ⟨g3, 0, none⟩)]) rfl;(·exact eT rfl);(·(repeat (first|exact eN|(apply eS;(·exact eT rfl)))));(·exact fun w' hh => at_c t (TH_w2 hh).1 (TH_w2 hh).2 _))|(apply spi_pure rfl;(·(first|((apply ex_move)<;>(exact eT rfl))|(apply ex_loadowns<;>(first|exact eT rfl|exact Bk.own InH.mem|(rfl)))));(·rfl))|apply then_n|apply block_n|apply sp_seq|apply sp_region|apply spl_nil|((first|apply spl_pure rfl|(apply spl_pure_g rfl;(·exact Gd.tf rfl rfl))|apply wlk_read rfl rfl);(·(first|((first|apply ex_move|apply ex_assign|apply ex_fieldAddr'|apply ex_gtr|apply ex_seql)<;>(first|exact eT rfl|exact eC))|((first|apply ex_eql|apply ex_orT)<;>(first|exact eT rfl|exact eC|exact eG rfl))|((apply ex_subn)<;>(first|exact eT rfl|(constructor<;>omega)))|((apply ex_loadown)<;>(first|exact eT rfl|exact Bk.own InH.mem|rfl))|((apply ex_sslice)<;>(first|exact eT rfl|(constructor<;>omega))))))|(apply spl_store1;(·exact eT rfl);(·(first|exact eT rfl|exact eC));(·rfl);(·(repeat (exact Upd.here)));(·rfl))|(apply effq;(·(intro h_;((repeat (first|exact HKeep.refl|(apply HKeep.app;(·(repeat (first|exact Split.here|apply Split.cons))))|apply HKeep.drop (by first|assumption|omega)))))))|apply wlk_nil|apply wlk_eff rfl)
      repeat (first|apply scope_r|(apply spi_yield rfl;(·exact eT rfl);(·exact eT rfl);(·exact fun w' hh => hY w' (hh.perm List.perm_middle.symm));(·rfl);(intro H' hye))|apply then_n|apply spl_nil|apply then_r|apply block_r|((apply sp_cond_t);(·exact eT rfl);(·(rfl)))|apply sp_ret|((first|apply spl_pure rfl|(apply spl_pure_g rfl;(·exact Gd.tf rfl rfl)));(·(first|((first|apply ex_move|apply ex_fieldAddr'|apply ex_not|apply ex_sneq)<;>(exact eT rfl))|((first|apply ex_neq|apply ex_orT)<;>(first|exact eT rfl|exact eC|exact eG rfl))|((apply ex_loadown)<;>(first|exact eG rfl|exact Bk.own InH.mem|rfl))))))
      repeat (apply scope_n)
      (apply retX_ok rfl;(·exact Res.none_))
      exact ⟨H', rfl, .inr (.inr ⟨11, k, by rw [hL1], hye⟩), by (repeat (first|exact HKeep.refl|(apply HKeep.app;(·(repeat (exact Split.here))))|apply HKeep.drop (by first|assumption|omega)))⟩
    · have ht : tokC c ((tx t).drop (k + 1)) = .tok 2 (((tx t).drop k).takeWhile isDigit) (((tx t).drop k).takeWhile isDigit).length := by unfold tokC; rw [if_neg (by rw [hlet]; simp), if_pos hdig, ← hd, hdr]; exact if_neg hE
      have hcond2 : ((decide ((j : Int) - k > 7) || decide (((clsAt t j : Nat) : Int) = 3)) || decide (((clsAt t j : Nat) : Int) = 5)) = false := by
        rw [Bool.or_assoc, hnd]
        have h1 : ¬ 7 < (((tx t).drop k).takeWhile isDigit).length := fun h => hE (.inl h)
        have h2 : headIs isWord ((tx t).drop j) = false := by
          cases hh : headIs isWord ((tx t).drop j) with
          | false => rfl
          | true => exact (hE (.inr hh)).elim
        rw [h2, Bool.or_false]
        exact decide_eq_false (by omega)
      have hn := tokL_len c _ _ _ _ ht
      rw [List.length_cons, List.length_drop, hlen] at hn
      have hN := lexN_at hd hbl hha ht
      rw [hex, ← hj'] at hN
      obtain ⟨hL1, q, hq⟩ := lex_more hL hN
      have hY := hyT pre ⟨2, t.extract k j, k⟩ H ((g6, .cells (fcells 2 (t.extract k j) k 0) 93 (0, 0)) :: TH t g1 g3 g4) hJ ⟨q, hq⟩
      repeat (first|(apply sp_cond_f;(·exact eT rfl);(·exact hcond2))|(apply sp_regionI (id:=33))|(apply spl_callv (f:=73) (first:=[]) (cap:=[.pointer (some ⟨g1, 0, none⟩), .pointer (some ⟨g3, 0, none⟩)]) rfl;(·exact eT rfl);(·(repeat (first|exact eN|(apply eS;(·exact eT rfl)))));(·exact fun w' hh => at_c t (TH_w2 hh).1 (TH_w2 hh).2 _))|(apply spi_pure rfl;(·(first|((apply ex_move)<;>(exact eT rfl))|(apply ex_loadowns<;>(first|exact eT rfl|exact Bk.own InH.mem|(rfl)))));(·rfl))|apply then_n|apply block_n|apply sp_seq|apply sp_region|apply spl_nil|apply sp_skip|((first|apply spl_pure rfl|(apply spl_pure_g rfl;(·exact Gd.tf rfl rfl))|apply wlk_read rfl rfl);(·(first|((first|apply ex_move|apply ex_assign|apply ex_fieldAddr'|apply ex_gtr|apply ex_seql)<;>(first|exact eT rfl|exact eC))|((first|apply ex_eql|apply ex_orT)<;>(first|exact eT rfl|exact eC|exact eG rfl))|((apply ex_subn)<;>(first|exact eT rfl|(constructor<;>omega)))|((apply ex_loadown)<;>(first|exact eT rfl|exact Bk.own InH.mem|rfl))|((apply ex_sslice)<;>(first|exact eT rfl|(constructor<;>omega))))))|(apply spl_store1;(·exact eT rfl);(·(first|exact eT rfl|exact eC));(·rfl);(·(repeat (exact Upd.here)));(·rfl))|(apply effq;(·(intro h_;((repeat (first|exact HKeep.refl|(apply HKeep.app;(·(repeat (first|exact Split.here|apply Split.cons))))|apply HKeep.drop (by first|assumption|omega)))))))|apply wlk_nil|apply wlk_eff rfl)
      repeat (first|apply scope_r|(apply spi_yield rfl;(·exact eT rfl);(·exact eT rfl);(·exact fun w' hh => hY w' (hh.perm List.perm_middle.symm));(·rfl);(rintro ⟨y, H'⟩ ⟨hyt, hyf⟩;cases y))|apply then_n|apply spl_nil|apply then_r|apply block_r|((apply sp_cond_t);(·exact eT rfl);(·(rfl)))|apply sp_ret|((first|apply spl_pure rfl|(apply spl_pure_g rfl;(·exact Gd.tf rfl rfl)));(·(first|((first|apply ex_move|apply ex_fieldAddr'|apply ex_not|apply ex_sneq)<;>(exact eT rfl))|((first|apply ex_neq|apply ex_orT)<;>(first|exact eT rfl|exact eC|exact eG rfl))|((apply ex_loadown)<;>(first|exact eG rfl|exact Bk.own InH.mem|rfl))))))
      · skip
        repeat (apply scope_n)
        (apply retX_ok rfl;(·exact Res.none_))
        exact ⟨H', rfl, .inr (.inl ⟨pre, ⟨2, t.extract k j, k⟩, q, hq, hyf rfl⟩), by (repeat (first|exact HKeep.refl|(apply HKeep.app;(·(repeat (exact Split.here))))|apply HKeep.drop (by first|assumption|omega)))⟩
      · skip
        repeat (first|apply then_n|apply block_n|apply spl_nil|(apply sp_cond_f;(·exact eT rfl);(·(rfl)))|apply sp_skip|((first|apply spl_pure rfl|(apply spl_pure_g rfl;(·exact Gd.tf rfl rfl)));(·(first|((first|apply ex_move|apply ex_fieldAddr'|apply ex_not|apply ex_sneq)<;>(exact eT rfl))|((first|apply ex_neq|apply ex_orT)<;>(first|exact eT rfl|exact eC))|((apply ex_loadown)<;>(first|exact eT rfl|exact Bk.own InH.mem|rfl))))))
        exact ⟨(j, pre ++ [⟨2, t.extract k j, k⟩], H'), ⟨by (show j ≤ t.size; omega), hyt rfl, hL1⟩, by (show t.size - j < t.size - k; omega), (by (repeat (first|exact ESub.nil|apply ESub.cons rfl))), rfl, (by (repeat (first|exact HKeep.refl|(apply HKeep.app;(·(repeat (exact Split.here))))|apply HKeep.drop (by first|assumption|omega))))⟩
end Go.Proofs.Ytfdjlphfohnnnaa
/-
  The iterator of tokens: a round of its loop: symbols, other bytes.
-/
namespace Go.Proofs.Ytfdjlphfohnnnaa
open Go.RowKit Go.Sy
set_option linter.unusedVariables false
set_option linter.unusedSimpArgs false
attribute [local irreducible] Calls thenQ blockQ retQ Spc Spl SplI Spq Ex Ev Evs Gd Upd ESub HKeep Res Res1 wlk effQ Rem SrcAt Split tabA clsA TH scopeQ

set_option maxRecDepth 100000 in
set_option maxHeartbeats 4000000 in
theorem round_symbol {Be : Nat} {w0 : World} {g1 g3 g4 l : Nat} {t : ByteArray} (ht : t.size < 1000000) {J : List Tk → Heap → Prop} {Jx : List Tk → Tk → Heap → Prop} {Je : Nat → Nat → Heap → Prop} (hY0 : Yld Be w0 l t J Jx Je)
    {k : Nat} {pre : List Tk} {H : Heap} (hk : k ≤ t.size) (hJ : J pre H) (hL : lexA t = (pre ++ (lexN ((tx t).drop k) k).1, (lexN ((tx t).drop k) k).2)) (hlt : k < t.size) {c : UInt8} (hb : t[k] = c) (hd : (tx t).drop k = c :: (tx t).drop (k + 1)) (hsym : isSym c = true) :
    Spc Try.prog 149 Be (loopAt Try.f74) (rdQ Be w0 l g1 g3 g4 t J Jx Je k) [(4, true, .int .i64 (k : Int)), (0, true, .func (.yield l) #[] #[]), (1, true, .pointer (some ⟨g1, 0, none⟩)), (2, true, .pointer (some ⟨g4, 0, none⟩))] w0 (H ++ TH t g1 g3 g4) := by
  -- Try.func74 rfl 
  obtain ⟨hyT, hyE⟩ := hY0
  have hlen := tx_len t
  have hcl := clsAt_at hb
  obtain ⟨f3, f4, f5, f1, f2, f6, f7⟩ := clsF c
  rw [← hcl] at f1 f2 f3 f4 f5 f6 f7
  unfold rdQ
  have hC := of_decide_eq_true (f6.trans hsym)
  have hbl : isBlank c = false := f1 ▸ decide_eq_false (by omega)
  have hha : ¬ c.toNat = 35 := fun h => of_decide_eq_false (f2 ▸ decide_eq_false (by omega) : decide ((c.toNat : Int) = 35) = false) (by omega)
  have hlet : isLetter c = false := by rw [← f3]; exact decide_eq_false (by omega)
  have hdig : isDigit c = false := by rw [← f4]; exact decide_eq_false (by omega)
  have h34 : ¬ c.toNat = 34 := fun h => of_decide_eq_false (f7 ▸ decide_eq_false (by omega) : decide ((c.toNat : Int) = 34) = false) (by omega)
  have ht : tokC c ((tx t).drop (k + 1)) = .tok 4 [c] 1 := by unfold tokC; rw [if_neg (by rw [hlet]; simp), if_neg (by rw [hdig]; simp), if_neg h34, if_pos hsym]
  have hex : ofL [c] = t.extract k (k + 1) := by
    apply tx_inj
    rw [tx_ofL, tx_extract, List.drop_take, hd, Nat.add_sub_cancel_left]
    rfl
  have hN := lexN_at hd hbl hha ht
  rw [hex] at hN
  obtain ⟨hL1, q, hq⟩ := lex_more hL hN
  repeat (first|(apply spl_callv (f:=73) (first:=[]) (cap:=[.pointer (some ⟨g1, 0, none⟩), .pointer (some ⟨g3, 0, none⟩)]) rfl;(·exact eT rfl);(·(repeat (first|exact eN|(apply eS;(·exact eT rfl)))));(·exact fun w' hh => at_c t (TH_w2 hh).1 (TH_w2 hh).2 _))|apply then_n|apply sp_seq|apply sp_region|apply spl_nil|((apply sp_cond_t);(·exact eT rfl);(·(exact decide_eq_true (by omega))))|(apply sp_cond_f;(·exact eT rfl);(·(exact decide_eq_false (by omega))))|apply sp_skip|apply sp_block|((apply spl_pure rfl);(·(first|(apply ex_buildE (r:=#[.int .i64 0, .string ⟨#[]⟩, .int .i64 (k : Int)]);(·(repeat (first|exact eN|(apply eS;(·(first|exact eT rfl|exact eC))))));(·rfl);(·rfl))|(apply ex_buildE (r:=fcells 0 ⟨#[]⟩ k 10);(·(repeat (first|exact eN|(apply eS;(·(first|exact eT rfl|exact eC))))));(·rfl);(·rfl))|((first|apply ex_move|apply ex_assign|apply ex_lss|apply ex_seql)<;>(exact eT rfl))|((first|apply ex_eql|apply ex_slen)<;>(first|exact eT rfl|exact eC))|((apply ex_addn)<;>(first|exact eT rfl|exact eC|(constructor<;>omega)))|((apply ex_loadown)<;>(first|exact eT rfl|exact Bk.own InH.mem|rfl)))))|(apply spl_alloc rfl;intro _ _)|(apply spl_stores;(·exact eT rfl);(·exact eT rfl);(·(repeat (exact Upd.here)));(·(rfl));(·(rfl));(·exact ones_of_all rfl)))
  rename_i g6 hg6
  refine sp_drawn [(0, true), (1, true), (2, true), (3, true), (4, true), (5, true), (6, false), (7, true), (8, true), (9, false), (10, true), (11, false)] 12 (H ++ TH t g1 g3 g4) mixed (by kernel_rfl) (by (repeat (first|exact HKeep.refl|(apply HKeep.app;(·(repeat (first|exact Split.here|apply Split.cons))))|apply HKeep.drop (by first|assumption|omega)))) ?_
  have hY := hyT pre ⟨4, t.extract k (k + 1), k⟩ H ((g6, .cells (fcells 4 (t.extract k (k + 1)) k 0) 93 (0, 0)) :: TH t g1 g3 g4) hJ ⟨q, hq⟩
  repeat (first|(apply sp_regionI (id:=33))|(apply spi_pure rfl;(·(first|((apply ex_move)<;>(exact eT rfl))|(apply ex_loadowns<;>(first|exact eT rfl|exact Bk.own InH.mem|(rfl)))));(·rfl))|apply then_n|apply block_n|apply sp_seq|apply spl_nil|((apply wlk_read rfl rfl);(·(first|((first|apply ex_move|apply ex_fieldAddr')<;>(exact eT rfl))|((apply ex_loadown)<;>(first|exact eT rfl|exact Bk.own InH.mem|rfl))|((apply ex_sslice)<;>(first|exact eT rfl|(constructor<;>omega))))))|(apply spl_store1;(·exact eT rfl);(·(first|exact eT rfl|exact eC));(·rfl);(·(repeat (exact Upd.here)));(·rfl))|(apply effq;(·(intro h_;((repeat (first|exact HKeep.refl|(apply HKeep.app;(·(repeat (first|exact Split.here|apply Split.cons))))|apply HKeep.drop (by first|assumption|omega)))))))|apply wlk_nil|apply wlk_eff rfl)
  repeat (first|apply scope_r|(apply spi_yield rfl;(·exact eT rfl);(·exact eT rfl);(·exact fun w' hh => hY w' (hh.perm List.perm_middle.symm));(·rfl);(rintro ⟨y, H'⟩ ⟨hyt, hyf⟩;cases y))|apply then_n|apply spl_nil|apply then_r|apply block_r|((apply sp_cond_t);(·exact eT rfl);(·(rfl)))|apply sp_ret|((first|apply spl_pure rfl|(apply spl_pure_g rfl;(·exact Gd.tf rfl rfl)));(·(first|((first|apply ex_move|apply ex_fieldAddr'|apply ex_not|apply ex_sneq)<;>(exact eT rfl))|((first|apply ex_neq|apply ex_orT)<;>(first|exact eT rfl|exact eC|exact eG rfl))|((apply ex_loadown)<;>(first|exact eG rfl|exact Bk.own InH.mem|rfl))))))
  · skip
    repeat (apply scope_n)
    (apply retX_ok rfl;(·exact Res.none_))
    exact ⟨H', rfl, .inr (.inl ⟨pre, ⟨4, t.extract k (k + 1), k⟩, q, hq, hyf rfl⟩), by (repeat (first|exact HKeep.refl|(apply HKeep.app;(·(repeat (exact Split.here))))|apply HKeep.drop (by first|assumption|omega)))⟩
  · skip
    repeat (first|apply then_n|apply block_n|apply spl_nil|(apply sp_cond_f;(·exact eT rfl);(·(rfl)))|apply sp_skip|((first|apply spl_pure rfl|(apply spl_pure_g rfl;(·exact Gd.tf rfl rfl)));(·(first|((first|apply ex_move|apply ex_fieldAddr'|apply ex_not|apply ex_sneq)<;>(exact eT rfl))|((first|apply ex_neq|apply ex_orT)<;>(first|exact eT rfl|exact eC))|((apply ex_loadown)<;>(first|exact eT rfl|exact Bk.own InH.mem|rfl))))))
    exact ⟨((k + 1), pre ++ [⟨4, t.extract k (k + 1), k⟩], H'), ⟨by (show (k + 1) ≤ t.size; omega), hyt rfl, hL1⟩, by (show t.size - (k + 1) < t.size - k; omega), (by (repeat (first|exact ESub.nil|apply ESub.cons rfl))), rfl, (by (repeat (first|exact HKeep.refl|(apply HKeep.app;(·(repeat (exact Split.here))))|apply HKeep.drop (by first|assumption|omega))))⟩

set_option maxRecDepth 100000 in
set_option maxHeartbeats 4000000 in
theorem round_other {Be : Nat} {w0 : World} {g1 g3 g4 l : Nat} {t : ByteArray} (ht : t.size < 1000000) {J : List Tk → Heap → Prop} {Jx : List Tk → Tk → Heap → Prop} {Je : Nat → Nat → Heap → Prop} (hY0 : Yld Be w0 l t J Jx Je)
    {k : Nat} {pre : List Tk} {H : Heap} (hk : k ≤ t.size) (hJ : J pre H) (hL : lexA t = (pre ++ (lexN ((tx t).drop k) k).1, (lexN ((tx t).drop k) k).2)) (hlt : k < t.size) {c : UInt8} (hb : t[k] = c) (hd : (tx t).drop k = c :: (tx t).drop (k + 1)) (h1 : isBlank c = false) (hha : ¬ c.toNat = 35) (hlet : isLetter c = false) (hdig : isDigit c = false) (h34 : ¬ c.toNat = 34) (hsym : isSym c = false) :
    Spc Try.prog 149 Be (loopAt Try.f74) (rdQ Be w0 l g1 g3 g4 t J Jx Je k) [(4, true, .int .i64 (k : Int)), (0, true, .func (.yield l) #[] #[]), (1, true, .pointer (some ⟨g1, 0, none⟩)), (2, true, .pointer (some ⟨g4, 0, none⟩))] w0 (H ++ TH t g1 g3 g4) := by
  -- Try.func74 rfl 
  obtain ⟨hyT, hyE⟩ := hY0
  have hlen := tx_len t
  have hcl := clsAt_at hb
  obtain ⟨f3, f4, f5, f1, f2, f6, f7⟩ := clsF c
  rw [← hcl] at f1 f2 f3 f4 f5 f6 f7
  unfold rdQ
  have hbl : isBlank c = false := h1
  have hn1 : ¬ ((clsAt t k : Nat) : Int) = 1 := fun h => by rw [decide_eq_true h] at f1; rw [h1] at f1; cases f1
  have hn2 : ¬ ((clsAt t k : Nat) : Int) = 2 := fun h => by rw [decide_eq_true h] at f2; exact hha (by have := of_decide_eq_true f2.symm; omega)
  have hn3 : ¬ ((clsAt t k : Nat) : Int) = 3 := fun h => by rw [decide_eq_true h, hlet] at f3; cases f3
  have hn4 : ¬ ((clsAt t k : Nat) : Int) = 4 := fun h => by rw [decide_eq_true h, hdig] at f4; cases f4
  have hn6 : ¬ ((clsAt t k : Nat) : Int) = 6 := fun h => by rw [decide_eq_true h, hsym] at f6; cases f6
  have hn7 : ¬ ((clsAt t k : Nat) : Int) = 7 := fun h => by rw [decide_eq_true h] at f7; exact h34 (by have := of_decide_eq_true f7.symm; omega)
  have ht : tokC c ((tx t).drop (k + 1)) = .err 10 := by unfold tokC; rw [if_neg (by rw [hlet]; simp), if_neg (by rw [hdig]; simp), if_neg h34, if_neg (by rw [hsym]; simp)]
  have hL1 := lex_last hL (lexN_at_err hd hbl hha ht)
  repeat (first|(apply sp_regionI (id:=33))|(apply spl_callv (f:=73) (first:=[]) (cap:=[.pointer (some ⟨g1, 0, none⟩), .pointer (some ⟨g3, 0, none⟩)]) rfl;(·exact eT rfl);(·(repeat (first|exact eN|(apply eS;(·exact eT rfl)))));(·exact fun w' hh => at_c t (TH_w2 hh).1 (TH_w2 hh).2 _))|(apply spi_pure rfl;(·(first|((apply ex_move)<;>(exact eT rfl))|(apply ex_loadowns<;>(first|exact eT rfl|exact Bk.own InH.mem|(rfl)))));(·rfl))|apply then_n|apply block_n|apply sp_seq|apply sp_region|apply spl_nil|((apply sp_cond_t);(·exact eT rfl);(·(exact decide_eq_true (by omega))))|(apply sp_cond_f;(·exact eT rfl);(·(exact decide_eq_false (by omega))))|apply sp_skip|apply sp_block|((apply spl_pure rfl);(·(first|(apply ex_buildE (r:=#[.int .i64 0, .string ⟨#[]⟩, .int .i64 (k : Int)]);(·(repeat (first|exact eN|(apply eS;(·(first|exact eT rfl|exact eC))))));(·rfl);(·rfl))|(apply ex_buildE (r:=fcells 0 ⟨#[]⟩ k 10);(·(repeat (first|exact eN|(apply eS;(·(first|exact eT rfl|exact eC))))));(·rfl);(·rfl))|((first|apply ex_move|apply ex_assign|apply ex_lss|apply ex_seql)<;>(exact eT rfl))|((first|apply ex_eql|apply ex_slen)<;>(first|exact eT rfl|exact eC))|((apply ex_loadown)<;>(first|exact eT rfl|exact Bk.own InH.mem|rfl)))))|(apply spl_alloc rfl;intro _ _)|(apply spl_stores;(·exact eT rfl);(·exact eT rfl);(·(repeat (exact Upd.here)));(·(rfl));(·(rfl));(·exact ones_of_all rfl)))
  rename_i g6 hg6
  have hY := hyE pre 0 (⟨#[]⟩) k 10 H ((g6, .cells (fcells 0 (⟨#[]⟩) k 10) 93 (0, 0)) :: TH t g1 g3 g4) hJ hL1 (by decide)
  repeat (first|apply scope_r|(apply spi_yield rfl;(·exact eT rfl);(·exact eT rfl);(·exact fun w' hh => hY w' (hh.perm List.perm_middle.symm));(·rfl);(intro H' hye))|apply then_n|apply spl_nil|apply then_r|apply block_r|((apply sp_cond_t);(·exact eT rfl);(·(rfl)))|apply sp_ret|((first|apply spl_pure rfl|(apply spl_pure_g rfl;(·exact Gd.tf rfl rfl)));(·(first|((first|apply ex_move|apply ex_fieldAddr'|apply ex_not|apply ex_sneq)<;>(exact eT rfl))|((first|apply ex_neq|apply ex_orT)<;>(first|exact eT rfl|exact eC|exact eG rfl))|((apply ex_loadown)<;>(first|exact eG rfl|exact Bk.own InH.mem|rfl))))))
  repeat (apply scope_n)
  (apply retX_ok rfl;(·exact Res.none_))
  exact ⟨H', rfl, .inr (.inr ⟨10, k, by rw [hL1], hye⟩), by (repeat (first|exact HKeep.refl|(apply HKeep.app;(·(repeat (exact Split.here))))|apply HKeep.drop (by first|assumption|omega)))⟩
end Go.Proofs.Ytfdjlphfohnnnaa
/-
  The iterator of tokens: a round of its loop: strings, gaps.
-/
namespace Go.Proofs.Ytfdjlphfohnnnaa
open Go.RowKit Go.Sy
set_option linter.unusedVariables false
set_option linter.unusedSimpArgs false
attribute [local irreducible] Calls thenQ blockQ retQ Spc Spl SplI Spq Ex Ev Evs Gd Upd ESub HKeep Res Res1 wlk effQ Rem SrcAt Split tabA clsA TH scopeQ

set_option maxRecDepth 100000 in
set_option maxHeartbeats 4000000 in
theorem round_quote {Be : Nat} {w0 : World} {g1 g3 g4 l : Nat} {t : ByteArray} (ht : t.size < 1000000) {J : List Tk → Heap → Prop} {Jx : List Tk → Tk → Heap → Prop} {Je : Nat → Nat → Heap → Prop} (hY0 : Yld Be w0 l t J Jx Je)
    {k : Nat} {pre : List Tk} {H : Heap} (hk : k ≤ t.size) (hJ : J pre H) (hL : lexA t = (pre ++ (lexN ((tx t).drop k) k).1, (lexN ((tx t).drop k) k).2)) (hlt : k < t.size) {c : UInt8} (hb : t[k] = c) (hd : (tx t).drop k = c :: (tx t).drop (k + 1)) (h34 : c.toNat = 34) :
    Spc Try.prog 149 Be (loopAt Try.f74) (rdQ Be w0 l g1 g3 g4 t J Jx Je k) [(4, true, .int .i64 (k : Int)), (0, true, .func (.yield l) #[] #[]), (1, true, .pointer (some ⟨g1, 0, none⟩)), (2, true, .pointer (some ⟨g4, 0, none⟩))] w0 (H ++ TH t g1 g3 g4) := by
  -- Try.func74 rfl 
  obtain ⟨hyT, hyE⟩ := hY0
  have hlen := tx_len t
  have hcl := clsAt_at hb
  obtain ⟨f3, f4, f5, f1, f2, f6, f7⟩ := clsF c
  rw [← hcl] at f1 f2 f3 f4 f5 f6 f7
  unfold rdQ
  have hC : ((clsAt t k : Nat) : Int) = 7 := of_decide_eq_true (f7.trans (decide_eq_true (by omega)))
  have hbl : isBlank c = false := f1 ▸ decide_eq_false (by omega)
  have hha : ¬ c.toNat = 35 := by omega
  have hlet : isLetter c = false := by rw [← f3]; exact decide_eq_false (by omega)
  have hdig : isDigit c = false := by rw [← f4]; exact decide_eq_false (by omega)
  have hUn : ∀ {w' : World}, Calls Try.prog 75 #[.string (t.extract (k : Int).toNat t.size)] w' (Ret w' (.tuple #[.string (unqR (t.extract k t.size)).1, .int .i64 ((unqR (t.extract k t.size)).2 : Nat)])) := fun {w'} => unquoted_c _ (by
    show (t.extract k t.size).size < 10000000
    rw [ByteArray.size_extract]; omega)
  have hux : unqR (t.extract k t.size) = match unqL ((tx t).drop (k + 1)) with | none => (⟨#[]⟩, 0) | some p => (ofL p.1, p.2 + 1) := by
    unfold unqR
    rw [tx_extract, List.take_of_length_le (by rw [hlen]; exact Nat.le_refl _), List.drop_drop]
    rfl
  cases hu : unqL ((tx t).drop (k + 1)) with
  | none =>
    rw [hu] at hux
    simp only at hux
    rw [hux] at hUn
    have ht : tokC c ((tx t).drop (k + 1)) = .err 10 := by unfold tokC; rw [if_neg (by rw [hlet]; simp), if_neg (by rw [hdig]; simp), if_pos h34, hu]
    have hL1 := lex_last hL (lexN_at_err hd hbl hha ht)
    repeat (first|(apply sp_regionI (id:=33))|(apply spl_callv (f:=73) (first:=[]) (cap:=[.pointer (some ⟨g1, 0, none⟩), .pointer (some ⟨g3, 0, none⟩)]) rfl;(·exact eT rfl);(·(repeat (first|exact eN|(apply eS;(·exact eT rfl)))));(·exact fun w' hh => at_c t (TH_w2 hh).1 (TH_w2 hh).2 _))|(apply spl_callp rfl;(·(repeat (first|exact eN|(apply eS;(·exact eT rfl)))));(·exact fun w' hh => hUn (w' := w')))|(apply spi_pure rfl;(·(first|((apply ex_move)<;>(exact eT rfl))|(apply ex_loadowns<;>(first|exact eT rfl|exact Bk.own InH.mem|(rfl)))));(·rfl))|apply then_n|apply block_n|apply sp_seq|apply sp_region|apply spl_nil|((apply sp_cond_t);(·exact eT rfl);(·(exact decide_eq_true (by omega))))|(apply sp_cond_f;(·exact eT rfl);(·(exact decide_eq_false (by omega))))|apply sp_skip|apply sp_block|((apply spl_pure rfl);(·(first|(apply ex_buildE (r:=#[.int .i64 0, .string ⟨#[]⟩, .int .i64 (k : Int)]);(·(repeat (first|exact eN|(apply eS;(·(first|exact eT rfl|exact eC))))));(·rfl);(·rfl))|(apply ex_buildE (r:=fcells 0 ⟨#[]⟩ k 10);(·(repeat (first|exact eN|(apply eS;(·(first|exact eT rfl|exact eC))))));(·rfl);(·rfl))|((first|apply ex_move|apply ex_assign|apply ex_lss|apply ex_gtr|apply ex_seql)<;>(first|exact eT rfl|exact eC))|((first|apply ex_eql|apply ex_slen)<;>(first|exact eT rfl|exact eC))|((apply ex_addn)<;>(first|exact eT rfl|(constructor<;>omega)))|((first|apply ex_loadown|apply ex_extract)<;>(first|exact eT rfl|exact Bk.own InH.mem|rfl))|((apply ex_sslice_l)<;>(first|exact eT rfl|(constructor<;>omega))))))|(apply spl_alloc rfl;intro _ _)|(apply spl_stores;(·exact eT rfl);(·exact eT rfl);(·(repeat (exact Upd.here)));(·(rfl));(·(rfl));(·exact ones_of_all rfl)))
    rename_i g6 hg6
    have hY := hyE pre 0 (⟨#[]⟩) k 10 H ((g6, .cells (fcells 0 (⟨#[]⟩) k 10) 93 (0, 0)) :: TH t g1 g3 g4) hJ hL1 (by decide)
    repeat (first|apply scope_r|(apply spi_yield rfl;(·exact eT rfl);(·exact eT rfl);(·exact fun w' hh => hY w' (hh.perm List.perm_middle.symm));(·rfl);(intro H' hye))|apply then_n|apply spl_nil|apply then_r|apply block_r|((apply sp_cond_t);(·exact eT rfl);(·(rfl)))|apply sp_ret|((first|apply spl_pure rfl|(apply spl_pure_g rfl;(·exact Gd.tf rfl rfl)));(·(first|((first|apply ex_move|apply ex_fieldAddr'|apply ex_not|apply ex_sneq)<;>(exact eT rfl))|((first|apply ex_neq|apply ex_orT)<;>(first|exact eT rfl|exact eC|exact eG rfl))|((apply ex_loadown)<;>(first|exact eG rfl|exact Bk.own InH.mem|rfl))))))
    repeat (apply scope_n)
    (apply retX_ok rfl;(·exact Res.none_))
    exact ⟨H', rfl, .inr (.inr ⟨10, k, by rw [hL1], hye⟩), by (repeat (first|exact HKeep.refl|(apply HKeep.app;(·(repeat (exact Split.here))))|apply HKeep.drop (by first|assumption|omega)))⟩
  | some p =>
    obtain ⟨s, n⟩ := p
    rw [hu] at hux
    simp only at hux
    rw [hux] at hUn
    have ht : tokC c ((tx t).drop (k + 1)) = .tok 3 s (n + 1) := by unfold tokC; rw [if_neg (by rw [hlet]; simp), if_neg (by rw [hdig]; simp), if_pos h34, hu]
    have hn := unqL_len _ _ _ hu
    rw [List.length_drop, hlen] at hn
    obtain ⟨hL1, q, hq⟩ := lex_more hL (lexN_at hd hbl hha ht)
    repeat (first|(apply sp_regionI (id:=33))|(apply spl_callv (f:=73) (first:=[]) (cap:=[.pointer (some ⟨g1, 0, none⟩), .pointer (some ⟨g3, 0, none⟩)]) rfl;(·exact eT rfl);(·(repeat (first|exact eN|(apply eS;(·exact eT rfl)))));(·exact fun w' hh => at_c t (TH_w2 hh).1 (TH_w2 hh).2 _))|(apply spl_callp rfl;(·(repeat (first|exact eN|(apply eS;(·exact eT rfl)))));(·exact fun w' hh => hUn (w' := w')))|(apply spi_pure rfl;(·(first|((apply ex_move)<;>(exact eT rfl))|(apply ex_loadowns<;>(first|exact eT rfl|exact Bk.own InH.mem|(rfl)))));(·rfl))|apply then_n|apply block_n|apply sp_seq|apply sp_region|apply spl_nil|((apply sp_cond_t);(·exact eT rfl);(·(exact decide_eq_true (by omega))))|(apply sp_cond_f;(·exact eT rfl);(·(exact decide_eq_false (by omega))))|apply sp_skip|apply sp_block|((apply spl_pure rfl);(·(first|(apply ex_buildE (r:=#[.int .i64 0, .string ⟨#[]⟩, .int .i64 (k : Int)]);(·(repeat (first|exact eN|(apply eS;(·(first|exact eT rfl|exact eC))))));(·rfl);(·rfl))|(apply ex_buildE (r:=fcells 0 ⟨#[]⟩ k 10);(·(repeat (first|exact eN|(apply eS;(·(first|exact eT rfl|exact eC))))));(·rfl);(·rfl))|((first|apply ex_move|apply ex_assign|apply ex_fieldAddr'|apply ex_lss|apply ex_gtr|apply ex_seql)<;>(first|exact eT rfl|exact eC))|((first|apply ex_eql|apply ex_slen)<;>(first|exact eT rfl|exact eC))|((apply ex_addn)<;>(first|exact eT rfl|(constructor<;>omega)))|((first|apply ex_loadown|apply ex_extract)<;>(first|exact eT rfl|exact Bk.own InH.mem|rfl))|((apply ex_sslice_l)<;>(first|exact eT rfl|(constructor<;>omega))))))|(apply spl_alloc rfl;intro _ _)|(apply spl_store1;(·exact eT rfl);(·(first|exact eT rfl|exact eC));(·rfl);(·(repeat (exact Upd.here)));(·rfl))|(apply spl_stores;(·exact eT rfl);(·exact eT rfl);(·(repeat (exact Upd.here)));(·(rfl));(·(rfl));(·exact ones_of_all rfl)))
    rename_i g6 hg6
    have hY := hyT pre ⟨3, ofL s, k⟩ H ((g6, .cells (fcells 3 (ofL s) k 0) 93 (0, 0)) :: TH t g1 g3 g4) hJ ⟨q, hq⟩
    repeat (first|apply scope_r|(apply spi_yield rfl;(·exact eT rfl);(·exact eT rfl);(·exact fun w' hh => hY w' (hh.perm List.perm_middle.symm));(·rfl);(rintro ⟨y, H'⟩ ⟨hyt, hyf⟩;cases y))|apply then_n|apply spl_nil|apply then_r|apply block_r|((apply sp_cond_t);(·exact eT rfl);(·(rfl)))|apply sp_ret|((first|apply spl_pure rfl|(apply spl_pure_g rfl;(·exact Gd.tf rfl rfl)));(·(first|((first|apply ex_move|apply ex_fieldAddr'|apply ex_not|apply ex_sneq)<;>(exact eT rfl))|((first|apply ex_neq|apply ex_orT)<;>(first|exact eT rfl|exact eC|exact eG rfl))|((apply ex_loadown)<;>(first|exact eG rfl|exact Bk.own InH.mem|rfl))))))
    · skip
      repeat (apply scope_n)
      (apply retX_ok rfl;(·exact Res.none_))
      exact ⟨H', rfl, .inr (.inl ⟨pre, ⟨3, ofL s, k⟩, q, hq, hyf rfl⟩), by (repeat (first|exact HKeep.refl|(apply HKeep.app;(·(repeat (exact Split.here))))|apply HKeep.drop (by first|assumption|omega)))⟩
    · skip
      repeat (first|apply then_n|apply block_n|apply spl_nil|(apply sp_cond_f;(·exact eT rfl);(·(rfl)))|apply sp_skip|((first|apply spl_pure rfl|(apply spl_pure_g rfl;(·exact Gd.tf rfl rfl)));(·(first|((first|apply ex_move|apply ex_fieldAddr'|apply ex_not|apply ex_sneq)<;>(exact eT rfl))|((first|apply ex_neq|apply ex_orT)<;>(first|exact eT rfl|exact eC))|((apply ex_loadown)<;>(first|exact eT rfl|exact Bk.own InH.mem|rfl))))))
      exact ⟨((k + (n + 1)), pre ++ [⟨3, ofL s, k⟩], H'), ⟨by (show (k + (n + 1)) ≤ t.size; omega), hyt rfl, hL1⟩, by (show t.size - (k + (n + 1)) < t.size - k; omega), (by (repeat (first|exact ESub.nil|apply ESub.cons rfl))), rfl, (by (repeat (first|exact HKeep.refl|(apply HKeep.app;(·(repeat (exact Split.here))))|apply HKeep.drop (by first|assumption|omega))))⟩

set_option maxRecDepth 100000 in
set_option maxHeartbeats 4000000 in
theorem round_blank {Be : Nat} {w0 : World} {g1 g3 g4 l : Nat} {t : ByteArray} (ht : t.size < 1000000) {J : List Tk → Heap → Prop} {Jx : List Tk → Tk → Heap → Prop} {Je : Nat → Nat → Heap → Prop} (hY0 : Yld Be w0 l t J Jx Je)
    {k : Nat} {pre : List Tk} {H : Heap} (hk : k ≤ t.size) (hJ : J pre H) (hL : lexA t = (pre ++ (lexN ((tx t).drop k) k).1, (lexN ((tx t).drop k) k).2)) (hlt : k < t.size) {c : UInt8} (hb : t[k] = c) (hd : (tx t).drop k = c :: (tx t).drop (k + 1)) (h1 : isBlank c = true) :
    Spc Try.prog 149 Be (loopAt Try.f74) (rdQ Be w0 l g1 g3 g4 t J Jx Je k) [(4, true, .int .i64 (k : Int)), (0, true, .func (.yield l) #[] #[]), (1, true, .pointer (some ⟨g1, 0, none⟩)), (2, true, .pointer (some ⟨g4, 0, none⟩))] w0 (H ++ TH t g1 g3 g4) := by
  -- Try.func74 rfl 
  obtain ⟨hyT, hyE⟩ := hY0
  have hlen := tx_len t
  have hcl := clsAt_at hb
  obtain ⟨f3, f4, f5, f1, f2, f6, f7⟩ := clsF c
  rw [← hcl] at f1 f2 f3 f4 f5 f6 f7
  unfold rdQ
  have hC : ((clsAt t k : Nat) : Int) = 1 := of_decide_eq_true (f1.trans h1)
  have hN : lexN ((tx t).drop k) k = lexN ((tx t).drop (k + 1)) (k + 1) := lexN_skip (by rw [hd]; simp [skipM, h1]) (by rw [hd, List.length_cons])
  rw [hN] at hL
  repeat (first|(apply spl_callv (f:=73) (first:=[]) (cap:=[.pointer (some ⟨g1, 0, none⟩), .pointer (some ⟨g3, 0, none⟩)]) rfl;(·exact eT rfl);(·(repeat (first|exact eN|(apply eS;(·exact eT rfl)))));(·exact fun w' hh => at_c t (TH_w2 hh).1 (TH_w2 hh).2 _))|apply then_n|apply sp_seq|apply sp_region|apply spl_nil|apply then_e|apply block_here|apply block_past rfl|((apply sp_cond_t);(·exact eT rfl);(·(exact decide_eq_true (by omega))))|apply sp_skip|apply sp_exit|apply sp_block|((apply spl_pure rfl);(·(first|(apply ex_buildE (r:=#[.int .i64 0, .string ⟨#[]⟩, .int .i64 (k : Int)]);(·(repeat (first|exact eN|(apply eS;(·(first|exact eT rfl|exact eC))))));(·rfl);(·rfl))|(apply ex_buildE (r:=fcells 0 ⟨#[]⟩ k 10);(·(repeat (first|exact eN|(apply eS;(·(first|exact eT rfl|exact eC))))));(·rfl);(·rfl))|((first|apply ex_move|apply ex_assign|apply ex_lss|apply ex_seql)<;>(exact eT rfl))|((first|apply ex_eql|apply ex_slen)<;>(first|exact eT rfl|exact eC))|((apply ex_addn)<;>(first|exact eT rfl|exact eC|(constructor<;>omega)))|((apply ex_loadown)<;>(first|exact eT rfl|exact Bk.own InH.mem|rfl)))))|(apply spl_alloc rfl;intro _ _)|(apply spl_stores;(·exact eT rfl);(·exact eT rfl);(·(repeat (exact Upd.here)));(·(rfl));(·(rfl));(·exact ones_of_all rfl)))
  exact ⟨(k + 1, pre, H), ⟨hlt, hJ, hL⟩, by (show t.size - (k + 1) < t.size - k; omega), (by (repeat (first|exact ESub.nil|apply ESub.cons rfl))), rfl, (by (repeat (first|exact HKeep.refl|(apply HKeep.app;(·(repeat (first|exact Split.here|apply Split.cons))))|apply HKeep.drop (by first|assumption|omega))))⟩

set_option maxRecDepth 100000 in
set_option maxHeartbeats 4000000 in
theorem round_hash {Be : Nat} {w0 : World} {g1 g3 g4 l : Nat} {t : ByteArray} (ht : t.size < 1000000) {J : List Tk → Heap → Prop} {Jx : List Tk → Tk → Heap → Prop} {Je : Nat → Nat → Heap → Prop} (hY0 : Yld Be w0 l t J Jx Je)
    {k : Nat} {pre : List Tk} {H : Heap} (hk : k ≤ t.size) (hJ : J pre H) (hL : lexA t = (pre ++ (lexN ((tx t).drop k) k).1, (lexN ((tx t).drop k) k).2)) (hlt : k < t.size) {c : UInt8} (hb : t[k] = c) (hd : (tx t).drop k = c :: (tx t).drop (k + 1)) (h35 : c.toNat = 35) :
    Spc Try.prog 149 Be (loopAt Try.f74) (rdQ Be w0 l g1 g3 g4 t J Jx Je k) [(4, true, .int .i64 (k : Int)), (0, true, .func (.yield l) #[] #[]), (1, true, .pointer (some ⟨g1, 0, none⟩)), (2, true, .pointer (some ⟨g4, 0, none⟩))] w0 (H ++ TH t g1 g3 g4) := by
  -- Try.func74 rfl 
  obtain ⟨hyT, hyE⟩ := hY0
  have hlen := tx_len t
  have hcl := clsAt_at hb
  obtain ⟨f3, f4, f5, f1, f2, f6, f7⟩ := clsF c
  rw [← hcl] at f1 f2 f3 f4 f5 f6 f7
  unfold rdQ
  have hC : ((clsAt t k : Nat) : Int) = 2 := of_decide_eq_true (f2.trans (decide_eq_true (by omega)))
  have hbl : isBlank c = false := f1 ▸ decide_eq_false (by omega)
  have hi0 : skipM true ((tx t).drop (k + 1)) = skipM false ((tx t).drop k) := by rw [hd]; simp [skipM, hbl, h35]
  repeat (first|(apply spl_callv (f:=73) (first:=[]) (cap:=[.pointer (some ⟨g1, 0, none⟩), .pointer (some ⟨g3, 0, none⟩)]) rfl;(·exact eT rfl);(·(repeat (first|exact eN|(apply eS;(·exact eT rfl)))));(·exact fun w' hh => at_c t (TH_w2 hh).1 (TH_w2 hh).2 _))|apply then_n|apply sp_seq|apply sp_region|apply spl_nil|((apply sp_cond_t);(·exact eT rfl);(·(exact decide_eq_true (by omega))))|(apply sp_cond_f;(·exact eT rfl);(·(exact decide_eq_false (by omega))))|apply sp_skip|apply sp_block|((apply spl_pure rfl);(·(first|(apply ex_buildE (r:=#[.int .i64 0, .string ⟨#[]⟩, .int .i64 (k : Int)]);(·(repeat (first|exact eN|(apply eS;(·(first|exact eT rfl|exact eC))))));(·rfl);(·rfl))|(apply ex_buildE (r:=fcells 0 ⟨#[]⟩ k 10);(·(repeat (first|exact eN|(apply eS;(·(first|exact eT rfl|exact eC))))));(·rfl);(·rfl))|((first|apply ex_move|apply ex_assign|apply ex_lss|apply ex_seql)<;>(exact eT rfl))|((first|apply ex_eql|apply ex_slen)<;>(first|exact eT rfl|exact eC))|((apply ex_loadown)<;>(first|exact eT rfl|exact Bk.own InH.mem|rfl)))))|(apply spl_alloc rfl;intro _ _)|(apply spl_stores;(·exact eT rfl);(·exact eT rfl);(·(repeat (exact Upd.here)));(·(rfl));(·(rfl));(·exact ones_of_all rfl)))
  rename_i g6 hg6
  refine sp_loop (X := Nat) (fun j => [(4, true, .int .i64 (j : Int)), (0, true, .func (.yield l) #[] #[]), (1, true, .pointer (some ⟨g1, 0, none⟩)), (2, true, .pointer (some ⟨g4, 0, none⟩))]) (fun _ => w0) (fun _ => H ++ TH t g1 g3 g4)
    (fun j => k ≤ j ∧ j ≤ t.size ∧ (j = k ∨ k < j ∧ skipM true ((tx t).drop j) = skipM false ((tx t).drop k))) (fun j => t.size - j) k ⟨Nat.le_refl _, hk, .inl rfl⟩ (by (repeat (first|exact ESub.nil|apply ESub.cons rfl))) rfl (by (repeat (first|exact HKeep.refl|(apply HKeep.app;(·(repeat (first|exact Split.here|apply Split.cons))))|apply HKeep.drop (by first|assumption|omega)))) ?_
  rintro j ⟨hkj, hj, hjj⟩
  have hfin : k < j → skipM false ((tx t).drop k) = skipM false ((tx t).drop j) → ∃ x : Nat × List Tk × Heap, (x.1 ≤ t.size ∧ J x.2.1 x.2.2 ∧ lexA t = (x.2.1 ++ (lexN ((tx t).drop x.1) x.1).1, (lexN ((tx t).drop x.1) x.1).2)) ∧ t.size - x.1 < t.size - k ∧ x = (j, pre, H) := fun h1 h2 =>
    ⟨(j, pre, H), ⟨hj, hJ, by
      have : lexN ((tx t).drop k) k = lexN ((tx t).drop j) (k + (j - k)) := lexN_skip h2 (by rw [List.length_drop, List.length_drop, hlen]; omega)
      rw [Nat.add_sub_cancel' hkj] at this
      rw [hL, this]⟩, by (show t.size - j < t.size - k; omega), rfl⟩
  by_cases hlt2 : j < t.size
  · obtain ⟨b2, hb2, hd2⟩ := drop_at hlt2
    by_cases hb10 : b2.toNat = 10
    · have hkj' : k < j := by
        rcases hjj with h | h
        · subst h; rw [hb] at hb2; subst hb2; omega
        · exact h.1
      have hnl : skipM false ((tx t).drop k) = skipM false ((tx t).drop j) := by
        rcases hjj with h | h
        · omega
        · rw [← h.2, skip_nl _ (.inr ⟨_, _, hd2, hb10⟩)]
      have hcond : (decide ((j : Int) < t.size) && !decide ((b2.toNat : Int) = 10)) = false := by simp [hb10]
      repeat (first|(apply sp_cond_f;(·exact eT rfl);(·exact hcond))|apply then_n|apply sp_seq|apply sp_region|apply spl_nil|apply then_e|apply block_here|apply block_past rfl|apply sp_exit|((first|apply spl_pure rfl|(apply spl_pure_g rfl;(·exact Gd.tt rfl rfl)));(·(first|(apply ex_sindexE hlt2 hb2;(·exact eG rfl);(·exact eG rfl))|((first|apply ex_move|apply ex_lss|apply ex_sneq|apply ex_andT)<;>(first|exact eT rfl|exact eG rfl))|((first|apply ex_neq|apply ex_slen)<;>(first|exact eT rfl|exact eC|exact eG rfl))|((apply ex_loadown)<;>(first|exact eT rfl|exact Bk.own InH.mem|rfl))))))
      obtain ⟨x, hx, hm, rfl⟩ := hfin hkj' hnl
      exact ⟨_, hx, hm, (by (repeat (first|exact ESub.nil|apply ESub.cons rfl))), rfl, (by (repeat (exact HKeep.refl)))⟩
    · have hcond : (decide ((j : Int) < t.size) && !decide ((b2.toNat : Int) = 10)) = true := by simp [hb10]; omega
      repeat (first|(apply sp_cond_t;(·exact eT rfl);(·exact hcond))|apply then_n|apply block_n|apply sp_seq|apply sp_region|apply spl_nil|apply sp_skip|apply sp_block|((first|apply spl_pure rfl|(apply spl_pure_g rfl;(·exact Gd.tt rfl rfl)));(·(first|(apply ex_sindexE hlt2 hb2;(·exact eG rfl);(·exact eG rfl))|((first|apply ex_move|apply ex_assign|apply ex_lss|apply ex_sneq|apply ex_andT)<;>(first|exact eT rfl|exact eG rfl))|((first|apply ex_neq|apply ex_slen)<;>(first|exact eT rfl|exact eC|exact eG rfl))|((apply ex_addn)<;>(first|exact eT rfl|exact eC|(constructor<;>omega)))|((apply ex_loadown)<;>(first|exact eT rfl|exact Bk.own InH.mem|rfl))))))
      refine ⟨j + 1, ⟨by omega, by omega, .inr ⟨by omega, ?_⟩⟩, by omega, (by (repeat (first|exact ESub.nil|apply ESub.cons rfl))), rfl, (by (repeat (exact HKeep.refl)))⟩
      rcases hjj with h | h
      · subst h; exact hi0
      · rw [← h.2, hd2]; simp [skipM, hb10]
  · have hj2 : j = t.size := by omega
    have hkj' : k < j := by omega
    have hnl : skipM false ((tx t).drop k) = skipM false ((tx t).drop j) := by
      rcases hjj with h | h
      · omega
      · rw [← h.2, skip_nl _ (.inl (drop_end (by omega)))]
    have hdead : decide ((j : Int) < (t.size : Int)) = false := decide_eq_false (by omega)
    repeat (first|(apply sp_cond_f;(·exact eT rfl);(·(rw [hdead];rfl)))|apply then_n|apply sp_seq|apply sp_region|apply spl_nil|apply then_e|apply block_here|apply block_past rfl|apply sp_exit|((first|apply spl_pure rfl|(apply spl_pure_g rfl;(·exact Gd.tt rfl rfl)));(·(first|(apply ex_index_dead hdead)|((first|apply ex_move|apply ex_lss|apply ex_sneq|apply ex_andT)<;>(first|exact eT rfl|exact eG rfl))|((first|apply ex_neq|apply ex_slen)<;>(first|exact eT rfl|exact eC|exact eG rfl))|((apply ex_loadown)<;>(first|exact eT rfl|exact Bk.own InH.mem|rfl))))))
    obtain ⟨x, hx, hm, rfl⟩ := hfin hkj' hnl
    exact ⟨_, hx, hm, (by (repeat (first|exact ESub.nil|apply ESub.cons rfl))), rfl, (by (repeat (exact HKeep.refl)))⟩
end Go.Proofs.Ytfdjlphfohnnnaa
/-
  Contracts: the iterator of tokens.
-/
namespace Go.Proofs.Ytfdjlphfohnnnaa
open Go.RowKit Go.Sy
set_option linter.unusedVariables false
set_option linter.unusedSimpArgs false
attribute [local irreducible] Calls thenQ blockQ retQ Spc Spl SplI Spq Ex Ev Evs Gd Upd ESub HKeep Res Res1 wlk effQ Rem SrcAt Split tabA clsA TH scopeQ

set_option maxRecDepth 100000 in
set_option maxHeartbeats 400000 in
theorem tokens2_c {Be : Nat} {w0 : World} {g1 g3 g4 l : Nat} {t : ByteArray} (ht : t.size < 1000000) {J : List Tk → Heap → Prop} {Jx : List Tk → Tk → Heap → Prop} {Je : Nat → Nat → Heap → Prop} (hY0 : Yld Be w0 l t J Jx Je)
    {H : Heap} (hJ : J [] H) {w : World} (hh : Hp Be w0 (H ++ TH t g1 g3 g4) w) :
    Calls Try.prog 74 #[.func (.yield l) #[] #[], .pointer (some ⟨g1, 0, none⟩), .pointer (some ⟨g4, 0, none⟩)] w (tokR Be w0 g1 g3 g4 t J Jx Je) := by
  refine sp_enterM (vs := [_, _, _]) Try.func74 rfl Try.ntmps74 rfl hh ?_
  have hlen := tx_len t
  clear hh
  repeat (first|apply sp_scope|apply sp_label|apply then_n|apply sp_seq|apply sp_region|apply spl_nil|apply sp_block|((apply spl_pure rfl);(·(((apply ex_assign)<;>(exact eC))))))
  refine sp_loop (X := Nat × List Tk × Heap) (fun x => [(4, true, .int .i64 (x.1 : Int)), (0, true, .func (.yield l) #[] #[]), (1, true, .pointer (some ⟨g1, 0, none⟩)), (2, true, .pointer (some ⟨g4, 0, none⟩))]) (fun _ => w0) (fun x => x.2.2 ++ TH t g1 g3 g4)
    (fun x => x.1 ≤ t.size ∧ J x.2.1 x.2.2 ∧ lexA t = (x.2.1 ++ (lexN ((tx t).drop x.1) x.1).1, (lexN ((tx t).drop x.1) x.1).2)) (fun x => t.size - x.1) (0, [], H) ⟨Nat.zero_le _, hJ, lexA_N t⟩ (by (repeat (first|exact ESub.nil|apply ESub.cons rfl))) rfl (by (repeat (exact HKeep.refl))) ?_
  clear hJ
  rintro ⟨k, pre, H⟩ ⟨hk, hJ, hL⟩
  replace hk : k ≤ t.size := hk
  replace hJ : J pre H := hJ
  replace hL : lexA t = (pre ++ (lexN ((tx t).drop k) k).1, (lexN ((tx t).drop k) k).2) := hL
  dsimp only
  by_cases hlt : k < t.size
  · obtain ⟨c, hb, hd⟩ := drop_at hlt
    cases h1 : isBlank c with
    | true => exact round_blank ht hY0 hk hJ hL hlt hb hd h1
    | false =>
      by_cases h35 : c.toNat = 35
      · exact round_hash ht hY0 hk hJ hL hlt hb hd h35
      · cases hlet : isLetter c with
        | true => exact round_letter ht hY0 hk hJ hL hlt hb hd hlet
        | false =>
          cases hdig : isDigit c with
          | true => exact round_digit ht hY0 hk hJ hL hlt hb hd hdig
          | false =>
            by_cases h34 : c.toNat = 34
            · exact round_quote ht hY0 hk hJ hL hlt hb hd h34
            · cases hsym : isSym c with
              | true => exact round_symbol ht hY0 hk hJ hL hlt hb hd hsym
              | false => exact round_other ht hY0 hk hJ hL hlt hb hd h1 h35 hlet hdig h34 hsym
  · repeat (first|apply scope_n|apply then_n|apply sp_seq|apply sp_region|apply spl_nil|apply then_e|apply block_here|(apply sp_cond_f;(·exact eT rfl);(·(exact decide_eq_false (by omega))))|apply sp_exit|((apply spl_pure rfl);(·(first|(apply ex_loadown (v:=.string t);(·exact eT rfl);(·exact Bk.own InH.mem);(·rfl))|((first|apply ex_move|apply ex_lss)<;>(exact eT rfl))|((apply ex_slen)<;>(exact eT rfl))))))
    have hL2 : lexA t = (pre, none) := by rw [hL, drop_end (by omega), lexN_nil rfl]; simp
    (apply endX_ok rfl;(·exact Res.none_))
    exact ⟨H, rfl, .inl ⟨by rw [hL2]; exact hJ, by rw [hL2]⟩, by (repeat (exact HKeep.refl))⟩
end Go.Proofs.Ytfdjlphfohnnnaa
/-
  Contracts: the lexer's Lex: the rounds of its loop.
-/
namespace Go.Proofs.Ytfdjlphfohnnnaa
open Go.RowKit Go.Sy
set_option linter.unusedVariables false
set_option linter.unusedSimpArgs false
def tkC (x : Tk) : Array Value := #[.int .i64 (x.kind : Int), .string x.text, .int .i64 (x.pos : Int)]
def flatT (l : List Tk) : List Value := l.flatMap fun x => (tkC x).toList
theorem flatT_len (l : List Tk) : (flatT l).length = l.length * 3 := flat_len fun _ _ => rfl
theorem flatT_snoc (l : List Tk) (x : Tk) : flatT (l ++ [x]) = flatT l ++ (tkC x).toList := by simp [flatT]
/-- The loop's own code. -/
def rangeOf (f : Func) : Code × Code := match f.body with | some (.seq _ (.seq _ (.seq _ (.seq (.seq _ (.block _ (.rangeFunc _ _ a b))) _)))) => (a, b) | _ => (.skip, .skip)
/-- Lex's own blocks: in the loop; after an error. -/
def LB (gA gB gC gO : Nat) (r : RowS) (l : List Tk) : Heap := (gO, .cells #[r.val l.length] 49 (0, 0)) :: (r.hp (flatT l) 53 ++ [(gC, .cells #[.int .i64 0] 3 (0, 0)), (gB, .cells #[.int .i64 0] 27 (0, 0)), (gA, .cells #[.slice none 0 0] 49 (0, 0))])
def LE (gA gB gC e a : Nat) : Heap := [(gC, .cells #[.int .i64 (a : Int)] 3 (0, 0)), (gB, .cells #[.int .i64 (e : Int)] 27 (0, 0)), (gA, .cells #[.slice none 0 0] 49 (0, 0))]
theorem LB_n {gA gB gC gO cap : Nat} {tl : List Value} {l : List Tk} {R : Heap} : LB gA gB gC gO ⟨none, cap, tl⟩ l ++ R = (gO, .cells #[.slice none l.length cap] 49 (0, 0)) :: (gC, .cells #[.int .i64 0] 3 (0, 0)) :: (gB, .cells #[.int .i64 0] 27 (0, 0)) :: (gA, .cells #[.slice none 0 0] 49 (0, 0)) :: R := rfl
theorem LB_s {gA gB gC gO g cap : Nat} {tl : List Value} {l : List Tk} {R : Heap} : LB gA gB gC gO ⟨some g, cap, tl⟩ l ++ R = (gO, .cells #[.slice (some ⟨g, 0, none⟩) l.length cap] 49 (0, 0)) :: (g, .cells (flatT l ++ tl).toArray 53 (0, 0)) :: (gC, .cells #[.int .i64 0] 3 (0, 0)) :: (gB, .cells #[.int .i64 0] 27 (0, 0)) :: (gA, .cells #[.slice none 0 0] 49 (0, 0)) :: R := rfl
theorem LE_e {gA gB gC e a : Nat} {R : Heap} : LE gA gB gC e a ++ R = (gC, .cells #[.int .i64 (a : Int)] 3 (0, 0)) :: (gB, .cells #[.int .i64 (e : Int)] 27 (0, 0)) :: (gA, .cells #[.slice none 0 0] 49 (0, 0)) :: R := rfl
def LOk (w0 : World) (r : RowS) (l : List Tk) : Prop := r.ok 3 l.length (flatT l) ∧ (∀ g, r.g = some g → w0.heap.size ≤ g) ∧ l.length ≤ 5000
theorem LOk.start {w0 : World} : LOk w0 RowS.start [] := ⟨⟨rfl, rfl, rfl⟩, fun g h => (by cases h), Nat.zero_le _⟩
def lenv (gA gB gC gO : Nat) : Env := [(2, true, .pointer (some ⟨gA, 0, none⟩)), (3, true, .pointer (some ⟨gB, 0, none⟩)), (4, true, .pointer (some ⟨gC, 0, none⟩)), (5, true, .pointer (some ⟨gO, 0, none⟩))]
attribute [local irreducible] Calls thenQ blockQ retQ Spc Spl SplI SpcM Spq Ex Ev Evs Gd Upd ESub HKeep Res Res1 wlk effQ Rem SrcAt Split tabA clsA TH scopeQ markQ rndQ asgQ

set_option maxRecDepth 100000 in
set_option maxHeartbeats 400000 in
theorem lex_roundT {Be : Nat} {w0 : World} {l gA gB gC gO d0 : Nat} {fn : FuncId} {tmps : Array Value} {pre : List Tk} {tk : Tk} {r : RowS} {R : Heap} (hA : w0.heap.size ≤ gA) (hB : w0.heap.size ≤ gB) (hC : w0.heap.size ≤ gC) (hO : w0.heap.size ≤ gO) (hr : LOk w0 r pre)
    {rec : Loop} (hrec : rec = { state := .ready, pending := none, fn, tmps, params := #[12], assign := (rangeOf Try.f26).1, body := (rangeOf Try.f26).2, defers := d0 }) :
    SpcM (some l) [] Try.prog 35 Be (rangeOf Try.f26).1 (asgQ Try.prog 35 Be l rec w0 (fun x : Bool × Heap => x.1) (fun x => x.2 ++ R)
      (fun x => (x.1 = true → ∃ r', LOk w0 r' (pre ++ [tk]) ∧ x.2 = (l, .loop rec) :: (d0, .deferred (some [])) :: LB gA gB gC gO r' (pre ++ [tk])) ∧ (x.1 = false → pre.length = 5000 ∧ x.2 = (l, .loop { rec with state := .done, pending := some .ret }) :: (d0, .deferred (some [])) :: LE gA gB gC 7 tk.pos)))
      ((12, true, fv tk.kind tk.text tk.pos 0) :: lenv gA gB gC gO) w0 ((l, .loop rec) :: (d0, .deferred (some [])) :: (LB gA gB gC gO r pre ++ R)) := by
  -- Try.func26 rfl 
  unfold fv lenv
  have hl1 : (pre ++ [tk]).length = pre.length + 1 := by simp
  have hone : ∀ u ∈ (tkC tk).toList, u.oneCell' = true := fun u hu => by simp [tkC] at hu; rcases hu with rfl | rfl | rfl <;> rfl
  repeat (first|apply spm_region rfl|apply spl_nil|(apply spl_alloc rfl;intro _ _)|(apply spl_stores;(·exact eT rfl);(·exact eT rfl);(·(repeat (exact Upd.here)));(·(rfl));(·(rfl));(·exact ones_of_all rfl)))
  rename_i g6 hg6
  refine asg_n ((g6, .cells (fcells tk.kind tk.text tk.pos 0) 93 (0, 0)) :: (d0, .deferred (some [])) :: (LB gA gB gC gO r pre ++ R)) (List.Perm.swap _ _ _) ?_
  subst hrec
  dsimp only
  rcases r with ⟨_ | g, cap, tl⟩
  · rw [LB_n]
    obtain ⟨⟨h0, rfl, hb0⟩, -, hle⟩ := hr
    have h5 : ¬ (pre.length : Int) = 5000 := by omega
    repeat (first|apply spm_seq|apply spm_region rfl|apply spm_block|apply spm_skip|(apply spm_cond_f;(·exact eT rfl);(·(first|exact decide_eq_false (by omega)|rfl)))|apply then_n|apply block_n|apply spl_nil|((apply spl_pure rfl);(·(first|(apply ex_loadpartE (cs':=tkC tk);(·exact eT rfl);(·exact Bk.own InH.mem);(·rfl);(·rfl))|((first|apply ex_assign|apply ex_fieldAddr'|apply ex_seql|apply ex_sneq|apply ex_len)<;>(exact eT rfl))|((first|apply ex_eql|apply ex_neq)<;>(first|exact eT rfl|exact eC))|(apply ex_loadown<;>(first|exact eT rfl|exact Bk.own InH.mem|rfl)))))|(apply spl_store1;(·exact eT rfl);(·exact eT rfl);(·rfl);(·(repeat (first|exact Upd.here|apply Upd.there)));(·rfl))|(apply spl_buildSlice rfl;(·rfl);(·(repeat (first|exact eN|(apply eS;(·exact eT rfl)))));(·rfl);(·rfl);(·rfl);intro _ _)|(refine spl_append_grow (olds := []) (news := (tkC tk).toList) (m := 1) (by (exact eT rfl)) (by (exact eT rfl)) (fun w' hh => CellsAt.nil) (by rw [h0]; rfl) (fun w' hh => SrcAt.slice (CellsAt.own hh.ownI (fun j u hj => by rw [List.getElem?_toArray]; exact hj)) rfl rfl hone) (by omega) (by omega) rfl rfl rfl rfl ?_;intro gN capN tN hgN hcN hlN))
    refine rnd_n _ (true, (l, _) :: (d0, _) :: LB gA gB gC gO ⟨some gN, capN, tN⟩ (pre ++ [tk])) ((List.Perm.cons _ (List.Perm.swap _ _ _)).trans (List.Perm.swap _ _ _)) ⟨fun _ => ⟨⟨some gN, capN, tN⟩, ⟨⟨?_, ?_, ?_⟩, ?_, ?_⟩, rfl⟩, fun h => (by cases h)⟩ rfl ?_
    · rw [hl1]; exact hcN
    · show (flatT (pre ++ [tk]) ++ tN).length = capN * 3
      rw [flatT_snoc]; rw [hb0]
      exact hlN
    · rw [flatT_len]
    · rintro g h; cases h; exact hgN
    · rw [hl1]; omega
    · show HKeep w0 ((l, _) :: (d0, _) :: (LB gA gB gC gO ⟨some gN, capN, tN⟩ (pre ++ [tk]) ++ R)) _
      rw [LB_s, hl1, flatT_snoc]; rw [hb0]
      (repeat (first|exact HKeep.refl|apply HKeep.keep|(apply HKeep.pick;(·(repeat (first|exact Rem.here|apply Rem.there))))|apply HKeep.drop (by first|assumption|omega)))
  · rw [LB_s]
    obtain ⟨⟨h0, h1, h2⟩, h3, hle⟩ := hr
    replace h3 := h3 g rfl
    by_cases h5 : pre.length = 5000
    · have h5' : (pre.length : Int) = 5000 := by omega
      repeat (first|apply spm_seq|apply spm_region rfl|apply spm_block|((apply spm_cond_t);(·exact eT rfl);(·(exact decide_eq_true (by omega))))|(apply spm_cond_f;(·exact eT rfl);(·(rfl)))|apply then_n|apply spl_nil|((apply spl_pure rfl);(·(first|((first|apply ex_assign|apply ex_fieldAddr'|apply ex_seql|apply ex_sneq|apply ex_len)<;>(exact eT rfl))|((first|apply ex_eql|apply ex_neq)<;>(first|exact eT rfl|exact eC))|(apply ex_loadown<;>(first|exact eT rfl|exact Bk.own InH.mem|rfl))))))
      refine spm_drawn [(0, true), (1, true), (2, true), (3, false), (4, false), (5, false)] 6 _ mixed (by kernel_rfl) rfl (HKeep.keep (HKeep.keep (HKeep.keep (HKeep.keep (HKeep.keep (HKeep.drop hC (HKeep.drop hB (HKeep.drop hA HKeep.refl)))))))) ?_
      repeat (first|apply spm_ret|apply then_n|apply spl_nil|apply then_r|apply block_r|((apply wlk_read rfl rfl);(·(first|((apply ex_fieldAddr')<;>(exact eT rfl))|(apply ex_loadown<;>(first|exact eT rfl|exact Bk.own InH.mem|rfl)))))|(apply spl_store1;(·exact eT rfl);(·(first|exact eT rfl|exact eC));(·rfl);(·(repeat (first|exact Upd.here|apply Upd.there)));(·rfl))|(apply effq;(·(intro h_;((repeat (first|exact HKeep.refl|apply HKeep.keep|apply HKeep.drop (by first|assumption|omega)))))))|apply wlk_nil|apply wlk_eff rfl)
      refine rnd_r _ (false, (l, _) :: (d0, _) :: LE gA gB gC 7 tk.pos) (List.Perm.refl _) ⟨fun h => (by cases h), fun _ => ⟨h5, rfl⟩⟩ rfl ?_
      show HKeep w0 ((l, _) :: (d0, _) :: (LE gA gB gC 7 tk.pos ++ R)) _
      rw [LE_e]
      (repeat (first|exact HKeep.refl|apply HKeep.keep|(apply HKeep.pick;(·(repeat (first|exact Rem.here|apply Rem.there))))|apply HKeep.drop (by first|assumption|omega)))
    · have h5' : ¬ (pre.length : Int) = 5000 := by omega
      repeat (first|apply spm_seq|apply spm_region rfl|apply spm_block|apply spm_skip|(apply spm_cond_f;(·exact eT rfl);(·(first|exact decide_eq_false (by omega)|rfl)))|apply then_n|apply block_n|apply spl_nil|((apply spl_pure rfl);(·(first|(apply ex_loadpartE (cs':=tkC tk);(·exact eT rfl);(·exact Bk.own InH.mem);(·rfl);(·rfl))|((first|apply ex_assign|apply ex_fieldAddr'|apply ex_seql|apply ex_sneq|apply ex_len)<;>(exact eT rfl))|((first|apply ex_eql|apply ex_neq)<;>(first|exact eT rfl|exact eC))|(apply ex_loadown<;>(first|exact eT rfl|exact Bk.own InH.mem|rfl)))))|(apply spl_store1;(·exact eT rfl);(·exact eT rfl);(·rfl);(·(repeat (first|exact Upd.here|apply Upd.there)));(·rfl))|(apply spl_buildSlice rfl;(·rfl);(·(repeat (first|exact eN|(apply eS;(·exact eT rfl)))));(·rfl);(·rfl);(·rfl);intro _ _)|(refine spl_append_own (xs := flatT pre) (tail := tl) (news := (tkC tk).toList) (m := 1) (by (exact eT rfl)) (by (exact eT rfl)) (by (repeat (first|exact Rem.here|apply Rem.there))) (by assumption) h2 h1 h0 (fun w' hh => SrcAt.slice (CellsAt.own hh.ownI (fun j u hj => by rw [List.getElem?_toArray]; exact hj)) rfl rfl hone) rfl (by omega) rfl rfl rfl rfl ?_;intro gN capN tN hgN hcN hlN))
      refine rnd_n _ (true, (l, _) :: (d0, _) :: LB gA gB gC gO ⟨some gN, capN, tN⟩ (pre ++ [tk])) ((List.Perm.cons _ (List.Perm.swap _ _ _)).trans (List.Perm.swap _ _ _)) ⟨fun _ => ⟨⟨some gN, capN, tN⟩, ⟨⟨?_, ?_, ?_⟩, ?_, ?_⟩, rfl⟩, fun h => (by cases h)⟩ rfl ?_
      · rw [hl1]; exact hcN
      · show (flatT (pre ++ [tk]) ++ tN).length = capN * 3
        rw [flatT_snoc]; skip
        exact hlN
      · rw [flatT_len]
      · rintro g h; cases h; exact hgN
      · rw [hl1]; omega
      · show HKeep w0 ((l, _) :: (d0, _) :: (LB gA gB gC gO ⟨some gN, capN, tN⟩ (pre ++ [tk]) ++ R)) _
        rw [LB_s, hl1, flatT_snoc]; skip
        (repeat (first|exact HKeep.refl|apply HKeep.keep|(apply HKeep.pick;(·(repeat (first|exact Rem.here|apply Rem.there))))|apply HKeep.drop (by first|assumption|omega)))

set_option maxRecDepth 100000 in
set_option maxHeartbeats 400000 in
theorem lex_roundE {Be : Nat} {w0 : World} {l gA gB gC gO d0 : Nat} {fn : FuncId} {tmps : Array Value} {pre : List Tk} {k a e : Nat} {s : ByteArray} (he : e ≠ 0) {r : RowS} {R : Heap} (hA : w0.heap.size ≤ gA) (hB : w0.heap.size ≤ gB) (hC : w0.heap.size ≤ gC) (hO : w0.heap.size ≤ gO) (hr : LOk w0 r pre)
    {rec : Loop} (hrec : rec = { state := .ready, pending := none, fn, tmps, params := #[12], assign := (rangeOf Try.f26).1, body := (rangeOf Try.f26).2, defers := d0 }) :
    SpcM (some l) [] Try.prog 35 Be (rangeOf Try.f26).1 (asgQ Try.prog 35 Be l rec w0 (fun x : Heap => false) (fun x => x ++ R)
      (fun x => x = (l, .loop { rec with state := .done, pending := some .ret }) :: (d0, .deferred (some [])) :: LE gA gB gC e a))
      ((12, true, fv k s a e) :: lenv gA gB gC gO) w0 ((l, .loop rec) :: (d0, .deferred (some [])) :: (LB gA gB gC gO r pre ++ R)) := by
  -- Try.func26 rfl 
  unfold fv lenv
  have hcond : (!decide ((e : Int) = 0)) = true := by simp; omega
  repeat (first|apply spm_region rfl|apply spl_nil|(apply spl_alloc rfl;intro _ _)|(apply spl_stores;(·exact eT rfl);(·exact eT rfl);(·(repeat (exact Upd.here)));(·(rfl));(·(rfl));(·exact ones_of_all rfl)))
  rename_i g6 hg6
  refine asg_n ((g6, .cells (fcells k s a e) 93 (0, 0)) :: (d0, .deferred (some [])) :: (LB gA gB gC gO r pre ++ R)) (List.Perm.swap _ _ _) ?_
  subst hrec
  dsimp only
  rcases r with ⟨_ | g, cap, tl⟩
  · rw [LB_n]
    repeat (first|apply spm_seq|apply spm_region rfl|apply spm_block|(apply spm_cond_t;(·exact eT rfl);(·exact hcond))|apply then_n|apply spl_nil|((apply spl_pure rfl);(·(first|((first|apply ex_assign|apply ex_fieldAddr'|apply ex_sneq)<;>(exact eT rfl))|((apply ex_neq)<;>(first|exact eT rfl|exact eC))|(apply ex_loadown<;>(first|exact eT rfl|exact Bk.own InH.mem|rfl))))))
    refine spm_drawn [(0, true), (1, true), (2, true), (3, true), (4, true), (5, false), (6, false), (7, false)] 8 _ mixed (by kernel_rfl) rfl (HKeep.keep (HKeep.keep (HKeep.keep (HKeep.keep (HKeep.drop hC (HKeep.drop hB (HKeep.drop hA HKeep.refl))))))) ?_
    repeat (first|apply spm_ret|apply then_n|apply spl_nil|apply then_r|apply block_r|((apply wlk_read rfl rfl);(·(first|((apply ex_fieldAddr')<;>(exact eT rfl))|(apply ex_loadown<;>(first|exact eT rfl|exact Bk.own InH.mem|rfl)))))|(apply spl_store1;(·exact eT rfl);(·(first|exact eT rfl|exact eC));(·rfl);(·(repeat (first|exact Upd.here|apply Upd.there)));(·rfl))|(apply effq;(·(intro h_;((repeat (first|exact HKeep.refl|apply HKeep.keep|apply HKeep.drop (by first|assumption|omega)))))))|apply wlk_nil|apply wlk_eff rfl)
    refine rnd_r _ ((l, _) :: (d0, _) :: LE gA gB gC e a) (List.Perm.refl _) rfl rfl ?_
    show HKeep w0 ((l, _) :: (d0, _) :: (LE gA gB gC e a ++ R)) _
    rw [LE_e]
    (repeat (first|exact HKeep.refl|apply HKeep.keep|(apply HKeep.pick;(·(repeat (first|exact Rem.here|apply Rem.there))))|apply HKeep.drop (by first|assumption|omega)))
  · rw [LB_s]
    obtain ⟨-, h3, -⟩ := hr
    replace h3 := h3 g rfl
    repeat (first|apply spm_seq|apply spm_region rfl|apply spm_block|(apply spm_cond_t;(·exact eT rfl);(·exact hcond))|apply then_n|apply spl_nil|((apply spl_pure rfl);(·(first|((first|apply ex_assign|apply ex_fieldAddr'|apply ex_sneq)<;>(exact eT rfl))|((apply ex_neq)<;>(first|exact eT rfl|exact eC))|(apply ex_loadown<;>(first|exact eT rfl|exact Bk.own InH.mem|rfl))))))
    refine spm_drawn [(0, true), (1, true), (2, true), (3, true), (4, true), (5, false), (6, false), (7, false)] 8 _ mixed (by kernel_rfl) rfl (HKeep.keep (HKeep.keep (HKeep.keep (HKeep.keep (HKeep.keep (HKeep.drop hC (HKeep.drop hB (HKeep.drop hA HKeep.refl)))))))) ?_
    repeat (first|apply spm_ret|apply then_n|apply spl_nil|apply then_r|apply block_r|((apply wlk_read rfl rfl);(·(first|((apply ex_fieldAddr')<;>(exact eT rfl))|(apply ex_loadown<;>(first|exact eT rfl|exact Bk.own InH.mem|rfl)))))|(apply spl_store1;(·exact eT rfl);(·(first|exact eT rfl|exact eC));(·rfl);(·(repeat (first|exact Upd.here|apply Upd.there)));(·rfl))|(apply effq;(·(intro h_;((repeat (first|exact HKeep.refl|apply HKeep.keep|apply HKeep.drop (by first|assumption|omega)))))))|apply wlk_nil|apply wlk_eff rfl)
    refine rnd_r _ ((l, _) :: (d0, _) :: LE gA gB gC e a) (List.Perm.refl _) rfl rfl ?_
    show HKeep w0 ((l, _) :: (d0, _) :: (LE gA gB gC e a ++ R)) _
    rw [LE_e]
    (repeat (first|exact HKeep.refl|apply HKeep.keep|(apply HKeep.pick;(·(repeat (first|exact Rem.here|apply Rem.there))))|apply HKeep.drop (by first|assumption|omega)))
end Go.Proofs.Ytfdjlphfohnnnaa
/-
  Contracts: the lexer's Lex.
-/
namespace Go.Proofs.Ytfdjlphfohnnnaa
open Go.RowKit Go.Sy
set_option linter.unusedVariables false
set_option linter.unusedSimpArgs false
theorem lexR_big {t : ByteArray} (h : 20000 < t.size) : lexR t = ([], 7, -1) := by unfold lexR; rw [if_pos h]
theorem lexR_done {t : ByteArray} (h : ¬ 20000 < t.size) (h2 : (lexA t).1.length ≤ 5000) (h3 : (lexA t).2 = none) : lexR t = ((lexA t).1, 0, 0) := by
  unfold lexR; rw [if_neg h, List.getElem?_eq_none h2, h3]
theorem lexR_err {t : ByteArray} {e a : Nat} (h : ¬ 20000 < t.size) (h2 : (lexA t).1.length ≤ 5000) (h3 : (lexA t).2 = some (e, a)) : lexR t = ([], (e : Int), (a : Int)) := by
  unfold lexR; rw [if_neg h, List.getElem?_eq_none h2, h3]
theorem lexR_lim {t : ByteArray} {tk : Tk} {pre q : List Tk} (h : ¬ 20000 < t.size) (h2 : (lexA t).1 = pre ++ tk :: q) (h3 : pre.length = 5000) : lexR t = ([], 7, (tk.pos : Int)) := by
  unfold lexR; rw [if_neg h, h2, ← h3, List.getElem?_append_right (Nat.le_refl _), Nat.sub_self]
  rfl
theorem HKeep.dropAll {w0 : World} {A : Heap} (h : ∀ p ∈ A, w0.heap.size ≤ p.1) : HKeep w0 [] A := ⟨A, by simp, h⟩
/-- How the loop ended. -/
def lexI (w0 : World) (t : ByteArray) (x : Option (Nat × Nat) × RowS) : Prop := match x.1 with
  | none => LOk w0 x.2 (lexA t).1 ∧ (lexA t).2 = none
  | some p => lexR t = ([], (p.1 : Int), (p.2 : Int))
attribute [local irreducible] Calls thenQ blockQ retQ Spc Spl SplI SpcM Spq Ex Ev Evs Gd Upd ESub HKeep Res Res1 wlk effQ Rem SrcAt Split tabA clsA TH scopeQ markQ rndQ asgQ

set_option maxRecDepth 100000 in
set_option maxHeartbeats 400000 in
theorem lex_c {w : World} (t : ByteArray) (ht : t.size < 1000000000) : Calls Try.prog 26 #[.string t] w (RetH w (fun x : RowS => .tuple #[x.val (lexR t).1.length, .int .i64 (lexR t).2.1, .int .i64 (lexR t).2.2]) (fun x => x.hp (flatT (lexR t).1) 53) (fun x => x.ok 3 (lexR t).1.length (flatT (lexR t).1))) := by
  refine sp_enterD (vs := [_]) Try.func26 rfl Try.ntmps26 rfl ?_
  have hlen := tx_len t
  by_cases hbig : 20000 < t.size
  · skip
    repeat (first|apply spm_seq|apply spm_region rfl|apply spm_ret|((apply spm_cond_t);(·exact eT rfl);(·(exact decide_eq_true (by omega))))|apply then_n|apply spl_nil|apply then_r|((apply spl_pure rfl);(·(first|((first|apply ex_move|apply ex_gtr)<;>(first|exact eT rfl|exact eC))|((apply ex_slen)<;>(exact eT rfl)))))|(apply spl_alloc rfl;intro _ _)|(apply spl_store1;(·exact eT rfl);(·exact eC);(·rfl);(·(repeat (first|exact Upd.here|apply Upd.there)));(·rfl)))
    refine markH_none rfl (by ((apply Res.ofThree<;>((apply Res1.cell1;(·rfl);(·exact InH.mem);(·rfl)))))) ?_
    rw [lexR_big hbig]
    exact ⟨RowS.start, rfl, ⟨rfl, rfl, rfl⟩, by (repeat (first|exact HKeep.refl|apply HKeep.drop (by first|assumption|omega)))⟩
  · skip
    repeat (first|(apply spl_callh rfl;(·(repeat (first|exact eN|(apply eS;(·exact eT rfl)))));(·exact fun w' hh => tokens_c t);(rintro ⟨g1, g3, g4⟩ - hfr))|apply spm_seq|apply spm_region rfl|apply spm_block|apply spm_skip|(apply spm_cond_f;(·exact eT rfl);(·(exact decide_eq_false (by omega))))|apply then_n|apply spl_nil|((apply spl_pure rfl);(·(first|((first|apply ex_move|apply ex_gtr)<;>(first|exact eT rfl|exact eC))|((apply ex_slen)<;>(exact eT rfl)))))|(apply spl_alloc rfl;intro _ _))
    rename_i gA hA gB hB gC hC gO hO
    have hH : HKeep w ((gO, .cells #[.slice none 0 0] 49 (0, 0)) :: (gC, .cells #[.int .i64 0] 3 (0, 0)) :: (gB, .cells #[.int .i64 0] 27 (0, 0)) :: (gA, .cells #[.slice none 0 0] 49 (0, 0)) :: TH t g1 g3 g4) (TH t g1 g3 g4 ++ [(gO, .cells #[.slice none 0 0] 49 (0, 0)), (gC, .cells #[.int .i64 0] 3 (0, 0)), (gB, .cells #[.int .i64 0] 27 (0, 0)), (gA, .cells #[.slice none 0 0] 49 (0, 0))]) :=
      HKeep.perm List.perm_append_comm
    refine SpcM.sub ?_ ESub.refl hH
    refine spm_rangeFunc (gf := 74) (caps := [.pointer (some ⟨g1, 0, none⟩), .pointer (some ⟨g4, 0, none⟩)]) (X := Option (Nat × Nat) × RowS) (V := fun _ => .tuple #[]) (st := fun x => match x.1 with | none => .ready | some _ => .done) (pend := fun x => match x.1 with | none => none | some _ => some .ret)
      (HX := fun x => match x.1 with | none => LB gA gB gC gO x.2 (lexA t).1 ++ TH t g1 g3 g4 | some p => LE gA gB gC p.1 p.2 ++ TH t g1 g3 g4) (I := lexI w t) (by (exact eT rfl)) ?_ ?_
    · intro fn tmps l d0 hfr hl hd0 w1 hw1
      have hfr' : Fr 35 (lenv gA gB gC gO) { tmps := tmps, defers := [] } := hfr.sub (by unfold lenv; (repeat (first|exact ESub.nil|apply ESub.cons rfl)))
      obtain ⟨rec, hrec⟩ : ∃ rec : Loop, rec = { state := .ready, pending := none, fn, tmps, params := #[12], assign := (rangeOf Try.f26).1, body := (rangeOf Try.f26).2, defers := d0 } := ⟨_, rfl⟩
      have hst : rec.state = .ready := by rw [hrec]
      have hps : rec.params = #[12] := by rw [hrec]
      have htm : rec.tmps = tmps := by rw [hrec]
      have has : rec.assign = (rangeOf Try.f26).1 := by rw [hrec]
      have hY : Yld w.heap.size w l t (fun pre x => ∃ r, LOk w r pre ∧ x = (l, .loop rec) :: (d0, .deferred (some [])) :: LB gA gB gC gO r pre) (fun pre tk x => pre.length = 5000 ∧ x = (l, .loop { rec with state := .done, pending := some .ret }) :: (d0, .deferred (some [])) :: LE gA gB gC 7 tk.pos)
          (fun e a x => (lexA t).1.length ≤ 5000 ∧ x = (l, .loop { rec with state := .done, pending := some .ret }) :: (d0, .deferred (some [])) :: LE gA gB gC e a) := by
        refine ⟨fun pre tk H R hJ _ w' hw' => ?_, fun pre k s a e H R hJ hL he w' hw' => ?_⟩
        · obtain ⟨r, hr, rfl⟩ := hJ
          have h1 := lex_roundT (Be := w.heap.size) (l := l) (d0 := d0) (tk := tk) (R := R) hA hB hC hO hr hrec
          rw [← has] at h1
          exact yield_round hst hps (by rw [htm]; exact hfr') rfl h1 w' hw'
        · obtain ⟨r, hr, rfl⟩ := hJ
          have h1 := lex_roundE (Be := w.heap.size) (l := l) (d0 := d0) (k := k) (a := a) (s := s) (R := R) he hA hB hC hO hr hrec
          rw [← has] at h1
          have hpre : (lexA t).1 = pre := by rw [hL]
          have h2 := yield_round hst hps (by rw [htm]; exact hfr') rfl h1 w' hw'
          obtain ⟨fn', tmps', as', bo', h3, h4⟩ := h2
          refine ⟨fn', tmps', as', bo', h3, h4.mono ?_⟩
          rintro en w2 ⟨x, hx, hI, hp⟩
          exact ⟨x, hx, ⟨by rw [hpre]; exact hr.2.2, hI⟩, hp⟩
      have hc := tokens2_c (g1 := g1) (g3 := g3) (g4 := g4) (H := (l, .loop rec) :: (d0, .deferred (some [])) :: LB gA gB gC gO RowS.start []) (by omega) hY ⟨RowS.start, LOk.start, rfl⟩ (w := w1) (by rw [hrec]; exact hw1)
      refine hc.mono ?_
      rintro en w2 ⟨x, rfl, hI, hp⟩
      rcases hI with ⟨⟨r, hr, rfl⟩, hn⟩ | ⟨pre, tk, q, hq, h5, rfl⟩ | ⟨e, a, hea, h5, rfl⟩
      · refine ⟨(none, r), rfl, ⟨hr, hn⟩, ?_⟩
        rw [hrec] at hp
        exact hp
      · refine ⟨(some (7, tk.pos), RowS.start), rfl, lexR_lim hbig hq h5, ?_⟩
        rw [hrec] at hp
        exact hp
      · refine ⟨(some (e, a), RowS.start), rfl, lexR_err hbig h5 hea, ?_⟩
        rw [hrec] at hp
        exact hp
    · rintro d0 ⟨o, r⟩ hI hd0
      cases o with
      | none =>
        obtain ⟨⟨hok, hrf, hle⟩, hn⟩ := hI
        refine ⟨by simp, ?_⟩
        have hR := lexR_done hbig hle hn
        dsimp only
        rcases r with ⟨_ | g, cap, tl⟩
        · rw [LB_n]
          repeat (first|apply then_n|apply spm_seq|apply spm_region rfl|apply spm_ret|apply block_n|apply spl_nil|((apply spl_pure rfl);(·((apply ex_loadown<;>(first|exact eT rfl|exact Bk.own InH.mem|rfl)))))|(apply spl_store1;(·exact eT rfl);(·(first|exact eT rfl|exact eC));(·rfl);(·(repeat (first|exact Upd.here|apply Upd.there)));(·rfl)))
          refine markH_one rfl Upd.here (by ((apply Res.ofThree<;>((apply Res1.cell1;(·rfl);(·exact InH.mem);(·rfl)))))) ?_
          rw [hR]
          exact ⟨⟨none, cap, tl⟩, rfl, hok, HKeep.drop hd0 (HKeep.drop hO (HKeep.drop hC (HKeep.drop hB (HKeep.drop hA (HKeep.dropAll hfr)))))⟩
        · rw [LB_s]
          repeat (first|apply then_n|apply spm_seq|apply spm_region rfl|apply spm_ret|apply block_n|apply spl_nil|((apply spl_pure rfl);(·((apply ex_loadown<;>(first|exact eT rfl|exact Bk.own InH.mem|rfl)))))|(apply spl_store1;(·exact eT rfl);(·(first|exact eT rfl|exact eC));(·rfl);(·(repeat (first|exact Upd.here|apply Upd.there)));(·rfl)))
          refine markH_one rfl Upd.here (by ((apply Res.ofThree<;>((apply Res1.cell1;(·rfl);(·exact InH.mem);(·rfl)))))) ?_
          rw [hR]
          exact ⟨⟨some g, cap, tl⟩, rfl, hok, HKeep.drop hd0 (HKeep.drop hO (HKeep.keep (HKeep.drop hC (HKeep.drop hB (HKeep.drop hA (HKeep.dropAll hfr))))))⟩
      | some p =>
        refine ⟨by simp, ?_⟩
        have hR : lexR t = ([], (p.1 : Int), (p.2 : Int)) := hI
        dsimp only
        rw [LE_e]
        repeat (first|apply then_r|apply block_r)
        refine markH_one rfl Upd.here (by ((apply Res.ofThree<;>((apply Res1.cell1;(·rfl);(·exact InH.mem);(·rfl)))))) ?_
        rw [hR]
        exact ⟨RowS.start, rfl, ⟨rfl, rfl, rfl⟩, HKeep.drop hd0 (HKeep.drop hC (HKeep.drop hB (HKeep.drop hA (HKeep.dropAll hfr))))⟩
end Go.Proofs.Ytfdjlphfohnnnaa
/-
  Rules for reading the tokens that Lex hands back, and for comparing them; Lex at a text whose tokens are known.
-/
namespace Go.Proofs.Ytfdjlphfohnnnaa
open Go.RowKit Go.Sy
set_option linter.unusedVariables false
set_option linter.unusedSimpArgs false
def tkEq (s t : Tk) : Bool := decide ((s.kind : Int) = t.kind) && (decide (s.text = t.text) && decide ((s.pos : Int) = t.pos))
theorem tkEq_run (s t : Tk) (w : World) : (Op.equalIn 10000 53 (.agg (tkC s)) (.agg (tkC t))).run Try.prog w = .ok (tkEq s t) w := by
  rw [run_equalIn_struct w 9999 53 _ _ (by kernel_rfl) (by kernel_rfl)]
  simp only [Program.fieldsOf, Try.underlying53]
  rw [eqFields_int (t := 3) (a := (s.kind : Int)) (b := (t.kind : Int)) (by decide) rfl rfl rfl, eqFields_str (t := 9) (a := s.text) (b := t.text) (by decide) rfl rfl rfl, eqFields_int (t := 3) (a := (s.pos : Int)) (b := (t.pos : Int)) (by decide) rfl rfl rfl, eqFields_nil]
  unfold tkEq
  by_cases h1 : (s.kind : Int) = t.kind <;> by_cases h2 : s.text = t.text <;> by_cases h3 : (s.pos : Int) = t.pos <;> simp [h1, h2, h3]
theorem tkEq_refl (s : Tk) : tkEq s s = true := by simp [tkEq]
theorem tkEq_iff (s t : Tk) : tkEq s t = true ↔ s = t := by
  constructor
  · intro h
    simp only [tkEq, Bool.and_eq_true, decide_eq_true_iff] at h
    obtain ⟨h1, h2, h3⟩ := h
    cases s; cases t
    simp only at h1 h2 h3
    congr 1
    · omega
    · omega
  · rintro rfl; exact tkEq_refl _
/-- The tokens that Lex has handed back, as they are read. -/
theorem row_rd {Be : Nat} {w0 : World} {x : RowS} {l : List Tk} (hok : x.ok 3 l.length (flatT l)) (hn : l.length ≤ 9223372036854775807) {H : Heap} (hs : ∀ p ∈ x.hp (flatT l) 53, p ∈ H) (w : World) (hh : Hp Be w0 H w) :
    RdS w w.heap.size 3 tkC (x.g.map fun g => ⟨g, 0, none⟩) l.length l := by
  rcases x with ⟨_ | g, cap, tl⟩
  · obtain ⟨h, -, -⟩ := hok
    cases l with
    | nil => exact RdS.none_
    | cons a l => simp at h
  · have hm := hs (g, .cells (flatT l ++ tl).toArray 53 (0, 0)) (.head _)
    exact RdS.ofRow (hh.own _ hm) (hh.lt hm) rfl hn (fun _ _ => rfl)
section
variable {P : Program} {Be : Nat} {w0 : World} {H : Heap} {G : Bool} {e : Env} {ty : TypeId} {α : Type} {sz : Nat} {C : α → Array Value}
theorem ex_loadelemH {t : TypeId} {x : Operand} {ad : Addr} {i n : Nat} {xs : List α} {y : α} (h : Ev G e x (.pointer (some (ad.add (i * sz))))) {A : Option Addr} (hr : ∀ w, Hp Be w0 H w → RdS w w.heap.size sz C A n xs) (hA : A = some ad) (hsz : (C y).size = sz) (hy : xs[i]? = some y) [TAgg P t] [hs : TSize P t sz] : Ex P Be w0 H G e (.load t x) ty (.agg (C y)) := by
  subst hA
  refine ex_loadn h hsz fun w hh j v hj => ?_
  obtain ⟨ad', e', hb, hsz, hc⟩ := (hr w hh).elems i y hy
  cases e'
  exact hc j v hj
theorem ex_loadfieldH {t : TypeId} {x : Operand} {ad : Addr} {i k n : Nat} {xs : List α} {y : α} {v : Value} (h : Ev G e x (.pointer (some ((ad.add (i * sz)).add k)))) {A : Option Addr} (hr : ∀ w, Hp Be w0 H w → RdS w w.heap.size sz C A n xs) (hA : A = some ad) (hy : xs[i]? = some y) (hv : (C y)[k]? = some v) [TCell P t] : Ex P Be w0 H G e (.load t x) ty v := by
  subst hA
  refine ex_load1 h fun w hh => ?_
  obtain ⟨ad', e', hb, hsz, hc⟩ := (hr w hh).elems i y hy
  cases e'
  exact hc k v hv
end
attribute [local irreducible] Calls thenQ blockQ retQ Spc Spl SplI SpcM Spq Ex Ev Evs Gd Upd ESub HKeep Res Res1 wlk effQ Rem SrcAt Split lexR
theorem ex_tkeql {Be : Nat} {w0 : World} {H : Heap} {G : Bool} {e : Env} {ty t' : TypeId} {x y : Operand} {s t : Tk} (h1 : Ev G e x (.agg (tkC s))) (h2 : Ev G e y (.agg (tkC t))) : Ex Try.prog Be w0 H G e (.binOp .eql 53 x y t') ty (.bool (tkEq s t)) := ex_aggeql h1 h2 (by kernel_rfl) (tkEq_run s t)
theorem ex_tkeqT {Be : Nat} {w0 : World} {H : Heap} {G : Bool} {e : Env} {ty t' : TypeId} {x y : Operand} {s t : Tk} (h1 : Ev G e x (.agg (tkC s))) (h2 : Ev G e y (.agg (tkC t))) (h : tkEq s t = true) : Ex Try.prog Be w0 H G e (.binOp .eql 53 x y t') ty (.bool true) := by
  have := ex_tkeql (Be := Be) (w0 := w0) (H := H) (ty := ty) (t' := t') h1 h2
  rwa [h] at this
theorem lex_e {w : World} {t : ByteArray} {l : List Tk} {e n : Int} (hR : lexR t = (l, e, n)) (ht : t.size < 1000000000) : Calls Try.prog 26 #[.string t] w (RetH w (fun x : RowS => .tuple #[x.val l.length, .int .i64 e, .int .i64 n]) (fun x => x.hp (flatT l) 53) (fun x => x.ok 3 l.length (flatT l))) := by
  have := lex_c (w := w) t ht
  rw [hR] at this
  exact this
end Go.Proofs.Ytfdjlphfohnnnaa
/-
  Regions that draw their order in which two operations that make memory come up together: both orders are walked; code that is cut between two statements.
-/
namespace Go.Sy
open Go.RowKit
set_option linter.unusedVariables false
set_option linter.unusedSimpArgs false
inductive Pt where
  | nil
  | rd (i : Nat) (t : Pt)
  | ef (i : Nat) (t : Pt)
  | fk (i j : Nat) (t u : Pt)
def Pt.len : Pt → Nat
  | .nil => 0
  | .rd _ t => t.len + 1
  | .ef _ t => t.len + 1
  | .fk _ _ t _ => t.len + 1
def canonT (md : Region.Mode) (ops : Array Oper) (m : Nat) : Array Bool → Bool → Pt → Bool
  | listed, _, .nil => (Region.ready md ops listed).isEmpty
  | listed, bar, .rd i r => (!bar && decide (i < m)) && (Region.ready md ops listed).contains i && Region.free md ops listed i && canonT md ops m (listed.setIfInBounds i true) bar r
  | listed, bar, .ef i r => (Region.ready md ops listed == [i]) && canonT md ops m (listed.setIfInBounds i true) (bar || decide (m ≤ i)) r
  | listed, bar, .fk i j r s => (Region.ready md ops listed == [i, j]) && (Nat.beq r.len s.len && (canonT md ops m (listed.setIfInBounds i true) (bar || decide (m ≤ i)) r && canonT md ops m (listed.setIfInBounds j true) (bar || decide (m ≤ j)) s))
def drawnT (ops : Array Oper) (m : Nat) (p : Pt) : Bool :=
  Region.noSelect ops && tailB .any ops m && decide (p.len = ops.size) && canonT .any ops m (Array.replicate ops.size false) false p
section walk
variable {P : Program} {N Be : Nat} {Q : Post} {e : Env} {w0 : World} {H H1 : Heap} {ops : Array Oper} {ty : TypeId} {pos : String} {after : Array Edge} {d i m : Nat}
def wlkT (P : Program) (N Be : Nat) (ops : Array Oper) (m : Nat) (Q : Post) (H1 : Heap) : Pt → Env → World → Heap → Prop
  | .nil, e, w0, H => Q .normal e w0 H
  | .rd i r, e, w0, H => ∃ (o : Oper) (d : Nat) (G : Bool) (v : Value), ops[i]? = some o ∧ o.dst = some d ∧ d < N ∧ Gd ops e o.guard G ∧ Ex P Be w0 H1 G e o.op o.type v ∧ wlkT P N Be ops m Q H1 r ((d, G, v) :: e) w0 H
  | .ef i r, e, w0, H => ∃ o : Oper, ops[i]? = some o ∧ Spl P N Be ops (fun x e' w0' H' => x = .normal ∧ w0' = w0 ∧ (i < m → HKeep w0 H1 H') ∧ wlkT P N Be ops m Q H1 r e' w0' H') [o] e w0 H
  | .fk i j r s, e, w0, H => (∃ o : Oper, ops[i]? = some o ∧ Spl P N Be ops (fun x e' w0' H' => x = .normal ∧ w0' = w0 ∧ (i < m → HKeep w0 H1 H') ∧ wlkT P N Be ops m Q H1 r e' w0' H') [o] e w0 H) ∧
      ∃ o : Oper, ops[j]? = some o ∧ Spl P N Be ops (fun x e' w0' H' => x = .normal ∧ w0' = w0 ∧ (j < m → HKeep w0 H1 H') ∧ wlkT P N Be ops m Q H1 s e' w0' H') [o] e w0 H
def effT (P : Program) (N Be : Nat) (ops : Array Oper) (m : Nat) (Q : Post) (H1 : Heap) (i : Nat) (r : Pt) (w0 : World) : Post := fun x e' w0' H' => x = .normal ∧ w0' = w0 ∧ (i < m → HKeep w0 H1 H') ∧ wlkT P N Be ops m Q H1 r e' w0' H'
theorem wlt_nil (h : Q .normal e w0 H) : wlkT P N Be ops m Q H1 .nil e w0 H := h
theorem wlt_read {r : Pt} {op : Op} {v : Value} (ho : ops[i]? = some ⟨some d, op, ty, pos, after, none⟩) (hN : Nat.blt d N = true) (hx : Ex P Be w0 H1 true e op ty v) (k : wlkT P N Be ops m Q H1 r ((d, true, v) :: e) w0 H) :
    wlkT P N Be ops m Q H1 (.rd i r) e w0 H := ⟨_, d, true, v, ho, rfl, by simpa [Nat.blt_eq] using hN, Gd.none, hx, k⟩
theorem wlt_read_g {r : Pt} {op : Op} {v : Value} {g : Option (Nat × Bool)} {G : Bool} (ho : ops[i]? = some ⟨some d, op, ty, pos, after, g⟩) (hN : Nat.blt d N = true) (hg : Gd ops e g G) (hx : Ex P Be w0 H1 G e op ty v) (k : wlkT P N Be ops m Q H1 r ((d, G, v) :: e) w0 H) :
    wlkT P N Be ops m Q H1 (.rd i r) e w0 H := ⟨_, d, G, v, ho, rfl, by simpa [Nat.blt_eq] using hN, hg, hx, k⟩
theorem wlt_eff {r : Pt} {dst : Option Tmp} {op : Op} {g : Option (Nat × Bool)} (ho : ops[i]? = some ⟨dst, op, ty, pos, after, g⟩) (h : Spl P N Be ops (effT P N Be ops m Q H1 i r w0) [⟨dst, op, ty, pos, after, g⟩] e w0 H) : wlkT P N Be ops m Q H1 (.ef i r) e w0 H := ⟨_, ho, h⟩
theorem wlt_fork {j : Nat} {r s : Pt} {dst dst' : Option Tmp} {op op' : Op} {g g' : Option (Nat × Bool)} {ty' : TypeId} {pos' : String} {after' : Array Edge} (ho : ops[i]? = some ⟨dst, op, ty, pos, after, g⟩) (ho' : ops[j]? = some ⟨dst', op', ty', pos', after', g'⟩)
    (h : Spl P N Be ops (effT P N Be ops m Q H1 i r w0) [⟨dst, op, ty, pos, after, g⟩] e w0 H) (h' : Spl P N Be ops (effT P N Be ops m Q H1 j s w0) [⟨dst', op', ty', pos', after', g'⟩] e w0 H) : wlkT P N Be ops m Q H1 (.fk i j r s) e w0 H := ⟨⟨_, ho, h⟩, _, ho', h'⟩
theorem efft {r : Pt} (h : i < m → HKeep w0 H1 H) (k : wlkT P N Be ops m Q H1 r e w0 H) : effT P N Be ops m Q H1 i r w0 .normal e w0 H := ⟨rfl, rfl, h, k⟩
theorem effect_sound {a : Act} {w : World} {o : Oper} {j : Nat} {R : Post} {K : Act → World → Prop} (ho : ops[j]? = some o) (hk : Spl P N Be ops R [o] e w0 H) (hR : ∀ x e w H, R x e w H → x = .normal) (hf : Fr N e a) (hh : Hp Be w0 H w) (fin : ∀ a' w', lift N Be R .normal a' w' → K a' w') : opI P ops j K a w := by
  have h1 := hk a w hf hh
  unfold opI
  simp only [ho]
  simp only [wpList] at h1
  split at h1
  · rename_i hw
    simp only [hw, if_true]
    rcases h1 with h1 | ⟨_, h1⟩
    · unfold Oper.wp at *
      generalize (execOp a.eval o).run P w = res at *
      cases res with
      | ok n w' =>
        cases n <;> simp only [Oper.upon] at h1 ⊢
        case enter f args =>
          refine h1.mono fun en w'' he => ?_
          cases en with
          | returned u => exact fin _ _ he
          | panicked c => obtain ⟨_, _, _, _, _, hx⟩ := he; cases hR _ _ _ _ hx
          | outgrown => obtain ⟨_, _, _, _, _, _, _, hx⟩ := he; cases hR _ _ _ _ hx
        case row => exact h1.mono fun _ _ he => fin _ _ he
        all_goals first | exact fin _ _ h1 | exact h1
      | halt x w' =>
        cases x <;> simp only [Oper.upon] at h1
        obtain ⟨_, _, _, _, _, hx⟩ := h1
        cases hR _ _ _ _ hx
    · obtain ⟨_, _, _, _, _, _, _, hx⟩ := h1
      cases hR _ _ _ _ hx
  · rename_i hw
    simp only [hw]
    exact fin _ _ h1
theorem wlkT_sound (hm' : tailB .any ops m = true) (hs : Region.noSelect ops = true) : ∀ (l : Pt) (listed : Array Bool) (bar : Bool) (a : Act) (w : World) (e : Env) (H : Heap), canonT .any ops m listed bar l = true →
    Cl .any ops listed → Fr N e a → Hp Be w0 H w → (bar = false → Hp Be w0 H1 w) → wlkT P N Be ops m Q H1 l e w0 H → wpI P .any ops m (Hp Be w0 H1) (fun a' w' => lift N Be Q .normal a' w') l.len listed a w := by
  intro l
  induction l with
  | nil =>
    intro listed bar a w e H hB _ hf hh _ h
    exact ⟨by simpa [canonT] using hB, e, w0, H, hf, hh, h⟩
  | rd i r ih =>
    intro listed bar a w e H hB hcl hf hh hC h
    obtain ⟨o, d, G, v, ho, hd, hdN, hg, hx, hk⟩ := h
    simp only [canonT, Bool.and_eq_true, Bool.not_eq_true', decide_eq_true_eq, List.contains_eq_mem] at hB
    obtain ⟨⟨⟨⟨hbar, him⟩, hr⟩, hfree⟩, hB'⟩ := hB
    have hgd := hg N a o hf rfl
    refine wpI_first (v := if G then v else undef) ho him hm' (Region.noSelect_spec hs) r.len listed a w (Region.free_spec ho hfree) hcl hr ?_ (hC hbar) (ih _ bar _ w _ H hB' (hcl.set hr) ?_ hh hC hk)
    · cases hG : G with
      | true => exact .inl ⟨by rw [hgd, hG], fun w' hw' => hx N a w' o rfl rfl hf hw' hG⟩
      | false => exact .inr ⟨by rw [hgd, hG], rfl⟩
    · rw [hd]
      cases hG : G with
      | true => exact hf.puttrue hdN
      | false => exact hf.put hdN
  | ef i r ih =>
    intro listed bar a w e H hB hcl hf hh hC h
    obtain ⟨o, ho, hk⟩ := h
    simp only [canonT, Bool.and_eq_true, beq_iff_eq] at hB
    obtain ⟨hr, hB'⟩ := hB
    refine ⟨fun h0 => (by rw [hr] at h0; cases h0), fun j hj => ?_⟩
    rw [hr] at hj
    simp only [List.mem_singleton] at hj
    subst hj
    have hcl' := hcl.set (show j ∈ Region.ready .any ops listed by rw [hr]; exact List.mem_singleton.2 rfl)
    refine effect_sound ho hk (fun x e w H h => h.1) hf hh ?_
    rintro a' w' ⟨e', w0', H', hf', hh', _, rfl, hkeep, hk'⟩
    refine ⟨fun hjm => hh'.sub (hkeep hjm), ih _ _ a' w' e' H' hB' hcl' hf' hh' (fun hb => ?_) hk'⟩
    simp only [Bool.or_eq_false_iff, decide_eq_false_iff_not] at hb
    exact hh'.sub (hkeep (by omega))
  | fk i j r s ih1 ih2 =>
    intro listed bar a w e H hB hcl hf hh hC h
    obtain ⟨⟨o, ho, hk⟩, o2, ho2, hk2⟩ := h
    simp only [canonT, Bool.and_eq_true, beq_iff_eq] at hB
    obtain ⟨hr, hlen, hB1, hB2⟩ := hB
    have hlen' : r.len = s.len := Nat.eq_of_beq_eq_true hlen
    refine ⟨fun h0 => (by rw [hr] at h0; cases h0), fun q hq => ?_⟩
    have hcl' := hcl.set hq
    rw [hr] at hq
    simp only [List.mem_cons, List.not_mem_nil, or_false] at hq
    rcases hq with rfl | rfl
    · refine effect_sound ho hk (fun x e w H h => h.1) hf hh ?_
      rintro a' w' ⟨e', w0', H', hf', hh', _, rfl, hkeep, hk'⟩
      refine ⟨fun hjm => hh'.sub (hkeep hjm), ih1 _ _ a' w' e' H' hB1 hcl' hf' hh' (fun hb => ?_) hk'⟩
      simp only [Bool.or_eq_false_iff, decide_eq_false_iff_not] at hb
      exact hh'.sub (hkeep (by omega))
    · refine effect_sound ho2 hk2 (fun x e w H h => h.1) hf hh ?_
      rintro a' w' ⟨e', w0', H', hf', hh', _, rfl, hkeep, hk'⟩
      refine ⟨fun hjm => hh'.sub (hkeep hjm), ?_⟩
      show wpI P .any ops m _ _ r.len _ _ _
      rw [hlen']
      refine ih2 _ _ a' w' e' H' hB2 hcl' hf' hh' (fun hb => ?_) hk'
      simp only [Bool.or_eq_false_iff, decide_eq_false_iff_not] at hb
      exact hh'.sub (hkeep (by omega))
theorem sp_drawnT {id : Nat} {l : List Oper} (p : Pt) (m : Nat) (H1 : Heap) (hm : P.follows .mixedOrders = true) (hB : drawnT l.toArray m p = true) (hk : HKeep w0 H1 H) (h : wlkT P N Be l.toArray m Q H1 p e w0 H) :
    Spc P N Be (.region id l.toArray true) Q e w0 H := by
  intro a w hf hh
  simp only [drawnT, Bool.and_eq_true, decide_eq_true_eq] at hB
  obtain ⟨⟨⟨h1, h2⟩, h3⟩, h4⟩ := hB
  refine wp_region_any hm ?_
  have := wlkT_sound h2 h1 p _ false a _ e H h4 (Cl.start rfl) hf hh.drew (fun _ => (hh.drew).sub hk) h
  rw [h3] at this
  exact wpAny_of_wpI (fun _ _ hq => hq) _ _ _ _ this
/-- A cut between two statements: what the second one may know. -/
theorem spc_cut {c1 c2 : Code} {X : Type} (E : X → Env) (HH : X → Heap) (I : X → Prop) (h1 : Spc P N Be c1 (thenQ (fun e' w' H' => ∃ x, I x ∧ ESub (E x) e' ∧ w0 = w' ∧ HKeep w' (HH x) H') Q) e w0 H)
    (h2 : ∀ x, I x → Spc P N Be c2 Q (E x) w0 (HH x)) : Spc P N Be (.seq c1 c2) Q e w0 H := by
  refine sp_seq ?_
  intro a w hf hh
  refine wp_mono (h1 a w hf hh) ?_
  rintro x a w ⟨e', w0', H', q1, q2, q3⟩
  cases x with
  | normal =>
    obtain ⟨y, hI, hs, rfl, hk⟩ := q3
    exact ⟨e', _, H', q1, q2, (h2 y hI).weaken hs hk⟩
  | ret => exact ⟨e', w0', H', q1, q2, q3⟩
  | exit _ => exact ⟨e', w0', H', q1, q2, q3⟩
  | goto _ => exact ⟨e', w0', H', q1, q2, q3⟩
  | panic _ => exact ⟨e', w0', H', q1, q2, q3⟩
  | outgrown => exact ⟨e', w0', H', q1, q2, q3⟩
end walk
end Go.Sy
/-
  The layer 'Sy': a row that grows, nil or an own block: appended to by one rule, read as a slice.
-/
namespace Go.Sy
open Go.RowKit
set_option linter.unusedVariables false
set_option linter.unusedSimpArgs false
theorem Split.nilA {H : Heap} : Split H [] H := by unfold Split; simp
def RowS.fresh (r : RowS) (b : Nat) : Prop := ∀ g, r.g = some g → b ≤ g
theorem RowS.fresh_start {b : Nat} : RowS.start.fresh b := fun g h => by cases h
theorem RowS.ok_start {size : Nat} : RowS.start.ok size 0 [] := ⟨rfl, rfl, rfl⟩
theorem RowS.ok_some {g cap size n : Nat} {xs tail : List Value} (h1 : n ≤ cap) (h2 : (xs ++ tail).length = cap * size) (h3 : xs.length = n * size) : RowS.ok ⟨some g, cap, tail⟩ size n xs := ⟨h1, h2, h3⟩
theorem RowS.drop {r : RowS} {xs : List Value} {T : TypeId} {w : World} (h : r.fresh w.heap.size) : ∀ p ∈ r.hp xs T, w.heap.size ≤ p.1 := by
  rcases r with ⟨_ | g, cap, tail⟩
  · intro p hp; cases hp
  · intro p hp
    simp only [RowS.hp, List.mem_singleton] at hp
    subst hp
    exact h g rfl
theorem Spc.permP {P : Program} {N Be : Nat} {Q : Post} {e : Env} {w0 : World} {H H' : Heap} {c : Code} (hp : H.Perm H') (h : Spc P N Be c Q e w0 H') : Spc P N Be c Q e w0 H :=
  fun a w hf hh => h a w hf (hh.perm hp)
section
variable {P : Program} {N Be : Nat} {Q : Post} {e : Env} {w0 : World} {H : Heap} {ops : Array Oper} {rest : List Oper} {ty : TypeId} {pos : String} {after : Array Edge} {d : Nat}
theorem spl_append_row {t tx el size bytes : Nat} {z : Value} {x y : Operand} {r : RowS} {n m : Nat} {yv : Value} {xs news : List Value} {Hr : Heap} [ht : TSlice P t el] [hz : TZero P el z] [hs : TSize P el size] [hby : TBytes P el bytes]
    (hx : Ev true e x (r.val n)) (hy : Ev true e y yv) (hsp : Split H (r.hp xs el) Hr) (hok : r.ok size n xs) (hfr : r.fresh w0.heap.size) (hm : 0 < m)
    (hn : ∀ w, Hp Be w0 H w → SrcAt P size tx yv m news w) (hnl : news.length = m * size) (hb : (n + m) * bytes ≤ 140737488355328) (hpos : Nat.blt 0 bytes = true) (hp2 : Nat.blt 0 size = true) (hzs : Nat.beq z.cells.size size = true) (hN : Nat.blt d N = true)
    (k : ∀ r' : RowS, r'.ok size (n + m) (xs ++ news) → r'.fresh w0.heap.size → Spl P N Be ops Q rest ((d, true, r'.val (n + m)) :: e) w0 (r'.hp (xs ++ news) el ++ Hr)) :
    Spl P N Be ops Q (⟨some d, .call ⟨.builtin .append, #[x, y], #[t, tx]⟩, ty, pos, after, none⟩ :: rest) e w0 H := by
  refine Spl.perm hsp ?_
  have hn' : ∀ w, Hp Be w0 (r.hp xs el ++ Hr) w → SrcAt P size tx yv m news w := fun w hh => hn w (hh.perm (List.Perm.symm hsp))
  rcases r with ⟨_ | g, cap, tail⟩
  · obtain ⟨h1, h2, h3⟩ := hok
    have h2' : cap = 0 := h2
    subst h1 h2' h3
    have hz0 : (0 : Nat) * size = 0 := Nat.zero_mul _
    refine spl_append_grow (olds := []) (news := news) (m := m) hx hy (fun w' hh => CellsAt.nil) (by rw [hz0]; rfl) hn' (by omega) hb hpos hp2 hzs hN (fun g' cap' tail' h4 h5 h6 => ?_)
    exact k ⟨some g', cap', tail'⟩ (RowS.ok_some h5 h6 (by simpa using hnl)) (fun g h => by cases h; exact h4)
  · obtain ⟨h1, h2, h3⟩ := hok
    refine spl_append_own (xs := xs) (tail := tail) (news := news) (m := m) hx hy (Rem.here (o := .cells (xs ++ tail).toArray el (0, 0))) (hfr g rfl) h3 h2 h1 hn' hnl hb hpos hp2 hzs hN (fun g' cap' tail' h4 h5 h6 => ?_)
    exact k ⟨some g', cap', tail'⟩ (RowS.ok_some h5 h6 (by rw [List.length_append, h3, hnl, Nat.add_mul])) (fun g h => by cases h; exact h4)
end
/-- What stands in a row, read as a slice. -/
theorem RdS.ofRowS {α : Type} {w0 w : World} {Be sz : Nat} {C : α → Array Value} {n : Nat} {xs : List α} {r : RowS} {T : TypeId} {H Hr : Heap} (hh : Hp Be w0 H w) (hsp : Split H (r.hp (xs.flatMap fun x => (C x).toList) T) Hr) (hl : xs.length = n) (hn : n ≤ 9223372036854775807) (hs : ∀ x ∈ xs, (C x).size = sz)
    (hok : r.ok sz n (xs.flatMap fun x => (C x).toList)) : RdS w w.heap.size sz C (r.g.map fun g => ⟨g, 0, none⟩) n xs := by
  have hh' := hh.perm hsp
  rcases r with ⟨_ | g, cap, tail⟩
  · obtain ⟨h1, -, -⟩ := hok
    subst h1
    obtain rfl := List.eq_nil_of_length_eq_zero hl
    exact RdS.none_
  · exact RdS.ofRow (hh'.own _ (.head _)) (hh'.lt (.head _)) hl hn hs
end Go.Sy
/-
  Panics: drawn regions in which a call may panic, calls that may panic, code behind a deferred call.
-/
namespace Go.Sy
open Go.RowKit
set_option linter.unusedVariables false
set_option linter.unusedSimpArgs false
section core
variable {P : Program} {ops : Array Oper} {md : Region.Mode}
abbrev PX := List PanicEntry → Act → World → Prop
def exP (PQ : PX) : Exit → Act → World → Prop := fun x a w => match x with | .panic ch => PQ ch a w | _ => False
def opP (P : Program) (PQ : PX) (ops : Array Oper) (i : Nat) (K : Act → World → Prop) (a : Act) (w : World) : Prop :=
  match ops[i]? with
  | none => K a w
  | some o => if Region.wanted o (yielded ops a.tmps) then o.wp P a w K (exP PQ) else K (a.put o.dst undef) w
def wpP (P : Program) (PQ : PX) (md : Region.Mode) (ops : Array Oper) (m : Nat) (C : World → Prop) (Q : Act → World → Prop) : Nat → Array Bool → Act → World → Prop
  | 0, listed, a, w => Region.ready md ops listed = [] ∧ Q a w
  | f + 1, listed, a, w => (Region.ready md ops listed = [] → Q a w) ∧ ∀ i ∈ Region.ready md ops listed, opP P PQ ops i (fun a' w' => (i < m → C w') ∧ wpP P PQ md ops m C Q f (listed.setIfInBounds i true) a' w') a w
theorem Oper.wp_mono3 {o : Oper} {a : Act} {w : World} {K K' : Act → World → Prop} {Q Q' : Exit → Act → World → Prop} (h : ∀ a w, K a w → K' a w) (hq : ∀ x a w, Q x a w → Q' x a w) (hh : o.wp P a w K Q) : o.wp P a w K' Q' := by
  unfold Oper.wp at *
  generalize (execOp a.eval o).run P w = r at *
  cases r with
  | ok n w' =>
    cases n <;> simp only [Oper.upon] at hh ⊢
    case enter f args =>
      refine hh.mono fun e w'' he => ?_
      cases e with
      | returned v => exact h _ _ he
      | panicked c => exact hq _ _ _ he
      | outgrown => obtain ⟨a0, w0, hf⟩ := he; exact ⟨a0, w0, hq _ _ _ hf⟩
    case row => exact hh.mono fun _ _ he => h _ _ he
    all_goals first | exact h _ _ hh | exact hh
  | halt x w' =>
    cases x <;> simp only [Oper.upon] at hh ⊢
    exact hq _ _ _ hh
theorem ReadsAs.opP {PQ : PX} {C : World → Prop} {i : Nat} {o : Oper} {v : Value} {a : Act} {w : World} {K : Act → World → Prop} (hi : ops[i]? = some o) (hy : ReadsAs P ops C o v a) (hC : C w) (h : K (a.put o.dst v) w) : opP P PQ ops i K a w := by
  unfold Go.Sy.opP
  simp only [hi]
  rcases hy with ⟨hw, hv⟩ | ⟨hw, rfl⟩
  · simp only [hw, if_true, Oper.wp, hv w hC, Oper.upon_value]; exact h
  · simp only [hw, Bool.false_eq_true, if_false]; exact h
theorem opP_put {PQ : PX} {C : World → Prop} {j : Nat} {oi oj : Oper} {v : Value} (hPQ : ∀ ch a w, PQ ch (a.put oi.dst v) w → PQ ch a w) (hj : ops[j]? = some oj) (hap : oi.apart ops oj = true)
    (hsi : ∀ cs b, oi.op ≠ .select cs b) (hsj : ∀ cs b, oj.op ≠ .select cs b) {K : Act → World → Prop} {a : Act} {w : World}
    (hy : ReadsAs P ops C oi v a) (hd : ∀ (a : Act) (d : Deferred), ReadsAs P ops C oi v a → ReadsAs P ops C oi v { a with defers := d :: a.defers }) (h : opP P PQ ops j K (a.put oi.dst v) w) :
    opP P PQ ops j (fun a' w' => ReadsAs P ops C oi v a' ∧ K (a'.put oi.dst v) w') a w := by
  obtain ⟨h1, h2, h3⟩ := Oper.apart_spec hap
  have keep : ∀ (a : Act), ReadsAs P ops C oi v a → ∀ u, ReadsAs P ops C oi v (a.put oj.dst u) := fun a hy u =>
    hy.of_same (execOp_put oi hsi a oj.dst u h3) (wanted_put oi a oj.dst u h3)
  unfold opP at *
  simp only [hj] at *
  rw [wanted_put oj a oi.dst v h1] at h
  split
  · rename_i hw
    simp only [hw, if_true] at h
    unfold Oper.wp at *
    rw [execOp_put oj hsj a oi.dst v h1] at h
    generalize (execOp a.eval oj).run P w = r at *
    cases r with
    | ok n w' =>
      cases n <;> simp only [Oper.upon] at h ⊢
      case value u => exact ⟨keep a hy u, by rw [← Act.put_comm a v u h2]; exact h⟩
      case skip => exact ⟨keep a hy _, by rw [← Act.put_comm a v undef h2]; exact h⟩
      case defer d => exact ⟨keep _ (hd a d hy) _, by rw [← put_defers _ _ _ _ _ _ h2]; exact h⟩
      case enter f args =>
        refine h.mono fun e w'' he => ?_
        cases e with
        | returned u => exact ⟨keep a hy u, by rw [← Act.put_comm a v u h2]; exact he⟩
        | panicked c => exact hPQ _ _ _ he
        | outgrown => obtain ⟨_, _, hf⟩ := he; exact hf.elim
      case row => exact h.mono fun u _ he => ⟨keep a hy u, by rw [← Act.put_comm a v u h2]; exact he⟩
      all_goals exact h
    | halt x w' =>
      cases x <;> simp only [Oper.upon] at h ⊢
      exact hPQ _ _ _ h
  · rename_i hw
    simp only [hw] at h
    exact ⟨keep a hy _, by rw [← Act.put_comm a v undef h2]; exact h⟩
theorem wpP_first {PQ : PX} {C : World → Prop} {Q : Act → World → Prop} {m i : Nat} {oi : Oper} {v : Value} (hPQ : ∀ ch a w, PQ ch (a.put oi.dst v) w → PQ ch a w) (hi : ops[i]? = some oi) (him : i < m) (htail : tailB md ops m = true) (hsel : ∀ (j : Nat) (o : Oper) cs b, ops[j]? = some o → o.op ≠ .select cs b) :
    ∀ (fuel : Nat) (listed : Array Bool) (a : Act) (w : World),
      (∀ j oj, ops[j]? = some oj → j ≠ i → listed.getD j true = false → (∀ e ∈ oj.after, Region.binds md e = true → e.on ≠ i) → oi.apart ops oj = true) →
      Cl md ops listed → i ∈ Region.ready md ops listed → ReadsAs P ops C oi v a → C w →
      wpP P PQ md ops m C Q fuel (listed.setIfInBounds i true) (a.put oi.dst v) w → wpP P PQ md ops m C Q (fuel + 1) listed a w := by
  intro fuel
  induction fuel with
  | zero =>
    intro listed a w _ _ hr hy hC H
    refine ⟨fun h => (by rw [h] at hr; cases hr), fun j hj => ?_⟩
    by_cases hji : j = i
    · subst hji; exact hy.opP hi hC ⟨fun _ => hC, H⟩
    · have := ready_mono hj hji
      rw [H.1] at this
      cases this
  | succ fuel ih =>
    intro listed a w hfree hcl hr hy hC H
    refine ⟨fun h => (by rw [h] at hr; cases hr), fun j hj => ?_⟩
    by_cases hji : j = i
    · subst hji; exact hy.opP hi hC ⟨fun _ => hC, H⟩
    · have h1 := H.2 j (ready_mono hj hji)
      obtain ⟨hjun, oj, hoj, hall⟩ := mem_ready.1 hj
      have hnot : ∀ e ∈ oj.after, Region.binds md e = true → e.on ≠ i := fun e he hb heq => by
        have h1 := hall e he hb
        have h0 := (mem_ready.1 hr).1
        rw [heq] at h1
        rcases Nat.lt_or_ge i listed.size with h' | h'
        · simp [h'] at h0 h1; rw [h0] at h1; cases h1
        · simp [Array.getElem?_eq_none h'] at h1
      have hjm : j < m := by
        rcases Nat.lt_or_ge j m with h' | h'
        · exact h'
        · exact (tailB_spec htail hoj (by omega) him hcl hj (mem_ready.1 hr).1 hji).elim
      have h2 := opP_put hPQ hoj (hfree j oj hoj hji hjun hnot) (fun cs b => hsel i oi cs b hi) (fun cs b => hsel j oj cs b hoj) hy (fun a d => reads_defers a d) h1
      have hfree' : ∀ k ok, ops[k]? = some ok → k ≠ i → (listed.setIfInBounds j true).getD k true = false →
          (∀ e ∈ ok.after, Region.binds md e = true → e.on ≠ i) → oi.apart ops ok = true := fun k ok hk hki hun hno => by
        refine hfree k ok hk hki ?_ hno
        by_cases hjk : j = k
        · subst hjk; exact hjun
        · rw [getD_set_ne true hjk] at hun; exact hun
      have hmono : ∀ {K K' : Act → World → Prop} {a : Act} {w : World}, (∀ a w, K a w → K' a w) → opP P PQ ops j K a w → opP P PQ ops j K' a w := by
        intro K K' a w hk ho
        unfold opP at *
        simp only [hoj] at *
        split
        · rename_i hw; simp only [hw, if_true] at ho; exact Oper.wp_mono3 hk (fun _ _ _ h => h) ho
        · rename_i hw; simp only [hw] at ho; exact hk _ _ ho
      refine hmono (fun a' w' h3 => ⟨fun _ => h3.2.1 hjm, ih (listed.setIfInBounds j true) a' w' hfree' (hcl.set hj) (ready_mono hr (Ne.symm hji)) h3.1 (h3.2.1 hjm) ?_⟩) h2
      rw [Array.setIfInBounds_comm _ _ hji]
      exact h3.2.2
theorem wpAny_of_wpP {PQ : PX} {C : World → Prop} {Q : Act → World → Prop} {m : Nat} {Q' : Exit → Act → World → Prop} (hQ : ∀ a w, Q a w → Q' .normal a w) (hP : ∀ ch a w, PQ ch a w → Q' (.panic ch) a w) : ∀ (fuel : Nat) (listed : Array Bool) (a : Act) (w : World),
    wpP P PQ md ops m C Q fuel listed a w → wpAny P md ops Q' fuel listed a w
  | 0, _, _, _, h => ⟨h.1, hQ _ _ h.2⟩
  | fuel + 1, listed, a, w, h => ⟨fun h0 => hQ _ _ (h.1 h0), fun i hi => by
      have h1 := h.2 i hi
      unfold opP at h1
      unfold wpOp
      split
      · rename_i ho; simp only [ho] at h1; exact wpAny_of_wpP hQ hP fuel _ _ _ h1.2
      · rename_i o ho
        simp only [ho] at h1
        split
        · rename_i hw; simp only [hw, if_true] at h1; exact .inl (Oper.wp_mono3 (fun a' w' h2 => wpAny_of_wpP hQ hP fuel _ _ _ h2.2) (fun x a w hx => by cases x <;> first | exact hP _ _ _ hx | exact hx.elim) h1)
        · rename_i hw; simp only [hw] at h1; exact wpAny_of_wpP hQ hP fuel _ _ _ h1.2⟩
end core
def wdp (a : Act) (D : List Deferred) : Act := { a with defers := a.defers ++ D }
theorem wdp_put (a : Act) (D : List Deferred) (d : Option Tmp) (v : Value) : (wdp a D).put d v = wdp (a.put d v) D := by cases d <;> rfl
theorem wdp_nil (a : Act) : wdp a [] = a := by cases a; simp [wdp]
theorem wdp_back (a : Act) : wdp { a with defers := [] } a.defers = a := by cases a; simp [wdp]
def noDef (l : List Oper) : Bool := l.all fun o => match o.op with | .defer _ => false | _ => true
section behind
variable {P : Program} {D : List Deferred}
theorem oper_d {o : Oper} {K K' : Act → World → Prop} {Q Q' : Exit → Act → World → Prop} (hK : ∀ a w, K a w → K' (wdp a D) w) (hQ : ∀ x a w, Q x a w → Q' x (wdp a D) w) {a : Act} {w : World} (h : o.wp P a w K Q) : o.wp P (wdp a D) w K' Q' := by
  have he : (wdp a D).eval = a.eval := rfl
  unfold Oper.wp at h ⊢
  rw [he]
  generalize (execOp a.eval o).run P w = res at h ⊢
  cases res with
  | ok x w' =>
    cases x <;> simp only [Oper.upon] at h <;> simp only [Oper.upon]
    case value v => rw [wdp_put]; exact hK _ _ h
    case skip => rw [wdp_put]; exact hK _ _ h
    case defer d =>
      have : ({ wdp a D with defers := d :: (wdp a D).defers } : Act) = wdp { a with defers := d :: a.defers } D := rfl
      rw [this, wdp_put]; exact hK _ _ h
    case enter f args =>
      refine h.mono fun en w'' he => ?_
      cases en with
      | returned v =>
        have h3 := hK _ _ he
        rw [← wdp_put] at h3
        exact h3
      | panicked c => exact hQ _ _ _ he
      | outgrown => obtain ⟨a0, w0, h0⟩ := he; exact ⟨_, _, hQ _ _ _ h0⟩
    case row row args => exact h.mono fun v w'' he => by rw [wdp_put]; exact hK _ _ he
    all_goals exact h
  | halt x w' =>
    cases x <;> simp only [Oper.upon] at h <;> simp only [Oper.upon]
    exact hQ _ _ _ h
theorem list_d {ops : Array Oper} {Q Q' : Exit → Act → World → Prop} (hQ : ∀ x a w, Q x a w → Q' x (wdp a D) w) : ∀ (l : List Oper) (a : Act) (w : World), wpList P ops Q l a w → (∀ a w, ¬ Q .outgrown a w) → wpList P ops Q' l (wdp a D) w
  | [], a, w, h, _ => hQ _ _ _ h
  | o :: l, a, w, h, hno => by
    simp only [wpList] at h
    simp only [wpList]
    have hy : yielded ops (wdp a D).tmps = yielded ops a.tmps := rfl
    rw [hy]
    split
    · rename_i hw
      rw [if_pos hw] at h
      rcases h with h | ⟨_, a0, w0, h⟩
      · exact .inl (oper_d (fun a w h => list_d hQ l a w h hno) hQ h)
      · exact (hno _ _ h).elim
    · rename_i hw
      rw [if_neg hw] at h
      rw [wdp_put]
      exact list_d hQ l _ _ h hno
theorem any_d {ops : Array Oper} {PQ : PX} {C : World → Prop} {Q : Act → World → Prop} {m : Nat} {Q' : Exit → Act → World → Prop} (hQ : ∀ a w, Q a w → Q' .normal (wdp a D) w) (hP : ∀ ch a w, PQ ch a w → Q' (.panic ch) (wdp a D) w) : ∀ (fuel : Nat) (listed : Array Bool) (a : Act) (w : World),
    wpP P PQ .any ops m C Q fuel listed a w → wpAny P .any ops Q' fuel listed (wdp a D) w
  | 0, _, _, _, h => ⟨h.1, hQ _ _ h.2⟩
  | fuel + 1, listed, a, w, h => ⟨fun h0 => hQ _ _ (h.1 h0), fun i hi => by
      have h1 := h.2 i hi
      unfold opP at h1
      unfold wpOp
      have hy : yielded ops (wdp a D).tmps = yielded ops a.tmps := rfl
      split
      · rename_i ho; simp only [ho] at h1; exact any_d hQ hP fuel _ _ _ h1.2
      · rename_i o ho
        simp only [ho] at h1
        rw [hy]
        split
        · rename_i hw; simp only [hw, if_true] at h1; exact .inl (oper_d (fun a' w' h2 => any_d hQ hP fuel _ _ _ h2.2) (fun x a w hx => by cases x <;> first | exact hP _ _ _ hx | exact hx.elim) h1)
        · rename_i hw; simp only [hw] at h1; rw [wdp_put]; exact any_d hQ hP fuel _ _ _ h1.2⟩
end behind
section walk
variable {P : Program} {N Be : Nat} {Q : Post} {e E0 : Env} {w0 : World} {H H1 : Heap} {ops : Array Oper} {ty : TypeId} {pos : String} {after : Array Edge} {d i m : Nat}
/-- What is asked behind an operation that comes up alone, and may panic; of the slots at a panic only E0 are known. -/
def effP (E0 : Env) (K : Env → World → Heap → Prop) (m : Nat) (Q : Post) (H1 : Heap) (i : Nat) (w0 : World) : Post := fun x e' w0' H' => match x with
  | .panic ch => ESub E0 e' ∧ Q (.panic ch) E0 w0' H'
  | .normal => w0' = w0 ∧ (i < m → HKeep w0 H1 H') ∧ K e' w0' H'
  | _ => False
def wlkP (P : Program) (N Be : Nat) (ops : Array Oper) (m : Nat) (E0 : Env) (Q : Post) (H1 : Heap) : Pt → Env → World → Heap → Prop
  | .nil, e, w0, H => Q .normal e w0 H
  | .rd i r, e, w0, H => ∃ (o : Oper) (d : Nat) (G : Bool) (v : Value), ops[i]? = some o ∧ o.dst = some d ∧ d < N ∧ Gd ops e o.guard G ∧ Ex P Be w0 H1 G e o.op o.type v ∧ wlkP P N Be ops m E0 Q H1 r ((d, G, v) :: e) w0 H
  | .ef i r, e, w0, H => ∃ o : Oper, ops[i]? = some o ∧ Spl P N Be ops (effP E0 (wlkP P N Be ops m E0 Q H1 r) m Q H1 i w0) [o] e w0 H
  | .fk i j r s, e, w0, H => (∃ o : Oper, ops[i]? = some o ∧ Spl P N Be ops (effP E0 (wlkP P N Be ops m E0 Q H1 r) m Q H1 i w0) [o] e w0 H) ∧
      ∃ o : Oper, ops[j]? = some o ∧ Spl P N Be ops (effP E0 (wlkP P N Be ops m E0 Q H1 s) m Q H1 j w0) [o] e w0 H
theorem wlp_nil (h : Q .normal e w0 H) : wlkP P N Be ops m E0 Q H1 .nil e w0 H := h
theorem wlp_read {r : Pt} {op : Op} {v : Value} (ho : ops[i]? = some ⟨some d, op, ty, pos, after, none⟩) (hN : Nat.blt d N = true) (hx : Ex P Be w0 H1 true e op ty v) (k : wlkP P N Be ops m E0 Q H1 r ((d, true, v) :: e) w0 H) :
    wlkP P N Be ops m E0 Q H1 (.rd i r) e w0 H := ⟨_, d, true, v, ho, rfl, by simpa [Nat.blt_eq] using hN, Gd.none, hx, k⟩
theorem wlp_read_g {r : Pt} {op : Op} {v : Value} {g : Option (Nat × Bool)} {G : Bool} (ho : ops[i]? = some ⟨some d, op, ty, pos, after, g⟩) (hN : Nat.blt d N = true) (hg : Gd ops e g G) (hx : Ex P Be w0 H1 G e op ty v) (k : wlkP P N Be ops m E0 Q H1 r ((d, G, v) :: e) w0 H) :
    wlkP P N Be ops m E0 Q H1 (.rd i r) e w0 H := ⟨_, d, G, v, ho, rfl, by simpa [Nat.blt_eq] using hN, hg, hx, k⟩
theorem wlp_eff {r : Pt} {dst : Option Tmp} {op : Op} {g : Option (Nat × Bool)} (ho : ops[i]? = some ⟨dst, op, ty, pos, after, g⟩) (h : Spl P N Be ops (effP E0 (wlkP P N Be ops m E0 Q H1 r) m Q H1 i w0) [⟨dst, op, ty, pos, after, g⟩] e w0 H) : wlkP P N Be ops m E0 Q H1 (.ef i r) e w0 H := ⟨_, ho, h⟩
theorem wlp_fork {j : Nat} {r s : Pt} {dst dst' : Option Tmp} {op op' : Op} {g g' : Option (Nat × Bool)} {ty' : TypeId} {pos' : String} {after' : Array Edge} (ho : ops[i]? = some ⟨dst, op, ty, pos, after, g⟩) (ho' : ops[j]? = some ⟨dst', op', ty', pos', after', g'⟩)
    (h : Spl P N Be ops (effP E0 (wlkP P N Be ops m E0 Q H1 r) m Q H1 i w0) [⟨dst, op, ty, pos, after, g⟩] e w0 H) (h' : Spl P N Be ops (effP E0 (wlkP P N Be ops m E0 Q H1 s) m Q H1 j w0) [⟨dst', op', ty', pos', after', g'⟩] e w0 H) : wlkP P N Be ops m E0 Q H1 (.fk i j r s) e w0 H := ⟨⟨_, ho, h⟩, _, ho', h'⟩
theorem effp {K : Env → World → Heap → Prop} (h : i < m → HKeep w0 H1 H) (k : K e w0 H) : effP E0 K m Q H1 i w0 .normal e w0 H := ⟨rfl, h, k⟩
theorem effp_p {K : Env → World → Heap → Prop} {w1 : World} {ch : List PanicEntry} (hs : ESub E0 e) (h : Q (.panic ch) E0 w0 H) : effP E0 K m Q H1 i w1 (.panic ch) e w0 H := ⟨hs, h⟩
def PQ0 (N Be : Nat) (E0 : Env) (Q : Post) : PX := fun ch a w => ∃ w0 H, Fr N E0 a ∧ Hp Be w0 H w ∧ Q (.panic ch) E0 w0 H
/-- None of the operations writes a slot of E0. -/
def offO (E0 : Env) : Option Nat → Bool
  | none => true
  | some d => E0.all fun p => !Nat.beq p.1 d
def offB (E0 : Env) (l : List Oper) : Bool := l.all fun o => offO E0 o.dst
theorem look_ne {E : Env} {d k : Nat} {g : Bool} {v : Value} (h : look E k = some (g, v)) (ho : (E.all fun p => !Nat.beq p.1 d) = true) : d ≠ k := by
  induction E with
  | nil => cases h
  | cons p E ih =>
    simp only [List.all_cons, Bool.and_eq_true] at ho
    simp only [look] at h
    cases hb : Nat.beq p.1 k with
    | true =>
      have h1 := Nat.eq_of_beq_eq_true hb
      intro he
      have h2 := ho.1
      rw [he, ← h1] at h2
      simp at h2
    | false => rw [hb] at h; exact ih h ho.2
theorem Fr.unput {a : Act} {d : Option Nat} {v : Value} (h : Fr N E0 (a.put d v)) (ho : offO E0 d = true) : Fr N E0 a := by
  cases d with
  | none => exact h
  | some d =>
    refine ⟨h.defers, by have := h.size; simpa [Act.put] using this, fun k g u hl => ?_⟩
    have := h.get k g u hl
    rw [← this]
    have hne := look_ne hl ho
    simp only [Act.put, Array.getD_eq_getD_getElem?, Array.getElem?_setIfInBounds]
    rw [if_neg hne]
theorem PQ0.unput {l : List Oper} (ho : offB E0 l = true) {i : Nat} {o : Oper} (hi : l.toArray[i]? = some o) {v : Value} (ch : List PanicEntry) (a : Act) (w : World) (h : PQ0 N Be E0 Q ch (a.put o.dst v) w) : PQ0 N Be E0 Q ch a w := by
  obtain ⟨w0, H, h1, h2, h3⟩ := h
  refine ⟨w0, H, h1.unput ?_, h2, h3⟩
  have := List.all_eq_true.1 ho o (by simpa using Array.mem_of_getElem? hi)
  exact this
theorem effect_soundP {K : Env → World → Heap → Prop} {a : Act} {w : World} {o : Oper} {j : Nat} {K' : Act → World → Prop} (ho : ops[j]? = some o) (hk : Spl P N Be ops (effP E0 K m Q H1 j w0) [o] e w0 H) (hf : Fr N e a) (hh : Hp Be w0 H w) (fin : ∀ a' w', lift N Be (effP E0 K m Q H1 j w0) .normal a' w' → K' a' w') : opP P (PQ0 N Be E0 Q) ops j K' a w := by
  have h1 := hk a w hf hh
  have hx : ∀ x a w, lift N Be (effP E0 K m Q H1 j w0) x a w → x ≠ .normal → exP (PQ0 N Be E0 Q) x a w := by
    rintro x a w ⟨e', w0', H', q1, q2, q3⟩ hne
    cases x <;> first | exact absurd rfl hne | exact q3.elim | exact ⟨w0', H', q1.sub q3.1, q2, q3.2⟩
  unfold opP
  simp only [ho]
  simp only [wpList] at h1
  split at h1
  · rename_i hw
    simp only [hw, if_true]
    rcases h1 with h1 | ⟨_, h1⟩
    · unfold Oper.wp at *
      generalize (execOp a.eval o).run P w = res at *
      cases res with
      | ok n w' =>
        cases n <;> simp only [Oper.upon] at h1 ⊢
        case enter f args =>
          refine h1.mono fun en w'' he => ?_
          cases en with
          | returned u => exact fin _ _ he
          | panicked c => exact hx _ _ _ he (by simp)
          | outgrown => obtain ⟨a1, w1, h2⟩ := he; exact ⟨a1, w1, hx _ _ _ h2 (by simp)⟩
        case row => exact h1.mono fun _ _ he => fin _ _ he
        all_goals first | exact fin _ _ h1 | exact h1
      | halt x w' =>
        cases x <;> simp only [Oper.upon] at h1 ⊢
        exact hx _ _ _ h1 (by simp)
    · obtain ⟨_, _, _, _, _, _, _, h3⟩ := h1
      exact h3.elim
  · rename_i hw
    simp only [hw]
    exact fin _ _ h1
theorem wlkP_sound {l0 : List Oper} (hops : ops = l0.toArray) (ho0 : offB E0 l0 = true) (hm' : tailB .any ops m = true) (hs : Region.noSelect ops = true) : ∀ (l : Pt) (listed : Array Bool) (bar : Bool) (a : Act) (w : World) (e : Env) (H : Heap), canonT .any ops m listed bar l = true →
    Cl .any ops listed → Fr N e a → Hp Be w0 H w → (bar = false → Hp Be w0 H1 w) → wlkP P N Be ops m E0 Q H1 l e w0 H → wpP P (PQ0 N Be E0 Q) .any ops m (Hp Be w0 H1) (fun a' w' => lift N Be Q .normal a' w') l.len listed a w := by
  subst hops
  intro l
  induction l with
  | nil =>
    intro listed bar a w e H hB _ hf hh _ h
    exact ⟨by simpa [canonT] using hB, e, w0, H, hf, hh, h⟩
  | rd i r ih =>
    intro listed bar a w e H hB hcl hf hh hC h
    obtain ⟨o, d, G, v, ho, hd, hdN, hg, hx, hk⟩ := h
    simp only [canonT, Bool.and_eq_true, Bool.not_eq_true', decide_eq_true_eq, List.contains_eq_mem] at hB
    obtain ⟨⟨⟨⟨hbar, him⟩, hr⟩, hfree⟩, hB'⟩ := hB
    have hgd := hg N a o hf rfl
    refine wpP_first (v := if G then v else undef) (fun ch a w => PQ0.unput ho0 ho ch a w) ho him hm' (Region.noSelect_spec hs) r.len listed a w (Region.free_spec ho hfree) hcl hr ?_ (hC hbar) (ih _ bar _ w _ H hB' (hcl.set hr) ?_ hh hC hk)
    · cases hG : G with
      | true => exact .inl ⟨by rw [hgd, hG], fun w' hw' => hx N a w' o rfl rfl hf hw' hG⟩
      | false => exact .inr ⟨by rw [hgd, hG], rfl⟩
    · rw [hd]
      cases hG : G with
      | true => exact hf.puttrue hdN
      | false => exact hf.put hdN
  | ef i r ih =>
    intro listed bar a w e H hB hcl hf hh hC h
    obtain ⟨o, ho, hk⟩ := h
    simp only [canonT, Bool.and_eq_true, beq_iff_eq] at hB
    obtain ⟨hr, hB'⟩ := hB
    refine ⟨fun h0 => (by rw [hr] at h0; cases h0), fun j hj => ?_⟩
    rw [hr] at hj
    simp only [List.mem_singleton] at hj
    subst hj
    have hcl' := hcl.set (show j ∈ Region.ready .any l0.toArray listed by rw [hr]; exact List.mem_singleton.2 rfl)
    refine effect_soundP ho hk hf hh ?_
    rintro a' w' ⟨e', w0', H', hf', hh', rfl, hkeep, hk'⟩
    refine ⟨fun hjm => hh'.sub (hkeep hjm), ih _ _ a' w' e' H' hB' hcl' hf' hh' (fun hb => ?_) hk'⟩
    simp only [Bool.or_eq_false_iff, decide_eq_false_iff_not] at hb
    exact hh'.sub (hkeep (by omega))
  | fk i j r s ih1 ih2 =>
    intro listed bar a w e H hB hcl hf hh hC h
    obtain ⟨⟨o, ho, hk⟩, o2, ho2, hk2⟩ := h
    simp only [canonT, Bool.and_eq_true, beq_iff_eq] at hB
    obtain ⟨hr, hlen, hB1, hB2⟩ := hB
    have hlen' : r.len = s.len := Nat.eq_of_beq_eq_true hlen
    refine ⟨fun h0 => (by rw [hr] at h0; cases h0), fun q hq => ?_⟩
    have hcl' := hcl.set hq
    rw [hr] at hq
    simp only [List.mem_cons, List.not_mem_nil, or_false] at hq
    rcases hq with rfl | rfl
    · refine effect_soundP ho hk hf hh ?_
      rintro a' w' ⟨e', w0', H', hf', hh', rfl, hkeep, hk'⟩
      refine ⟨fun hjm => hh'.sub (hkeep hjm), ih1 _ _ a' w' e' H' hB1 hcl' hf' hh' (fun hb => ?_) hk'⟩
      simp only [Bool.or_eq_false_iff, decide_eq_false_iff_not] at hb
      exact hh'.sub (hkeep (by omega))
    · refine effect_soundP ho2 hk2 hf hh ?_
      rintro a' w' ⟨e', w0', H', hf', hh', rfl, hkeep, hk'⟩
      refine ⟨fun hjm => hh'.sub (hkeep hjm), ?_⟩
      show wpP P _ .any _ m _ _ r.len _ _ _
      rw [hlen']
      refine ih2 _ _ a' w' e' H' hB2 hcl' hf' hh' (fun hb => ?_) hk'
      simp only [Bool.or_eq_false_iff, decide_eq_false_iff_not] at hb
      exact hh'.sub (hkeep (by omega))
theorem sp_drawnP {id : Nat} {l : List Oper} (p : Pt) (m : Nat) (E0 : Env) (H1 : Heap) (hm : P.follows .mixedOrders = true) (hB : drawnT l.toArray m p = true) (hE : offB E0 l = true) (hk : HKeep w0 H1 H) (h : wlkP P N Be l.toArray m E0 Q H1 p e w0 H) :
    Spc P N Be (.region id l.toArray true) Q e w0 H := by
  intro a w hf hh
  simp only [drawnT, Bool.and_eq_true, decide_eq_true_eq] at hB
  obtain ⟨⟨⟨h1, h2⟩, h3⟩, h4⟩ := hB
  refine wp_region_any hm ?_
  have := wlkP_sound rfl hE h2 h1 p _ false a _ e H h4 (Cl.start rfl) hf hh.drew (fun _ => (hh.drew).sub hk) h
  rw [h3] at this
  exact wpAny_of_wpP (fun _ _ hq => hq) (fun ch a w ⟨w0, H, q1, q2, q3⟩ => ⟨E0, w0, H, q1, q2, q3⟩) _ _ _ _ this

/-! ### Functions that may panic -/
theorem then_p {K : Env → World → Heap → Prop} {ch : List PanicEntry} (h : Q (.panic ch) e w0 H) : thenQ K Q (.panic ch) e w0 H := h
theorem block_p {id : Nat} {ch : List PanicEntry} (h : Q (.panic ch) e w0 H) : blockQ id Q (.panic ch) e w0 H := h
def retFQ (P : Program) (fn : Func) (Be : Nat) (R : Ending → World → Prop) : Post := fun x e w0 H =>
  match x with
  | .ret | .normal => ∃ v, Res fn.results P Be e w0 H v ∧ ∀ w', Hp Be w0 H w' → R (.returned v) w'
  | .panic ch => ∀ w', Hp Be w0 H w' → R (.panicked ch) w'
  | _ => False
theorem sp_enterF {f : FuncId} {fn : Func} {c : Code} {vs : List Value} {w : World} {R : Ending → World → Prop} (hf : P.funcs[f]? = some fn) (hb : fn.body = some c) (hN : fn.ntmps = N) (hl : Nat.ble vs.length N = true) (hh : Hp Be w0 H w)
    (h : Spc P N Be c (retFQ P fn Be R) (envOf 0 vs) w0 H) : Calls P f vs.toArray w R := by
  refine calls_of_wp hf hb (wp_mono (h _ w ?_ hh) ?_)
  · have hl' : vs.length ≤ N := Nat.le_of_ble_eq_true hl
    refine ⟨rfl, by simp [hN]; omega, fun k g v hk => ?_⟩
    obtain ⟨rfl, _, h3⟩ := look_envOf vs 0 k g v hk
    simp only [Nat.sub_zero] at h3
    have hk : k < vs.length := (List.getElem?_eq_some_iff.1 h3).1
    simp [Array.getElem?_append, hk, gv]
    have := (List.getElem?_eq_some_iff.1 h3).2
    simpa using this
  · rintro x a w' ⟨e, w0, H, h1, h2, h3⟩
    cases x with
    | normal => obtain ⟨v, hv, hR⟩ := h3; exact ⟨h1.defers, v, hv _ _ _ fn rfl h1 h2, hR w' h2⟩
    | ret => obtain ⟨v, hv, hR⟩ := h3; exact ⟨h1.defers, v, hv _ _ _ fn rfl h1 h2, hR w' h2⟩
    | exit _ => exact h3.elim
    | goto _ => exact h3.elim
    | panic _ => exact ⟨h1.defers, h3 w' h2⟩
    | outgrown => exact h3.elim
/-- It returns, or panics with something of F; then only R is known. -/
def RetF {X : Type} (Be : Nat) (w0 : World) (V : X → Value) (HH : X → Heap) (I : X → Prop) (F : List PanicEntry → Prop) (R : Heap) : Ending → World → Prop := fun en w' =>
  (∃ x, en = .returned (V x) ∧ I x ∧ Hp Be w0 (HH x) w') ∨ ∃ ch, en = .panicked ch ∧ F ch ∧ Hp Be w0 R w'
section
variable {fn : Func} {rs : Array ResultVar} {H' R : Heap} {v : Value} {X : Type} {V : X → Value} {HH : X → Heap} {I : X → Prop} {F : List PanicEntry → Prop}
theorem retF_ok (hr : fn.results = rs) (h : Res rs P Be e w0 H' v) (hv : ∃ x, v = V x ∧ I x ∧ HKeep w0 (HH x) H') : retFQ P fn Be (RetF Be w0 V HH I F R) .ret e w0 H' := by
  subst hr
  obtain ⟨x, rfl, hI, hk⟩ := hv
  exact ⟨_, h, fun w' hh => .inl ⟨x, rfl, hI, hh.sub hk⟩⟩
theorem endF_ok (hr : fn.results = rs) (h : Res rs P Be e w0 H' v) (hv : ∃ x, v = V x ∧ I x ∧ HKeep w0 (HH x) H') : retFQ P fn Be (RetF Be w0 V HH I F R) .normal e w0 H' := by
  subst hr
  obtain ⟨x, rfl, hI, hk⟩ := hv
  exact ⟨_, h, fun w' hh => .inl ⟨x, rfl, hI, hh.sub hk⟩⟩
theorem retF_pan {ch : List PanicEntry} (hF : F ch) (hk : HKeep w0 R H') : retFQ P fn Be (RetF Be w0 V HH I F R) (.panic ch) e w0 H' := fun w' hh => .inr ⟨ch, rfl, hF, hh.sub hk⟩
end
section
variable {rest : List Oper}
theorem spl_callF {f : FuncId} {xs : List Operand} {ts : Array TypeId} {vs : List Value} [TFn P f] {X : Type} {V : X → Value} {AA : X → Heap} {I : X → Prop} {F : List PanicEntry → Prop} {A R : Heap} (hN : Nat.blt d N = true) (hx : Evs true e xs vs) (hs : Split H A R)
    (hc : ∀ w, Hp Be w0 (A ++ R) w → Calls P f vs.toArray w (RetF Be w0 V (fun x => AA x ++ R) I F R))
    (kp : ∀ ch, F ch → Q (.panic ch) e w0 R) (k : ∀ x, I x → Spl P N Be ops Q rest ((d, true, V x) :: e) w0 (AA x ++ R)) : Spl P N Be ops Q (⟨some d, .call ⟨.value (.func f), xs.toArray, ts⟩, ty, pos, after, none⟩ :: rest) e w0 H := by
  intro a w hf hh
  have hd : d < N := by simpa [Nat.blt_eq] using hN
  refine wpList_plain rfl fun K hK => ?_
  unfold Oper.wp
  rw [exec_call (f := f) (first := #[]) (cap := #[]) rfl rfl (hx N a hf rfl), Oper.upon_enter]
  simp only [List.nil_append, List.append_toArray, List.append_nil]
  refine (hc w (hh.perm hs)).mono ?_
  rintro en w' (⟨x, rfl, hI, hw⟩ | ⟨ch, rfl, hF, hw⟩)
  · exact hK _ _ (k x hI _ _ (hf.puttrue hd) hw)
  · exact ⟨e, w0, R, hf, hw, kp ch hF⟩
/-- The text's own panic. -/
theorem spl_panic {x : Operand} {T : TypeId} {u : Value} (hx : Ev true e x (.iface T u)) (k : Q (.panic [{ v := .iface T u, recovered := false }]) e w0 H) : Spl P N Be ops Q (⟨none, .panic x, ty, pos, after, none⟩ :: rest) e w0 H := by
  intro a w hf hh
  refine wpList_plain rfl fun K hK => ?_
  have hr : (execOp a.eval ⟨none, .panic x, ty, pos, after, none⟩).run P w = .halt (.panic (.iface T u)) w := by
    simp only [execOp, hx N a hf rfl]
    rfl
  unfold Oper.wp
  rw [hr, Oper.upon_panic]
  exact ⟨e, w0, H, hf, hh, k⟩
end
end walk
def Holds (R : Heap) (w : World) : Prop := ∀ p ∈ R, w.heap[p.1]? = some p.2
class InSub (H R : Heap) : Prop where
  sub : ∀ p ∈ R, p ∈ H
instance InSub.rfl' {R : Heap} : InSub R R := ⟨fun _ h => h⟩
instance (priority := low) InSub.cons {H R : Heap} {q : Nat × Obj} [h : InSub H R] : InSub (q :: H) R := ⟨fun p hp => .tail _ (h.sub p hp)⟩
instance (priority := low) InSub.app {B H R : Heap} [h : InSub H R] : InSub (B ++ H) R := ⟨fun p hp => List.mem_append.2 (.inr (h.sub p hp))⟩
instance (priority := low) InSub.appL {B H R : Heap} [h : InSub B R] : InSub (B ++ H) R := ⟨fun p hp => List.mem_append.2 (.inl (h.sub p hp))⟩
theorem Hp.holds {Be : Nat} {w0 w : World} {H R : Heap} (hh : Hp Be w0 H w) [h : InSub H R] : Holds R w := fun p hp => hh.own p (h.sub p hp)
theorem Holds.sub {H R : Heap} {w : World} (h : Holds H w) (hs : ∀ p ∈ R, p ∈ H) : Holds R w := fun p hp => h p (hs p hp)
theorem Holds.below {R : Heap} {w w' : World} (h : Holds R w) (hb : Below w.heap.size w w') : Holds R w' := fun p hp => by
  have h1 := h p hp
  rw [hb.block p.1 (Array.getElem?_eq_some_iff.1 h1).1]; exact h1
end Go.Sy
/-
  Contracts of the parser: fail, next, skip, want, name.
-/
namespace Go.Proofs.Ytfdjlphfohnnnaa
open Go.RowKit Go.Sy
set_option linter.unusedVariables false
set_option linter.unusedSimpArgs false
/-- The tokens that are left, in memory. -/
structure TokIn (R : Heap) (s : Sl) (ts : List Tk) : Prop where
  rd : ∀ w, Holds R w → RdS w w.heap.size 3 tkC s.a s.n ts
  len : ts.length = s.n
  cap : s.n ≤ s.c
def Sl.tail (s : Sl) : Sl := ⟨if s.c = 1 then s.a else s.a.map (·.add (1 * 3)), s.n - 1, s.c - 1⟩
theorem TokIn.tail {R : Heap} {s : Sl} {t : Tk} {ts : List Tk} (h : TokIn R s (t :: ts)) : TokIn R (Sl.tail s) ts := by
  have hl := h.len
  have hc := h.cap
  simp only [List.length_cons] at hl
  refine ⟨fun w hw => ?_, ?_, ?_⟩
  · have hr := h.rd w hw
    by_cases h1 : s.c = 1
    · have : ts = [] := List.eq_nil_of_length_eq_zero (by omega)
      subst this
      show RdS w w.heap.size 3 tkC _ (s.n - 1) []
      rw [show s.n - 1 = 0 by omega]
      exact RdS.none_
    · refine ⟨by show ts.length = s.n - 1; omega, by have := hr.bound; show s.n - 1 ≤ _; omega, fun i x hx => ?_⟩
      obtain ⟨ad, ha, hb, hsz, hcell⟩ := hr.elems (i + 1) x (by simpa using hx)
      refine ⟨ad.add (1 * 3), ?_, by rw [block_add]; exact hb, hsz, fun j v hj => ?_⟩
      · show (if s.c = 1 then s.a else s.a.map (·.add (1 * 3))) = _
        rw [if_neg h1, ha]; rfl
      · rw [show (ad.add (1 * 3)).add (i * 3) = ad.add ((i + 1) * 3) by rw [add_add']; congr 1; omega]
        exact hcell j v hj
  · show ts.length = s.n - 1; omega
  · show s.n - 1 ≤ s.c - 1; omega
theorem TokIn.app {R R' : Heap} {s : Sl} {ts : List Tk} (h : TokIn R s ts) (hs : ∀ p ∈ R, p ∈ R') : TokIn R' s ts := ⟨fun w hw => h.rd w (hw.sub hs), h.len, h.cap⟩
/-- The parser's block. -/
def PB (gp : Nat) (s : Sl) (en : Int) (k : Sl) : Nat × Obj := (gp, .cells #[.slice s.a s.n s.c, .int .i64 en, .slice k.a k.n k.c] 71 (0, 0))
def panE (e : PE) : List PanicEntry := [{ v := .iface 68 (.agg #[.int .i64 e.1, .int .i64 e.2]), recovered := false }]
theorem ex_off {P : Program} {Be : Nat} {w0 : World} {H : Heap} {G : Bool} {e : Env} {op : Op} {ty : TypeId} (hG : G = false) : Ex P Be w0 H G e op ty (.bool false) := by
  intro N a w o _ _ _ _ h
  rw [hG] at h; cases h
theorem ex_mkiface {P : Program} {Be : Nat} {w0 : World} {H : Heap} {G : Bool} {e : Env} {ty : TypeId} {t : TypeId} {x : Operand} {v : Value} [ht : TAgg P t] (h : Ev G e x v) : Ex P Be w0 H G e (.makeInterface t x) ty (.iface t v) := by
  intro N a w o ho _ hf hh hG
  have h1 := ht.agg
  obtain ⟨d, hd⟩ : ∃ d, P.underlying t = some d := by
    cases h2 : P.underlying t with
    | none => rw [h2] at h1; cases h1
    | some d => exact ⟨d, rfl⟩
  rw [hd] at h1
  simp only [execOp, ho, h N a hf hG, Instr.makeInterface, Sem.run_bind, run_underlying hd, Result.andThen_ok]
  cases d <;> first | rfl | cases h1
theorem ex_slice_l1 {P : Program} {Be : Nat} {w0 : World} {H : Heap} {G : Bool} {e : Env} {ty : TypeId} {t el : TypeId} {x y : Operand} {A : Option Addr} {n c : Nat} {k : IntKind} (h1 : Ev G e x (.slice A n c)) (h2 : Ev G e y (.int k 1)) (hb : 1 ≤ n ∧ n ≤ c) [ht : TSlice P t el] [hs : TSize P el 3] :
    Ex P Be w0 H G e (.slice t x (some y) none none) ty (.slice (if c = 1 then A else A.map (·.add (1 * 3))) (n - 1) (c - 1)) := by
  intro N a w o ho _ hf hh hG
  have he : P.elem t = el := by simp [Program.elem, ht.slice]
  simp only [execOp, ho, h1 N a hf hG, Option.map_none, Option.map_some, h2 N a hf hG, Instr.sliceAt, Sem.run_bind, run_underlying ht.slice, Result.andThen_ok]
  rw [run_slice_l w t A n c (by rw [he]; exact ht.slice) k 1 (by omega) (by omega), he, hs.run w]
  simp [sliced]
attribute [local irreducible] Calls thenQ blockQ retQ retFQ Spc Spl Spq Ex Ev Evs Gd Upd ESub HKeep Res Res1 wlk effQ wlkT effT wlkP effP Rem SrcAt Split
set_option maxRecDepth 100000 in
set_option maxHeartbeats 1000000 in
theorem fail_c {Be : Nat} {w0 w : World} {gp : Nat} {s k : Sl} {en e : Int} {R : Heap} {ts : List Tk} {V : Empty → Value} {HH : Empty → Heap} {I : Empty → Prop} (hT : TokIn R s ts) (hg : w0.heap.size ≤ gp) (hh : Hp Be w0 (PB gp s en k :: R) w) :
    Calls Try.prog 59 #[.pointer (some ⟨gp, 0, none⟩), .int .i64 e] w (RetF Be w0 V HH I (fun ch => ch = panE (failP ts en e)) R) := by
  have hrd := hT.rd w hh.holds
  have hlen := hT.len
  have hbd := hrd.bound
  have hTr : ∀ w', Hp Be w0 (PB gp s en k :: R) w' → RdS w' w'.heap.size 3 tkC s.a s.n ts := fun w' hh => hT.rd w' hh.holds
  refine sp_enterF (vs := [_, _]) Try.func59 rfl Try.ntmps59 rfl hh ?_
  unfold PB at *
  cases ts with
  | nil =>
    have h0 : (s.n : Int) = 0 := by simp only [List.length_nil] at hlen; omega
    repeat (first|(apply spl_panic;(·exact eT rfl))|apply then_n|apply sp_seq|apply sp_region|apply spl_nil|((apply sp_cond_t);(·exact eT rfl);(·(exact decide_eq_true (by omega))))|((apply spl_pure rfl);(·(first|(apply ex_buildE (r:=#[.int .i64 9, .int .i64 en]);(·(repeat (first|exact eN|(apply eS;(·(first|exact eT rfl|exact eC))))));(·rfl);(·rfl))|(apply ex_mkiface;(·exact eT rfl))|((first|apply ex_move|apply ex_fieldAddr'|apply ex_seql|apply ex_len|apply ex_nilCheck)<;>(exact eT rfl))|((apply ex_eql)<;>(first|exact eT rfl|exact eC))|((apply ex_loadown)<;>(first|exact eT rfl|exact Bk.own InH.mem|rfl))))))
    apply then_p
    exact retF_pan rfl (by (repeat (first|exact HKeep.refl|apply HKeep.drop (by first|assumption|omega))))
  | cons t r =>
    have h0 : ¬ (s.n : Int) = 0 := by simp only [List.length_cons] at hlen; omega
    have hpos : 0 < s.n := by omega
    obtain ⟨ad, x, hA, hb, hx, hsz, hc⟩ := hrd.at_ hpos
    cases hx
    repeat (first|(apply spl_panic;(·exact eT rfl))|apply then_n|apply sp_seq|apply sp_region|apply spl_nil|(apply sp_cond_f;(·exact eT rfl);(·(exact decide_eq_false (by omega))))|apply sp_skip|((apply spl_pure rfl);(·(first|(apply ex_buildE (r:=#[.int .i64 e, .int .i64 (t.pos : Int)]);(·(repeat (first|exact eN|(apply eS;(·exact eT rfl)))));(·rfl);(·rfl))|(apply ex_mkiface;(·exact eT rfl))|(apply ex_loadfieldH (i:=0) (k:=2);(·exact eT rfl);(·exact hTr);(·exact hA);(·rfl);(·rfl))|((first|apply ex_move|apply ex_fieldAddr'|apply ex_seql|apply ex_len|apply ex_nilCheck)<;>(exact eT rfl))|((first|apply ex_fieldAddr|apply ex_eql)<;>(first|exact eT rfl|exact eC))|((first|apply ex_loadown|apply ex_indexAddr)<;>(first|exact eT rfl|exact eC|exact Bk.own InH.mem|rfl|assumption))))))
    exact retF_pan rfl (by (repeat (first|exact HKeep.refl|apply HKeep.drop (by first|assumption|omega))))
set_option maxRecDepth 100000 in
set_option maxHeartbeats 1000000 in
theorem next_c {Be : Nat} {w0 w : World} {gp : Nat} {s k : Sl} {en : Int} {R : Heap} {t : Tk} {ts : List Tk} (hT : TokIn R s (t :: ts)) (hh : Hp Be w0 (PB gp s en k :: R) w) :
    Calls Try.prog 81 #[.pointer (some ⟨gp, 0, none⟩)] w (RetX Be w0 (fun x : Unit => .string t.text) (fun _ => PB gp (Sl.tail s) en k :: R) (fun _ => True)) := by
  have hrd := hT.rd w hh.holds
  have hlen := hT.len
  have hcap := hT.cap
  have hTr : ∀ w', Hp Be w0 (PB gp s en k :: R) w' → RdS w' w'.heap.size 3 tkC s.a s.n (t :: ts) := fun w' hh => hT.rd w' hh.holds
  have hpos : 0 < s.n := by simp only [List.length_cons] at hlen; omega
  obtain ⟨ad, x, hA, hb, hx, hsz, hc⟩ := hrd.at_ hpos
  cases hx
  refine sp_enterM (vs := [_]) Try.func81 rfl Try.ntmps81 rfl hh ?_
  unfold PB at *
  repeat (first|apply then_n|apply sp_seq|apply sp_region|apply spl_nil|apply sp_ret|((apply spl_pure rfl);(·(first|(apply ex_loadfieldH (i:=0) (k:=1);(·exact eT rfl);(·exact hTr);(·exact hA);(·rfl);(·rfl))|(apply ex_slice_l1;(·exact eT rfl);(·exact eC);(·(constructor<;>omega)))|((first|apply ex_move|apply ex_assign|apply ex_fieldAddr'|apply ex_nilCheck)<;>(first|exact eT rfl|exact eC))|(apply ex_fieldAddr<;>(exact eT rfl))|((first|apply ex_loadown|apply ex_indexAddr)<;>(first|exact eT rfl|exact eC|exact Bk.own InH.mem|rfl|assumption)))))|(apply spl_store1;(·exact eT rfl);(·exact eT rfl);(·rfl);(·(repeat (exact Upd.here)));(·rfl)))
  (apply retX_ok rfl;(·((apply Res.ofOne;((apply Res1.tmp;(·rfl)))))))
  exact ⟨(), rfl, trivial, by unfold Sl.tail; (repeat (exact HKeep.refl))⟩
set_option maxRecDepth 100000 in
set_option maxHeartbeats 2000000 in
theorem skip_c {Be : Nat} {w0 w : World} {gp : Nat} {s k : Sl} {en : Int} {R : Heap} {ts : List Tk} {x : ByteArray} {kd : Nat} (hT : TokIn R s ts) (hh : Hp Be w0 (PB gp s en k :: R) w) :
    Calls Try.prog 58 #[.pointer (some ⟨gp, 0, none⟩), .string x, .int .i64 (kd : Int)] w (RetX Be w0 (fun y : Sl => .bool (isTk x kd ts)) (fun y => PB gp y en k :: R) (fun y => y = (if isTk x kd ts then Sl.tail s else s))) := by
  have hrd := hT.rd w hh.holds
  have hlen := hT.len
  have hTr : ∀ w', Hp Be w0 (PB gp s en k :: R) w' → RdS w' w'.heap.size 3 tkC s.a s.n ts := fun w' hh => hT.rd w' hh.holds
  refine sp_enterM (vs := [_, _, _]) Try.func58 rfl Try.ntmps58 rfl hh ?_
  have hnx : ∀ (t : Tk) (r : List Tk), ts = t :: r → ∀ w', Hp Be w0 (PB gp s en k :: R) w' → Calls Try.prog 81 #[.pointer (some ⟨gp, 0, none⟩)] w' (RetX Be w0 (fun x : Unit => .string t.text) (fun _ => PB gp (Sl.tail s) en k :: R) (fun _ => True)) := fun t r he w' hh => next_c (he ▸ hT) hh
  unfold PB at *
  cases ts with
  | nil =>
    have hoff : decide ((s.n : Int) > 0) = false := decide_eq_false (by simp only [List.length_nil] at hlen; omega)
    repeat (first|(apply sp_cond_f;(·exact eT rfl);(·(rw [hoff];rfl)))|apply then_n|apply sp_seq|apply sp_region|apply spl_nil|apply sp_skip|apply sp_ret|((first|apply spl_pure rfl|apply spq_pure rfl|(apply spq_pure_g rfl;(·exact Gd.tt rfl rfl)));(·(first|(apply ex_off hoff)|((first|apply ex_move|apply ex_assign|apply ex_fieldAddr'|apply ex_gtr|apply ex_len|apply ex_andT|apply ex_nilCheck)<;>(first|exact eT rfl|exact eC|exact eG rfl))|((apply ex_loadown)<;>(first|exact eT rfl|exact Bk.own InH.mem|rfl)))))|apply spq_nil|apply sp_draw mixed (by kernel_rfl))
    (apply retX_ok rfl;(·((apply Res.ofOne;((apply Res1.tmp;(·rfl)))))))
    exact ⟨s, by rw [hoff]; rfl, rfl, by (repeat (exact HKeep.refl))⟩
  | cons t r =>
    have hon : decide ((s.n : Int) > 0) = true := decide_eq_true (by simp only [List.length_cons] at hlen; omega)
    have hpos : 0 < s.n := by simp only [List.length_cons] at hlen; omega
    obtain ⟨ad, y, hA, hb, hx, hsz, hc⟩ := hrd.at_ hpos
    cases hx
    have hcond : (decide ((s.n : Int) > 0) && tkEq t ⟨kd, x, t.pos⟩) = isTk x kd (t :: r) := by rw [hon]; rfl
    cases hb2 : isTk x kd (t :: r) with
    | false =>
      rw [hb2] at hcond
      repeat (first|(apply sp_cond_f;(·exact eT rfl);(·exact hcond))|apply then_n|apply sp_seq|apply sp_region|apply spl_nil|apply sp_skip|apply sp_ret|((first|apply spl_pure rfl|apply spq_pure rfl|(apply spq_pure_g rfl;(·exact Gd.tt rfl rfl)));(·(first|(apply ex_tkeql (s:=t) (t:=⟨kd, x, t.pos⟩);(·exact eG rfl);(·exact eG rfl))|(apply ex_buildE (r:=tkC ⟨kd, x, t.pos⟩);(·(repeat (first|exact eN|(apply eS;(·exact eG rfl)))));(·rfl);(·rfl))|(apply ex_loadelemH (i:=0) (y:=t);(·exact eG rfl);(·exact hTr);(·exact hA);(·rfl);(·rfl))|(apply ex_loadfieldH (i:=0) (k:=2) (y:=t);(·exact eG rfl);(·exact hTr);(·exact hA);(·rfl);(·rfl))|((first|apply ex_move|apply ex_assign|apply ex_fieldAddr'|apply ex_gtr|apply ex_len|apply ex_andT|apply ex_nilCheck)<;>(first|exact eT rfl|exact eC|exact eG rfl))|((apply ex_fieldAddr)<;>(exact eG rfl))|((first|apply ex_loadown|apply ex_indexAddr)<;>(first|exact eT rfl|exact eC|exact eG rfl|exact Bk.own InH.mem|rfl|assumption)))))|apply spq_nil|apply sp_draw mixed (by kernel_rfl))
      (apply retX_ok rfl;(·((apply Res.ofOne;((apply Res1.tmp;(·rfl)))))))
      exact ⟨s, by rw [hcond], rfl, by (repeat (exact HKeep.refl))⟩
    | true =>
      rw [hb2] at hcond
      repeat (first|(apply sp_cond_t;(·exact eT rfl);(·exact hcond))|(apply spl_callM (X:=Unit) (A:=[PB gp s en k]) (R:=R) (AA:=fun _ => [PB gp (Sl.tail s) en k]) rfl;(·(repeat (first|exact eN|(apply eS;(·exact eT rfl)))));(·exact Split.one);(·exact hnx t r rfl);(intro _ _))|apply then_n|apply sp_seq|apply sp_region|apply spl_nil|apply sp_ret|((first|apply spl_pure rfl|apply spq_pure rfl|(apply spq_pure_g rfl;(·exact Gd.tt rfl rfl)));(·(first|(apply ex_tkeql (s:=t) (t:=⟨kd, x, t.pos⟩);(·exact eG rfl);(·exact eG rfl))|(apply ex_buildE (r:=tkC ⟨kd, x, t.pos⟩);(·(repeat (first|exact eN|(apply eS;(·exact eG rfl)))));(·rfl);(·rfl))|(apply ex_loadelemH (i:=0) (y:=t);(·exact eG rfl);(·exact hTr);(·exact hA);(·rfl);(·rfl))|(apply ex_loadfieldH (i:=0) (k:=2) (y:=t);(·exact eG rfl);(·exact hTr);(·exact hA);(·rfl);(·rfl))|((first|apply ex_move|apply ex_assign|apply ex_fieldAddr'|apply ex_gtr|apply ex_len|apply ex_andT|apply ex_nilCheck)<;>(first|exact eT rfl|exact eC|exact eG rfl))|((apply ex_fieldAddr)<;>(exact eG rfl))|((first|apply ex_loadown|apply ex_indexAddr)<;>(first|exact eT rfl|exact eC|exact eG rfl|exact Bk.own InH.mem|rfl|assumption)))))|apply spq_nil|apply sp_draw mixed (by kernel_rfl))
      (apply retX_ok rfl;(·((apply Res.ofOne;((apply Res1.tmp;(·rfl)))))))
      exact ⟨Sl.tail s, by rw [hcond], rfl, by (repeat (exact HKeep.refl))⟩
end Go.Proofs.Ytfdjlphfohnnnaa
/-
  Contracts: catalog.Takes.
-/
namespace Go.Proofs.Ytfdjlphfohnnnaa
open Go.RowKit Go.Sy
set_option linter.unusedVariables false
set_option linter.unusedSimpArgs false
def takesB (ks : List KindR) (kind name other : ByteArray) : Bool :=
  (findS ((findK ks kind).getD KindR.zero).slots name).isSome && decide (0 ≤ idx ((findS ((findK ks kind).getD KindR.zero).slots name).getD SlotR.zero).kinds (fun x => decide (other = x)))
attribute [local irreducible] Calls thenQ blockQ retQ Spc Spl Spq Ex Ev Evs Gd Upd ESub HKeep Res Res1 
set_option maxRecDepth 100000 in
theorem contains_c {w : World} {A : Option Addr} {n c : Nat} {xs : List ByteArray} {s : ByteArray} (h : RdS w w.heap.size 1 strC A n xs) :
    Calls Try.prog 49 #[.slice A n c, .string s] w (Ret w (.bool (decide (0 ≤ idx xs (fun x => decide (s = x)))))) := by
  refine sp_enter (vs := [_, _]) Try.func49 rfl Try.ntmps49 rfl ?_
  repeat (first|(apply spl_callp rfl;(·(repeat (first|exact eN|(apply eS;(·exact eT rfl)))));(·exact fun w' hh => indexStr_c (h.hp' hh)))|apply then_n|apply sp_seq|apply sp_region|apply spl_nil|apply sp_ret|((apply spl_pure rfl);(·(((first|apply ex_move|apply ex_assign|apply ex_geq)<;>(first|exact eT rfl|exact eC))))))
  (apply ret_ok rfl;(·((apply Res.ofOne;((apply Res1.tmp;(·rfl))))))); rfl
set_option maxRecDepth 100000 in
set_option maxHeartbeats 1000000 in
theorem takes_c {w : World} {A : Option Addr} {n c : Nat} {ks : List KindR} {s t o : ByteArray} (h : RdKinds w w.heap.size ⟨A, n, c⟩ ks) :
    Calls Try.prog 21 #[.agg #[.slice A n c], .string s, .string t, .string o] w (Ret w (.bool (takesB ks s t o))) := by
  have hrd := findS_rd (s := t) (findK_rd (s := s) h)
  unfold takesB
  have c1 := fun (w' : World) (h' : RdKinds w' w'.heap.size ⟨A, n, c⟩ ks) => catSlot_c (s := s) (t := t) h'
  generalize findS ((findK ks s).getD KindR.zero).slots t = S at *
  refine sp_enter (vs := [_, _, _, _]) Try.func21 rfl Try.ntmps21 rfl ?_
  repeat (first|(apply spl_callp rfl;(·(repeat (first|exact eN|(apply eS;(·exact eT rfl)))));(·exact fun w' hh => c1 w' (h.hp hh)))|(apply spl_callp_g rfl;(·exact Gd.tt rfl rfl);(·(repeat (first|exact eN|(apply eS;(·exact eG rfl)))));(·exact fun _ w' hh => contains_c (hrd.1.hp' hh)))|apply then_n|apply sp_seq|apply sp_region|apply spl_nil|apply sp_ret|((first|apply spl_pure rfl|(apply spl_pure_g rfl;(·exact Gd.tt rfl rfl)));(·(first|((first|apply ex_move|apply ex_assign|apply ex_fieldAddr'|apply ex_andT)<;>(first|exact eT rfl|exact eC|exact eG rfl))|((first|apply ex_loadown|apply ex_extract)<;>(first|exact eT rfl|exact eG rfl|exact Bk.own InH.mem|rfl))|(apply ex_loadowns<;>(first|exact eT rfl|exact Bk.own InH.mem|(rfl))))))|(apply spl_box;(·exact eT rfl);(·rfl);intro _ _)|(apply spl_alloc rfl;intro _ _)|(apply spl_stores;(·exact eT rfl);(·exact eT rfl);(·(repeat (exact Upd.here)));(·(rfl));(·(rfl));(·exact Ones.one)))
  (apply ret_ok rfl;(·((apply Res.ofOne;((apply Res1.tmp;(·rfl))))))); rfl
end Go.Proofs.Ytfdjlphfohnnnaa
/-
  Contracts of the parser: want, name, the checks of names.
-/
namespace Go.Proofs.Ytfdjlphfohnnnaa
open Go.RowKit Go.Sy
set_option linter.unusedVariables false
set_option linter.unusedSimpArgs false
attribute [local irreducible] Calls thenQ blockQ retQ retFQ Spc Spl Spq Ex Ev Evs Gd Upd ESub HKeep Res Res1 wlk effQ wlkT effT wlkP effP Rem SrcAt Split
theorem PB_split {gp : Nat} {s k : Sl} {en : Int} {R : Heap} : Split ((gp, .cells #[.slice s.a s.n s.c, .int .i64 en, .slice k.a k.n k.c] 71 (0, 0)) :: R) [PB gp s en k] R := Split.one
theorem skip_in {R : Heap} {s y : Sl} {x : ByteArray} {kd : Nat} {ts : List Tk} (hT : TokIn R s ts) (hy : y = if isTk x kd ts then Sl.tail s else s) : TokIn R y (skipP x kd ts) := by
  subst hy
  unfold skipP
  cases h : isTk x kd ts with
  | false => exact hT
  | true =>
    cases ts with
    | nil => cases h
    | cons t r => exact hT.tail
set_option maxRecDepth 100000 in
set_option maxHeartbeats 1000000 in
theorem want_c {Be : Nat} {w0 w : World} {gp : Nat} {s k : Sl} {en : Int} {R R0 : Heap} {ts : List Tk} {x : ByteArray} (hT0 : TokIn R0 s ts) (h0 : ∀ p ∈ R0, p ∈ R) (hg : w0.heap.size ≤ gp) (hh : Hp Be w0 (PB gp s en k :: R) w) :
    Calls Try.prog 63 #[.pointer (some ⟨gp, 0, none⟩), .string x] w (RetF Be w0 (fun y : Sl × List Tk => .tuple #[]) (fun y => PB gp y.1 en k :: R) (fun y => wantP x en ts = .ok y.2 ∧ TokIn R0 y.1 y.2) (fun ch => ∃ e, wantP x en ts = .error e ∧ ch = panE e) R) := by
  have hT := hT0.app h0
  have hsk : ∀ w', Hp Be w0 (PB gp s en k :: R) w' → Calls Try.prog 58 #[.pointer (some ⟨gp, 0, none⟩), .string x, .int .i64 ((4 : Nat) : Int)] w' _ := fun w' hh => skip_c (x := x) (kd := 4) hT hh
  refine sp_enterF (vs := [_, _]) Try.func63 rfl Try.ntmps63 rfl hh ?_
  cases hi : isTk x 4 ts with
  | false =>
    have hw : wantP x en ts = .error (failP ts en 8) := by unfold wantP; rw [hi]; rfl
    rw [hi] at hsk
    repeat (first|(apply spl_callM (X:=Sl) (A:=[PB gp s en k]) (R:=R) (AA:=fun y => [PB gp y en k]) rfl;(·(repeat (first|exact eN|(apply eS;(·(first|exact eT rfl|exact eC))))));(·exact Split.one);(·exact hsk);(intro y_ hy_;replace hy_ : y_ = s := hy_;cases hy_;simp only [List.cons_append, List.nil_append]))|(apply spl_callF (X:=Empty) (V:=fun _ => .tuple #[]) (I:=fun _ => True) (A:=[PB gp s en k]) (R:=R) (AA:=fun _ => [PB gp s en k]) rfl;(·(repeat (first|exact eN|(apply eS;(·(first|exact eT rfl|exact eC))))));(·exact Split.one);(·exact fun w' hh => fail_c hT hg hh);(·(intro ch hch;(repeat (apply then_p));exact retF_pan ⟨_, hw, hch⟩ (by (repeat (exact HKeep.refl)))));(intro y_;exact y_.elim))|apply then_n|apply sp_seq|apply sp_region|apply spl_nil|((apply sp_cond_t);(·exact eT rfl);(·(rfl)))|((apply spl_pure rfl);(·(((first|apply ex_move|apply ex_not)<;>(exact eT rfl))))))
  | true =>
    have hw : wantP x en ts = .ok ts.tail := by unfold wantP; rw [hi]; rfl
    have hT2 : TokIn R0 (Sl.tail s) ts.tail := by
      cases ts with
      | nil => cases hi
      | cons t r => exact hT0.tail
    rw [hi] at hsk
    repeat (first|(apply spl_callM (X:=Sl) (A:=[PB gp s en k]) (R:=R) (AA:=fun y => [PB gp y en k]) rfl;(·(repeat (first|exact eN|(apply eS;(·(first|exact eT rfl|exact eC))))));(·exact Split.one);(·exact hsk);(intro y_ hy_;replace hy_ : y_ = Sl.tail s := hy_;cases hy_;simp only [List.cons_append, List.nil_append]))|(apply sp_cond_f;(·exact eT rfl);(·(simp;done)))|apply then_n|apply sp_seq|apply sp_region|apply spl_nil|apply sp_skip|((apply spl_pure rfl);(·(((first|apply ex_move|apply ex_not)<;>(exact eT rfl))))))
    (apply endF_ok rfl;(·exact Res.none_))
    exact ⟨(Sl.tail s, ts.tail), rfl, ⟨hw, hT2⟩, by (repeat (exact HKeep.refl))⟩
set_option maxRecDepth 100000 in
set_option maxHeartbeats 2000000 in
theorem name_c {Be : Nat} {w0 w : World} {gp : Nat} {s k : Sl} {en : Int} {R R0 : Heap} {ts : List Tk} {chk : ByteArray → Int} {f : Nat} [TFn Try.prog f] {cap : List Value} (hT0 : TokIn R0 s ts) (h0 : ∀ p ∈ R0, p ∈ R) (hg : w0.heap.size ≤ gp)
    (hchk : ∀ t r, ts = t :: r → (t.kind : Int) = 1 → ∀ w', Hp Be w0 (PB gp s en k :: R) w' → Calls Try.prog f (Value.string t.text :: cap).toArray w' (Ret w' (.int .i64 (chk t.text)))) (hh : Hp Be w0 (PB gp s en k :: R) w) :
    Calls Try.prog 60 #[.pointer (some ⟨gp, 0, none⟩), .func (.func f) #[] cap.toArray] w (RetF Be w0 (fun y : Sl × ByteArray × List Tk => .string y.2.1) (fun y => PB gp y.1 en k :: R) (fun y => nameP chk en ts = .ok y.2 ∧ TokIn R0 y.1 y.2.2) (fun ch => ∃ e, nameP chk en ts = .error e ∧ ch = panE e) R) := by
  have hT := hT0.app h0
  have hrd := hT.rd w hh.holds
  have hlen := hT.len
  have hTr : ∀ w', Hp Be w0 (PB gp s en k :: R) w' → RdS w' w'.heap.size 3 tkC s.a s.n ts := fun w' hh => hT.rd w' hh.holds
  have hsp : ∀ {R' : Heap}, Split ((gp, .cells #[.slice s.a s.n s.c, .int .i64 en, .slice k.a k.n k.c] 71 (0, 0)) :: R') [PB gp s en k] R' := Split.one
  refine sp_enterF (vs := [_, _]) Try.func60 rfl Try.ntmps60 rfl hh ?_
  cases ts with
  | nil =>
    have hon : decide ((s.n : Int) = 0) = true := decide_eq_true (by simp only [List.length_nil] at hlen; omega)
    have hoff : (!decide ((s.n : Int) = 0)) = false := by rw [hon]; rfl
    have hw : nameP chk en [] = .error (9, en) := rfl
    unfold PB
    repeat (first|(apply sp_cond_t;(·exact eT rfl);(·(rw [hon];rfl)))|(apply spl_callF (X:=Empty) (V:=fun _ => .tuple #[]) (I:=fun _ => True) (A:=[PB gp s en k]) (R:=R) (AA:=fun _ => [PB gp s en k]) rfl;(·(repeat (first|exact eN|(apply eS;(·(first|exact eT rfl|exact eC))))));(·exact hsp);(·exact fun w' hh => fail_c hT hg hh);(·(intro ch hch;(repeat (apply then_p));exact retF_pan ⟨_, hw, hch⟩ (by (repeat (exact HKeep.refl)))));(intro y_;exact y_.elim))|apply then_n|apply sp_seq|apply sp_region|apply spl_nil|((first|apply spl_pure rfl|(apply spl_pure_g rfl;(·exact Gd.tf rfl rfl)));(·(first|(apply ex_off hoff)|((first|apply ex_move|apply ex_assign|apply ex_fieldAddr'|apply ex_seql|apply ex_len|apply ex_nilCheck)<;>(first|exact eT rfl|exact eC))|((first|apply ex_eql|apply ex_orT)<;>(first|exact eT rfl|exact eC|exact eG rfl))|((apply ex_loadown)<;>(first|exact eT rfl|exact Bk.own InH.mem|rfl))))))
  | cons t r =>
    have hon : decide ((s.n : Int) = 0) = false := decide_eq_false (by simp only [List.length_cons] at hlen; omega)
    have hpos : 0 < s.n := by simp only [List.length_cons] at hlen; omega
    obtain ⟨ad, y, hA, hb, hx, hsz, hc⟩ := hrd.at_ hpos
    cases hx
    by_cases hk : (t.kind : Int) = 1
    · have hck := hchk t r rfl hk
      have hcond : (decide ((s.n : Int) = 0) || !decide ((t.kind : Int) = 1)) = false := by rw [hon]; simp [hk]
      by_cases hz : chk t.text = 0
      · have hw : nameP chk en (t :: r) = .ok (t.text, r) := by simp only [nameP]; rw [if_pos hk, if_pos hz]
        unfold PB
        repeat (first|(apply sp_cond_f;(·exact eT rfl);(·exact hcond))|(apply sp_cond_f;(·exact eT rfl);(·(simp [hz])))|(apply spl_callv (f:=f) (first:=[]) (cap:=cap) rfl;(·exact eT rfl);(·(repeat (first|exact eN|(apply eS;(·exact eT rfl)))));(·exact hck))|(apply spl_callM (X:=Unit) (A:=[PB gp s en k]) (R:=R) (AA:=fun _ => [PB gp (Sl.tail s) en k]) rfl;(·(repeat (first|exact eN|(apply eS;(·exact eT rfl)))));(·exact hsp);(·exact fun w' hh => next_c hT hh);(intro _ _;simp only [List.cons_append, List.nil_append]))|apply then_n|apply sp_seq|apply sp_region|apply spl_nil|apply sp_skip|apply sp_ret|((first|apply spl_pure rfl|(apply spl_pure_g rfl;(·exact Gd.tf rfl rfl)));(·(first|(apply ex_loadfieldH (i:=0) (k:=0) (y:=t);(·exact eG rfl);(·exact hTr);(·exact hA);(·rfl);(·rfl))|(apply ex_loadfieldH (i:=0) (k:=1) (y:=t);(·exact eT rfl);(·exact hTr);(·exact hA);(·rfl);(·rfl))|((first|apply ex_move|apply ex_assign|apply ex_fieldAddr'|apply ex_seql|apply ex_sneq|apply ex_len|apply ex_nilCheck)<;>(first|exact eT rfl|exact eC|exact eG rfl))|((first|apply ex_fieldAddr|apply ex_eql|apply ex_neq|apply ex_orT)<;>(first|exact eT rfl|exact eC|exact eG rfl))|((first|apply ex_loadown|apply ex_indexAddr)<;>(first|exact eT rfl|exact eC|exact eG rfl|exact Bk.own InH.mem|rfl|assumption))))))
        (apply retF_ok rfl;(·((apply Res.ofOne;((apply Res1.tmp;(·rfl)))))))
        exact ⟨(Sl.tail s, t.text, r), rfl, ⟨hw, hT0.tail⟩, by (repeat (exact HKeep.refl))⟩
      · have hw : nameP chk en (t :: r) = .error (chk t.text, (t.pos : Int)) := by simp only [nameP]; rw [if_pos hk, if_neg hz]
        unfold PB
        repeat (first|(apply sp_cond_f;(·exact eT rfl);(·exact hcond))|(apply sp_cond_t;(·exact eT rfl);(·(simp [hz])))|(apply spl_callv (f:=f) (first:=[]) (cap:=cap) rfl;(·exact eT rfl);(·(repeat (first|exact eN|(apply eS;(·exact eT rfl)))));(·exact hck))|(apply spl_callF (X:=Empty) (V:=fun _ => .tuple #[]) (I:=fun _ => True) (A:=[PB gp s en k]) (R:=R) (AA:=fun _ => [PB gp s en k]) rfl;(·(repeat (first|exact eN|(apply eS;(·exact eT rfl)))));(·exact hsp);(·exact fun w' hh => fail_c hT hg hh);(·(intro ch hch;(repeat (apply then_p));exact retF_pan ⟨_, hw, hch⟩ (by (repeat (exact HKeep.refl)))));(intro y_;exact y_.elim))|apply then_n|apply sp_seq|apply sp_region|apply spl_nil|apply sp_skip|((first|apply spl_pure rfl|(apply spl_pure_g rfl;(·exact Gd.tf rfl rfl)));(·(first|(apply ex_loadfieldH (i:=0) (k:=0) (y:=t);(·exact eG rfl);(·exact hTr);(·exact hA);(·rfl);(·rfl))|(apply ex_loadfieldH (i:=0) (k:=1) (y:=t);(·exact eT rfl);(·exact hTr);(·exact hA);(·rfl);(·rfl))|((first|apply ex_move|apply ex_assign|apply ex_fieldAddr'|apply ex_seql|apply ex_sneq|apply ex_len|apply ex_nilCheck)<;>(first|exact eT rfl|exact eC|exact eG rfl))|((first|apply ex_fieldAddr|apply ex_eql|apply ex_neq|apply ex_orT)<;>(first|exact eT rfl|exact eC|exact eG rfl))|((first|apply ex_loadown|apply ex_indexAddr)<;>(first|exact eT rfl|exact eC|exact eG rfl|exact Bk.own InH.mem|rfl|assumption))))))
    · have hw : nameP chk en (t :: r) = .error (8, (t.pos : Int)) := by simp only [nameP]; rw [if_neg hk]
      have hcond : (decide ((s.n : Int) = 0) || !decide ((t.kind : Int) = 1)) = true := by rw [hon]; simp [hk]
      unfold PB
      repeat (first|(apply sp_cond_t;(·exact eT rfl);(·exact hcond))|(apply spl_callF (X:=Empty) (V:=fun _ => .tuple #[]) (I:=fun _ => True) (A:=[PB gp s en k]) (R:=R) (AA:=fun _ => [PB gp s en k]) rfl;(·(repeat (first|exact eN|(apply eS;(·(first|exact eT rfl|exact eC))))));(·exact hsp);(·exact fun w' hh => fail_c hT hg hh);(·(intro ch hch;(repeat (apply then_p));exact retF_pan ⟨_, hw, hch⟩ (by (repeat (exact HKeep.refl)))));(intro y_;exact y_.elim))|apply then_n|apply sp_seq|apply sp_region|apply spl_nil|((first|apply spl_pure rfl|(apply spl_pure_g rfl;(·exact Gd.tf rfl rfl)));(·(first|(apply ex_loadfieldH (i:=0) (k:=0) (y:=t);(·exact eG rfl);(·exact hTr);(·exact hA);(·rfl);(·rfl))|((first|apply ex_move|apply ex_assign|apply ex_fieldAddr'|apply ex_seql|apply ex_sneq|apply ex_len|apply ex_nilCheck)<;>(first|exact eT rfl|exact eC|exact eG rfl))|((first|apply ex_fieldAddr|apply ex_eql|apply ex_neq|apply ex_orT)<;>(first|exact eT rfl|exact eC|exact eG rfl))|((first|apply ex_loadown|apply ex_indexAddr)<;>(first|exact eT rfl|exact eC|exact eG rfl|exact Bk.own InH.mem|rfl|assumption))))))
end Go.Proofs.Ytfdjlphfohnnnaa
/-
  Contracts of the parser: the checks of names.
-/
namespace Go.Proofs.Ytfdjlphfohnnnaa
open Go.RowKit Go.Sy
set_option linter.unusedVariables false
set_option linter.unusedSimpArgs false
theorem idx_in {α : Type} (nm : α → ByteArray) (xs : List α) (s : ByteArray) : decide (idx xs (fun x => decide (nm x = s)) ≥ 0) = inL (xs.map nm) s := by
  unfold idx inL
  rw [List.any_map]
  cases h : xs.findIdx? fun x => decide (nm x = s) with
  | none =>
    rw [List.findIdx?_eq_none_iff] at h
    have : xs.any ((fun x => decide (x = s)) ∘ nm) = false := by
      rw [List.any_eq_false]
      intro x hx
      simpa using h x hx
    rw [this]; rfl
  | some i =>
    obtain ⟨hi, hp, -⟩ := List.findIdx?_eq_some_iff_getElem.1 h
    have : xs.any ((fun x => decide (x = s)) ∘ nm) = true := by
      rw [List.any_eq_true]
      exact ⟨xs[i], List.getElem_mem hi, hp⟩
    rw [this]
    simp
theorem fresh_7 {names : List ByteArray} {most : Nat} {s : ByteArray} (h : names.length = most) : freshC names most s = 7 := by unfold freshC; rw [if_pos h]
theorem fresh_3 {names : List ByteArray} {most : Nat} {s : ByteArray} (h : ¬ names.length = most) (h2 : inL names s = true) : freshC names most s = 3 := by unfold freshC; rw [if_neg h, if_pos h2]
theorem fresh_0 {names : List ByteArray} {most : Nat} {s : ByteArray} (h : ¬ names.length = most) (h2 : inL names s = false) : freshC names most s = 0 := by unfold freshC; rw [if_neg h, if_neg (by rw [h2]; simp)]
attribute [local irreducible] Calls thenQ blockQ retQ retFQ Spc Spl Spq Ex Ev Evs Gd Upd ESub HKeep Res Res1 wlk effQ wlkT effT wlkP effP Rem SrcAt Split
set_option maxRecDepth 100000 in
theorem fresh_kind {w : World} {A : Option Addr} {n c most : Nat} : Calls Try.prog 61 #[.slice A n c, .func (.func 42) #[] #[], .int .i64 (most : Int)] w
    (RetH w (fun x : Nat × Nat × Nat => .func (.func 82) #[] #[.pointer (some ⟨x.1, 0, none⟩), .pointer (some ⟨x.2.1, 0, none⟩), .pointer (some ⟨x.2.2, 0, none⟩)]) (fun x => [(x.2.1, .cells #[.int .i64 (most : Int)] 3 (0, 0)), (x.2.2, .cells #[.func (.func 42) #[] #[]] 65 (0, 0)), (x.1, .cells #[.slice A n c] 22 (0, 0))]) (fun _ => True)) := by
  refine sp_enter (vs := [_, _, _]) Try.func61 rfl Try.ntmps61 rfl ?_
  repeat (first|apply then_n|apply sp_seq|apply sp_region|apply spl_nil|apply sp_ret|((apply spl_pure rfl);(·(first|(apply ex_assign<;>(first|exact eT rfl|exact eC))|(apply ex_makeFunc<;>(((repeat (first|exact eN|(apply eS;(·exact eT rfl))));done))))))|(apply spl_box;(·exact eT rfl);(·rfl);intro _ _))
  (apply retH_ok rfl;(·((apply Res.ofOne;((apply Res1.tmp;(·rfl)))))))
  exact ⟨(_, _, _), rfl, trivial, by (repeat (exact HKeep.refl))⟩
set_option maxRecDepth 100000 in
set_option maxHeartbeats 1000000 in
theorem freshC_kind {w : World} {A : Option Addr} {n c most : Nat} {xs : List KindR} {s : ByteArray} {g1 g2 g3 : Nat} (h : RdS w w.heap.size 3 KindR.cells A n xs) (h1 : w.heap[g1]? = some (.cells #[.slice A n c] 22 (0, 0))) (h2 : w.heap[g2]? = some (.cells #[.int .i64 (most : Int)] 3 (0, 0))) (h3 : w.heap[g3]? = some (.cells #[.func (.func 42) #[] #[]] 65 (0, 0))) :
    Calls Try.prog 82 #[.string s, .pointer (some ⟨g1, 0, none⟩), .pointer (some ⟨g2, 0, none⟩), .pointer (some ⟨g3, 0, none⟩)] w (Ret w (.int .i64 (freshC (xs.map (·.name)) most s))) := by
  have hl : (xs.map (·.name)).length = n := by rw [List.length_map]; exact h.len
  have hix := fun (w' : World) (h' : RdS w' w'.heap.size 3 KindR.cells A n xs) => index_kind (c := c) (s := s) h'
  have hin := idx_in (·.name) xs s
  obtain ⟨I, hI⟩ : ∃ I, I = idx xs (fun x => decide (x.name = s)) := ⟨_, rfl⟩
  rw [← hI] at hix hin
  refine sp_enter (vs := [_, _, _, _]) Try.func82 rfl Try.ntmps82 rfl ?_
  by_cases hm : n = most
  · have hm' : (n : Int) = (most : Int) := by omega
    rw [fresh_7 (by omega)]
    repeat (first|(apply sp_cond_t;(·exact eT rfl);(·exact decide_eq_true hm'))|apply then_n|apply sp_seq|apply sp_region|apply spl_nil|apply then_r|apply block_r|apply sp_ret|apply sp_block|((apply spl_pure rfl);(·(first|((first|apply ex_assign|apply ex_seql|apply ex_len)<;>(first|exact eT rfl|exact eC))|((apply ex_eql)<;>(exact eT rfl))|(apply ex_loadown<;>(first|exact eT rfl|exact Bk.old (by assumption) (Nat.le_refl _)|rfl))))))
    (apply ret_ok rfl;(·((apply Res.ofOne;((apply Res1.tmp;(·rfl))))))); rfl
  · have hm' : ¬ (n : Int) = (most : Int) := by omega
    cases hi : inL (xs.map (·.name)) s with
    | true =>
      rw [fresh_3 (by omega) hi]
      rw [hi] at hin
      repeat (first|(apply sp_cond_f;(·exact eT rfl);(·exact decide_eq_false hm'))|(apply sp_cond_t;(·exact eT rfl);(·exact hin))|(apply spl_callp rfl;(·(repeat (first|exact eN|(apply eS;(·exact eT rfl)))));(·exact fun w' hh => hix w' (h.hp' hh)))|apply then_n|apply sp_seq|apply sp_region|apply spl_nil|apply then_r|apply block_r|apply sp_ret|apply sp_block|((apply spl_pure rfl);(·(first|((first|apply ex_move|apply ex_assign|apply ex_geq|apply ex_seql|apply ex_len)<;>(first|exact eT rfl|exact eC))|((apply ex_eql)<;>(exact eT rfl))|(apply ex_loadown<;>(first|exact eT rfl|exact Bk.old (by assumption) (Nat.le_refl _)|rfl))))))
      (apply ret_ok rfl;(·((apply Res.ofOne;((apply Res1.tmp;(·rfl))))))); rfl
    | false =>
      rw [fresh_0 (by omega) hi]
      rw [hi] at hin
      repeat (first|(apply sp_cond_f;(·exact eT rfl);(·exact decide_eq_false hm'))|(apply sp_cond_f;(·exact eT rfl);(·exact hin))|(apply spl_callp rfl;(·(repeat (first|exact eN|(apply eS;(·exact eT rfl)))));(·exact fun w' hh => hix w' (h.hp' hh)))|apply then_n|apply block_n|apply sp_seq|apply sp_region|apply spl_nil|apply sp_skip|apply sp_ret|apply sp_block|((apply spl_pure rfl);(·(first|((first|apply ex_move|apply ex_assign|apply ex_geq|apply ex_seql|apply ex_len)<;>(first|exact eT rfl|exact eC))|((apply ex_eql)<;>(exact eT rfl))|(apply ex_loadown<;>(first|exact eT rfl|exact Bk.old (by assumption) (Nat.le_refl _)|rfl))))))
      (apply ret_ok rfl;(·((apply Res.ofOne;((apply Res1.tmp;(·rfl))))))); rfl
set_option maxRecDepth 100000 in
theorem fresh_slot {w : World} {A : Option Addr} {n c most : Nat} : Calls Try.prog 83 #[.slice A n c, .func (.func 72) #[] #[], .int .i64 (most : Int)] w
    (RetH w (fun x : Nat × Nat × Nat => .func (.func 89) #[] #[.pointer (some ⟨x.1, 0, none⟩), .pointer (some ⟨x.2.1, 0, none⟩), .pointer (some ⟨x.2.2, 0, none⟩)]) (fun x => [(x.2.1, .cells #[.int .i64 (most : Int)] 3 (0, 0)), (x.2.2, .cells #[.func (.func 72) #[] #[]] 112 (0, 0)), (x.1, .cells #[.slice A n c] 32 (0, 0))]) (fun _ => True)) := by
  refine sp_enter (vs := [_, _, _]) Try.func83 rfl Try.ntmps83 rfl ?_
  repeat (first|apply then_n|apply sp_seq|apply sp_region|apply spl_nil|apply sp_ret|((apply spl_pure rfl);(·(first|(apply ex_assign<;>(first|exact eT rfl|exact eC))|(apply ex_makeFunc<;>(((repeat (first|exact eN|(apply eS;(·exact eT rfl))));done))))))|(apply spl_box;(·exact eT rfl);(·rfl);intro _ _))
  (apply retH_ok rfl;(·((apply Res.ofOne;((apply Res1.tmp;(·rfl)))))))
  exact ⟨(_, _, _), rfl, trivial, by (repeat (exact HKeep.refl))⟩
set_option maxRecDepth 100000 in
set_option maxHeartbeats 1000000 in
theorem freshC_slot {w : World} {A : Option Addr} {n c most : Nat} {xs : List SlotR} {s : ByteArray} {g1 g2 g3 : Nat} (h : RdS w w.heap.size 3 SlotR.cells A n xs) (h1 : w.heap[g1]? = some (.cells #[.slice A n c] 32 (0, 0))) (h2 : w.heap[g2]? = some (.cells #[.int .i64 (most : Int)] 3 (0, 0))) (h3 : w.heap[g3]? = some (.cells #[.func (.func 72) #[] #[]] 112 (0, 0))) :
    Calls Try.prog 89 #[.string s, .pointer (some ⟨g1, 0, none⟩), .pointer (some ⟨g2, 0, none⟩), .pointer (some ⟨g3, 0, none⟩)] w (Ret w (.int .i64 (freshC (xs.map (·.name)) most s))) := by
  have hl : (xs.map (·.name)).length = n := by rw [List.length_map]; exact h.len
  have hix := fun (w' : World) (h' : RdS w' w'.heap.size 3 SlotR.cells A n xs) => index_slot (c := c) (s := s) h'
  have hin := idx_in (·.name) xs s
  obtain ⟨I, hI⟩ : ∃ I, I = idx xs (fun x => decide (x.name = s)) := ⟨_, rfl⟩
  rw [← hI] at hix hin
  refine sp_enter (vs := [_, _, _, _]) Try.func89 rfl Try.ntmps89 rfl ?_
  by_cases hm : n = most
  · have hm' : (n : Int) = (most : Int) := by omega
    rw [fresh_7 (by omega)]
    repeat (first|(apply sp_cond_t;(·exact eT rfl);(·exact decide_eq_true hm'))|apply then_n|apply sp_seq|apply sp_region|apply spl_nil|apply then_r|apply block_r|apply sp_ret|apply sp_block|((apply spl_pure rfl);(·(first|((first|apply ex_assign|apply ex_seql|apply ex_len)<;>(first|exact eT rfl|exact eC))|((apply ex_eql)<;>(exact eT rfl))|(apply ex_loadown<;>(first|exact eT rfl|exact Bk.old (by assumption) (Nat.le_refl _)|rfl))))))
    (apply ret_ok rfl;(·((apply Res.ofOne;((apply Res1.tmp;(·rfl))))))); rfl
  · have hm' : ¬ (n : Int) = (most : Int) := by omega
    cases hi : inL (xs.map (·.name)) s with
    | true =>
      rw [fresh_3 (by omega) hi]
      rw [hi] at hin
      repeat (first|(apply sp_cond_f;(·exact eT rfl);(·exact decide_eq_false hm'))|(apply sp_cond_t;(·exact eT rfl);(·exact hin))|(apply spl_callp rfl;(·(repeat (first|exact eN|(apply eS;(·exact eT rfl)))));(·exact fun w' hh => hix w' (h.hp' hh)))|apply then_n|apply sp_seq|apply sp_region|apply spl_nil|apply then_r|apply block_r|apply sp_ret|apply sp_block|((apply spl_pure rfl);(·(first|((first|apply ex_move|apply ex_assign|apply ex_geq|apply ex_seql|apply ex_len)<;>(first|exact eT rfl|exact eC))|((apply ex_eql)<;>(exact eT rfl))|(apply ex_loadown<;>(first|exact eT rfl|exact Bk.old (by assumption) (Nat.le_refl _)|rfl))))))
      (apply ret_ok rfl;(·((apply Res.ofOne;((apply Res1.tmp;(·rfl))))))); rfl
    | false =>
      rw [fresh_0 (by omega) hi]
      rw [hi] at hin
      repeat (first|(apply sp_cond_f;(·exact eT rfl);(·exact decide_eq_false hm'))|(apply sp_cond_f;(·exact eT rfl);(·exact hin))|(apply spl_callp rfl;(·(repeat (first|exact eN|(apply eS;(·exact eT rfl)))));(·exact fun w' hh => hix w' (h.hp' hh)))|apply then_n|apply block_n|apply sp_seq|apply sp_region|apply spl_nil|apply sp_skip|apply sp_ret|apply sp_block|((apply spl_pure rfl);(·(first|((first|apply ex_move|apply ex_assign|apply ex_geq|apply ex_seql|apply ex_len)<;>(first|exact eT rfl|exact eC))|((apply ex_eql)<;>(exact eT rfl))|(apply ex_loadown<;>(first|exact eT rfl|exact Bk.old (by assumption) (Nat.le_refl _)|rfl))))))
      (apply ret_ok rfl;(·((apply Res.ofOne;((apply Res1.tmp;(·rfl))))))); rfl
/-! The records without their places. -/
def SlotR.pure (s : SlotR) : PSlot := ⟨s.name, s.kinds, s.normal.toNat⟩
def KindR.pure (k : KindR) : PKind := ⟨k.name, k.vehicle, k.slots.map SlotR.pure⟩
theorem contains_in (l : List ByteArray) (s : ByteArray) : decide (0 ≤ idx l (fun x => decide (s = x))) = inL l s := by
  have := idx_in id l s
  rw [List.map_id] at this
  rw [← this]
  have he : (fun x : ByteArray => decide (s = x)) = fun x => decide (id x = s) := by funext x; rw [decide_eq_decide]; exact eq_comm
  rw [he]
theorem find_pure (ks : List KindR) (s : ByteArray) : ((ks.map KindR.pure).find? fun k => decide (k.name = s)) = (findK ks s).map KindR.pure := by
  unfold findK
  induction ks with
  | nil => rfl
  | cons k ks ih =>
    rw [List.map_cons, List.find?_cons, List.find?_cons, ih]
    show (match decide (k.name = s) with | true => some k.pure | false => _) = Option.map KindR.pure (match decide (k.name = s) with | true => some k | false => _)
    cases decide (k.name = s) <;> rfl
set_option maxRecDepth 100000 in
set_option maxHeartbeats 2000000 in
theorem kindsChk_c {w : World} {gb gl gp : Nat} {A K : Option Addr} {n c kn kc : Nat} {l : List ByteArray} {ks : List KindR} {s : ByteArray} {tv : Value} {en : Int} (hl : RdS w w.heap.size 1 strC A n l) (hk : RdS w w.heap.size 3 KindR.cells K kn ks) (h1 : w.heap[gb]? = some (.cells #[.pointer (some ⟨gp, 0, none⟩)] 69 (0, 0))) (h2 : w.heap[gl]? = some (.cells #[.slice A n c] 44 (0, 0)))
    (h3 : w.heap[gp]? = some (.cells #[tv, .int .i64 en, .slice K kn kc] 71 (0, 0))) :
    Calls Try.prog 90 #[.string s, .pointer (some ⟨gb, 0, none⟩), .pointer (some ⟨gl, 0, none⟩)] w (Ret w (.int .i64 (kindC (ks.map KindR.pure) l s))) := by
  have hf := fun (w' : World) (h' : RdS w' w'.heap.size 3 KindR.cells K kn ks) => catFind_c (c := kc) (s := s) h'
  have hct := fun (w' : World) (h' : RdS w' w'.heap.size 1 strC A n l) => contains_c (c := c) (s := s) h'
  rw [contains_in] at hct
  have hkc : kindC (ks.map KindR.pure) l s = if inL l s then 3 else match findK ks s with | none => 2 | some k => if k.vehicle then 4 else 0 := by
    unfold kindC
    rw [find_pure]
    cases findK ks s <;> rfl
  rw [hkc]
  refine sp_enter (vs := [_, _, _]) Try.func90 rfl Try.ntmps90 rfl ?_
  cases hi : inL l s with
  | true =>
    rw [hi] at hct
    repeat (first|(apply spl_callp rfl;(·(repeat (first|exact eN|(apply eS;(·exact eT rfl)))));(·exact fun w' hh => hf w' (hk.hp' hh)))|(apply spl_callp rfl;(·(repeat (first|exact eN|(apply eS;(·exact eT rfl)))));(·exact fun w' hh => hct w' (hl.hp' hh)))|(apply sp_cond_t;(·exact eT rfl);(·(simp;done)))|apply then_n|apply sp_seq|apply sp_region|apply spl_nil|apply then_r|apply block_r|apply sp_ret|apply sp_block|((apply spl_pure rfl);(·(first|(apply ex_loadpartE (cs':=#[.slice K kn kc]);(·exact eT rfl);(·(exact Bk.old (by assumption) (Nat.le_refl _)));(·rfl);(·rfl))|((first|apply ex_move|apply ex_assign|apply ex_fieldAddr'|apply ex_nilCheck)<;>(first|exact eT rfl|exact eC))|((first|apply ex_loadown|apply ex_extract)<;>(first|exact eT rfl|exact Bk.old (by assumption) (Nat.le_refl _)|rfl)))))|(apply spl_alloc rfl;intro _ _)|(apply spl_stores;(·exact eT rfl);(·exact eT rfl);(·(repeat (exact Upd.here)));(·(rfl));(·(rfl));(·exact Ones.one)))
    (apply ret_ok rfl;(·((apply Res.ofOne;((apply Res1.tmp;(·rfl))))))); rfl
  | false =>
    rw [hi] at hct
    cases hfk : findK ks s with
    | none =>
      rw [hfk] at hf
      repeat (first|(apply spl_callp rfl;(·(repeat (first|exact eN|(apply eS;(·exact eT rfl)))));(·exact fun w' hh => hf w' (hk.hp' hh)))|(apply spl_callp rfl;(·(repeat (first|exact eN|(apply eS;(·exact eT rfl)))));(·exact fun w' hh => hct w' (hl.hp' hh)))|(apply sp_cond_t;(·exact eT rfl);(·(simp;done)))|(apply sp_cond_f;(·exact eT rfl);(·(simp;done)))|apply then_n|apply sp_seq|apply sp_region|apply spl_nil|apply then_r|apply block_r|apply sp_ret|apply sp_block|((apply spl_pure rfl);(·(first|(apply ex_loadpartE (cs':=#[.slice K kn kc]);(·exact eT rfl);(·(exact Bk.old (by assumption) (Nat.le_refl _)));(·rfl);(·rfl))|((first|apply ex_move|apply ex_assign|apply ex_fieldAddr'|apply ex_not|apply ex_nilCheck)<;>(first|exact eT rfl|exact eC))|((first|apply ex_loadown|apply ex_extract)<;>(first|exact eT rfl|exact Bk.old (by assumption) (Nat.le_refl _)|rfl)))))|(apply spl_alloc rfl;intro _ _)|(apply spl_stores;(·exact eT rfl);(·exact eT rfl);(·(repeat (exact Upd.here)));(·(rfl));(·(rfl));(·exact Ones.one)))
      (apply ret_ok rfl;(·((apply Res.ofOne;((apply Res1.tmp;(·rfl))))))); rfl
    | some k =>
      rw [hfk] at hf
      cases hv : k.vehicle with
      | true =>
        repeat (first|(apply spl_callp rfl;(·(repeat (first|exact eN|(apply eS;(·exact eT rfl)))));(·exact fun w' hh => hf w' (hk.hp' hh)))|(apply spl_callp rfl;(·(repeat (first|exact eN|(apply eS;(·exact eT rfl)))));(·exact fun w' hh => hct w' (hl.hp' hh)))|(apply sp_cond_t;(·exact eT rfl);(·(simp [*];done)))|(apply sp_cond_f;(·exact eT rfl);(·(simp;done)))|apply then_n|apply sp_seq|apply sp_region|apply spl_nil|apply then_r|apply block_r|apply sp_ret|apply sp_block|((apply spl_pure rfl);(·(first|(apply ex_loadpartE (cs':=#[.slice K kn kc]);(·exact eT rfl);(·(exact Bk.old (by assumption) (Nat.le_refl _)));(·rfl);(·rfl))|((first|apply ex_move|apply ex_assign|apply ex_fieldAddr'|apply ex_not|apply ex_nilCheck)<;>(first|exact eT rfl|exact eC))|((first|apply ex_loadown|apply ex_extract)<;>(first|exact eT rfl|exact Bk.own InH.mem|exact Bk.old (by assumption) (Nat.le_refl _)|rfl)))))|(apply spl_alloc rfl;intro _ _)|(apply spl_stores;(·exact eT rfl);(·exact eT rfl);(·(repeat (exact Upd.here)));(·(rfl));(·(rfl));(·exact Ones.one)))
        (apply ret_ok rfl;(·((apply Res.ofOne;((apply Res1.tmp;(·rfl))))))); simp [hv]
      | false =>
        repeat (first|(apply spl_callp rfl;(·(repeat (first|exact eN|(apply eS;(·exact eT rfl)))));(·exact fun w' hh => hf w' (hk.hp' hh)))|(apply spl_callp rfl;(·(repeat (first|exact eN|(apply eS;(·exact eT rfl)))));(·exact fun w' hh => hct w' (hl.hp' hh)))|(apply sp_cond_f;(·exact eT rfl);(·(first|(simp;done)|(simp [*];done))))|apply then_n|apply block_n|apply sp_seq|apply sp_region|apply spl_nil|apply sp_skip|apply sp_ret|apply sp_block|((apply spl_pure rfl);(·(first|(apply ex_loadpartE (cs':=#[.slice K kn kc]);(·exact eT rfl);(·(exact Bk.old (by assumption) (Nat.le_refl _)));(·rfl);(·rfl))|((first|apply ex_move|apply ex_assign|apply ex_fieldAddr'|apply ex_not|apply ex_nilCheck)<;>(first|exact eT rfl|exact eC))|((first|apply ex_loadown|apply ex_extract)<;>(first|exact eT rfl|exact Bk.own InH.mem|exact Bk.old (by assumption) (Nat.le_refl _)|rfl)))))|(apply spl_alloc rfl;intro _ _)|(apply spl_stores;(·exact eT rfl);(·exact eT rfl);(·(repeat (exact Upd.here)));(·(rfl));(·(rfl));(·exact Ones.one)))
        (apply ret_ok rfl;(·((apply Res.ofOne;((apply Res1.tmp;(·rfl))))))); simp [hv]
end Go.Proofs.Ytfdjlphfohnnnaa
/-
  What catalog.Valid asks, in plain terms.
-/
namespace Go.Proofs.Ytfdjlphfohnnnaa
open Go.RowKit Go.Sy
set_option linter.unusedVariables false
set_option linter.unusedSimpArgs false
structure LensS (s : SlotR) : Prop where
  len : s.ks.n = s.kinds.length
structure LensK (k : KindR) : Prop where
  len : k.ss.n = k.slots.length
  slots : ∀ s ∈ k.slots, LensS s
theorem inB_L (x : ByteArray) (l : List ByteArray) : inB x l = inL l x := by
  unfold inB inL
  congr 1
  funext y
  rw [decide_eq_decide]; exact eq_comm
theorem good_iff {bf : List KindR} {sn : List ByteArray} {x : ByteArray} : (!inB x sn && good bf x) = true ↔ kindC (bf.map KindR.pure) sn x = 0 := by
  rw [kindC_zero, inB_L, find_pure, Bool.and_eq_true, Bool.not_eq_true', inL_not]
  unfold good
  cases findK bf x with
  | none => simp
  | some k =>
    have : (KindR.pure k).vehicle = k.vehicle := rfl
    simp [this]
theorem kinds_iff {bf : List KindR} : ∀ (xs sn : List ByteArray), kindsOk bf sn xs = true ↔ kindsV (bf.map KindR.pure) sn xs
  | [], sn => by simp [kindsOk, kindsV]
  | x :: r, sn => by simp only [kindsOk, kindsV]; rw [Bool.and_eq_true, good_iff, kinds_iff r]
theorem slot_iff {bf : List KindR} {names : List ByteArray} {s : SlotR} (hl : LensS s) : slotV (bf.map KindR.pure) names s.pure ↔ (!inB s.name names && slotOk bf s) = true ∧ names.length < 12 := by
  have hn := hl.len
  unfold slotOk
  rw [Bool.and_eq_true, Bool.not_eq_true', Bool.and_eq_true, Bool.and_eq_true, Bool.and_eq_true, decide_eq_true_eq, decide_eq_true_eq, kinds_iff, inB_L]
  constructor
  · rintro ⟨h1, h2, h3, h4, h5, h6⟩
    simp only [SlotR.pure] at *
    exact ⟨⟨h2, ⟨h1, by omega, by omega⟩, h6⟩, h3⟩
  · rintro ⟨⟨h2, ⟨h1, h4, h5⟩, h6⟩, h3⟩
    exact ⟨h1, h2, h3, by simp only [SlotR.pure]; omega, by simp only [SlotR.pure]; omega, h6⟩
theorem slots_iff {bf : List KindR} : ∀ (ss : List SlotR) (d : List PSlot), (∀ s ∈ ss, LensS s) → (slotsV (bf.map KindR.pure) d (ss.map SlotR.pure) ↔ slotsOk bf (d.map (·.name)) ss = true ∧ (ss ≠ [] → d.length + ss.length ≤ 12))
  | [], d, _ => by simp [slotsV, slotsOk]
  | s :: r, d, hl => by
    have ih := slots_iff (bf := bf) r (d ++ [s.pure]) fun x hx => hl x (.tail _ hx)
    have hs := slot_iff (bf := bf) (names := d.map (·.name)) (hl s (.head _))
    have hm : (d ++ [s.pure]).map (·.name) = d.map (·.name) ++ [s.name] := by rw [List.map_append]; rfl
    rw [hm] at ih
    simp only [List.map_cons, slotsV, slotsOk]
    generalize (!inB s.name (d.map (·.name)) && slotOk bf s) = A at hs ⊢
    rw [hs, ih, Bool.and_eq_true, List.length_map]
    simp only [List.length_append, List.length_cons, List.length_nil]
    constructor
    · rintro ⟨⟨h1, h2⟩, h3, h4⟩
      refine ⟨⟨h1, h3⟩, fun _ => ?_⟩
      cases r with
      | nil => simp only [List.length_nil]; omega
      | cons y q => have := h4 (by simp); simp only [List.length_cons] at *; omega
    · rintro ⟨⟨h1, h3⟩, h4⟩
      have := h4 (by simp)
      exact ⟨⟨h1, by omega⟩, h3, fun _ => by omega⟩
theorem kind_iff {bf : List KindR} {k : KindR} (hl : LensK k) : kindV (bf.map KindR.pure) k.pure ↔ kindOk bf k = true ∧ bf.length < 60 := by
  have hs := slots_iff (bf := bf) k.slots [] hl.slots
  have hn := hl.len
  have hin : inL ((bf.map KindR.pure).map (·.name)) k.pure.name = !(findK bf k.name).isNone := by
    have hm : (bf.map KindR.pure).map (·.name) = bf.map (·.name) := by rw [List.map_map]; rfl
    rw [hm]
    show inL _ k.name = _
    unfold findK
    cases hf : bf.find? fun x => decide (x.name = k.name) with
    | none =>
      rw [List.find?_eq_none] at hf
      have : inL (bf.map (·.name)) k.name = false := inL_not.2 fun hm => by
        obtain ⟨x, hx, he⟩ := List.mem_map.1 hm
        have := hf x hx
        simp [he] at this
      rw [this]; rfl
    | some x =>
      have h1 := List.mem_of_find?_eq_some hf
      have h2 := List.find?_some hf
      have : inL (bf.map (·.name)) k.name = true := inL_mem.2 (List.mem_map.2 ⟨x, h1, by simpa using h2⟩)
      rw [this]; rfl
  unfold kindOk
  rw [Bool.and_eq_true, Bool.and_eq_true, Bool.and_eq_true, decide_eq_true_eq]
  constructor
  · rintro ⟨h1, h2, h3, h4⟩
    rw [hin] at h2
    obtain ⟨h5, h6⟩ := hs.1 h4
    rw [List.length_map] at h3
    refine ⟨⟨⟨by simpa using h2, h1, ?_⟩, h5⟩, h3⟩
    rw [hn]
    by_cases he : k.slots = []
    · rw [he]; simp
    · simpa using h6 he
  · rintro ⟨⟨⟨h2, h1, h7⟩, h5⟩, h3⟩
    refine ⟨h1, by rw [hin, h2]; rfl, by rw [List.length_map]; exact h3, ?_⟩
    show slotsV _ [] (k.slots.map SlotR.pure)
    exact hs.2 ⟨h5, fun _ => by simp only [List.length_nil]; omega⟩
theorem cat_iff : ∀ (ks bf : List KindR), (∀ k ∈ ks, LensK k) → (catV (bf.map KindR.pure) (ks.map KindR.pure) ↔ catOk bf ks = true ∧ (ks ≠ [] → bf.length + ks.length ≤ 60))
  | [], bf, _ => by simp [catV, catOk]
  | k :: r, bf, hl => by
    have ih := cat_iff r (bf ++ [k]) fun x hx => hl x (.tail _ hx)
    have hs := kind_iff (bf := bf) (hl k (.head _))
    have hm : (bf ++ [k]).map KindR.pure = bf.map KindR.pure ++ [k.pure] := by rw [List.map_append]; rfl
    rw [hm] at ih
    simp only [List.map_cons, catV, catOk]
    rw [hs, ih, Bool.and_eq_true]
    simp only [List.length_append, List.length_cons, List.length_nil]
    constructor
    · rintro ⟨⟨h1, h2⟩, h3, h4⟩
      refine ⟨⟨h1, h3⟩, fun _ => ?_⟩
      cases r with
      | nil => simp only [List.length_nil]; omega
      | cons y q => have := h4 (by simp); simp only [List.length_cons] at *; omega
    · rintro ⟨⟨h1, h3⟩, h4⟩
      have := h4 (by simp)
      exact ⟨⟨h1, by omega⟩, h3, fun _ => by omega⟩
theorem valid_iff {ks : List KindR} (hl : ∀ k ∈ ks, LensK k) : validB ks = true ↔ catV [] (ks.map KindR.pure) := by
  have := cat_iff ks [] hl
  rw [List.map_nil] at this
  rw [this]
  unfold validB
  rw [Bool.and_eq_true, decide_eq_true_eq]
  simp only [List.length_nil, Nat.zero_add]
  constructor
  · rintro ⟨h1, h2⟩; exact ⟨h1, fun _ => h2⟩
  · rintro ⟨h1, h2⟩
    refine ⟨h1, ?_⟩
    cases ks with
    | nil => simp
    | cons k r => exact h2 (by simp)
theorem RdKinds.lens {w : World} {Be : Nat} {s : Sl} {ks : List KindR} (h : RdKinds w Be s ks) : ∀ k ∈ ks, LensK k := fun k hk =>
  ⟨((h.2 k hk).1.len).symm, fun s hs => ⟨(((h.2 k hk).2 s hs).1.len).symm⟩⟩
theorem valid_normal {ks : List KindR} (hl : ∀ k ∈ ks, LensK k) (h : validB ks = true) : ∀ k ∈ ks, ∀ s ∈ k.slots, 1 ≤ s.normal := by
  intro k hk s hs
  have hP := (catV_all ((valid_iff hl).1 h)).2 k.pure (List.mem_map.2 ⟨k, hk, rfl⟩)
  have := (hP.slots s.pure (List.mem_map.2 ⟨s, hs, rfl⟩)).one
  simp only [SlotR.pure] at this
  omega
end Go.Proofs.Ytfdjlphfohnnnaa
/-
  What slots take, in plain terms; the orders and beginnings of valid catalogs.
-/
namespace Go.Proofs.Ytfdjlphfohnnnaa
open Go.RowKit Go.Sy
set_option linter.unusedVariables false
set_option linter.unusedSimpArgs false
def findN (ps : List PKind) (s : ByteArray) : Option PKind := ps.find? fun k => decide (k.name = s)
def findSN (ss : List PSlot) (s : ByteArray) : Option PSlot := ss.find? fun k => decide (k.name = s)
def slotN (ps : List PKind) (kind name : ByteArray) : Option PSlot := (findN ps kind).bind fun k => findSN k.slots name
def takesP (ps : List PKind) (kind name other : ByteArray) : Bool := (slotN ps kind name).any fun s => inL s.kinds other
def normalP (ps : List PKind) (kind name other : ByteArray) : Bool := (slotN ps kind name).any fun s => inL (s.kinds.take s.normal) other
theorem findS_pure (ss : List SlotR) (s : ByteArray) : findSN (ss.map SlotR.pure) s = (findS ss s).map SlotR.pure := by
  unfold findSN findS
  induction ss with
  | nil => rfl
  | cons k ks ih =>
    rw [List.map_cons, List.find?_cons, List.find?_cons, ih]
    show (match decide (k.name = s) with | true => some k.pure | false => _) = Option.map SlotR.pure (match decide (k.name = s) with | true => some k | false => _)
    cases decide (k.name = s) <;> rfl
theorem slot_pure (ks : List KindR) (kind name : ByteArray) : slotN (ks.map KindR.pure) kind name = (findS ((findK ks kind).getD KindR.zero).slots name).map SlotR.pure := by
  unfold slotN findN
  rw [find_pure]
  cases findK ks kind with
  | none => rfl
  | some k => exact findS_pure k.slots name
theorem takes_pure (ks : List KindR) (kind name other : ByteArray) : takesB ks kind name other = takesP (ks.map KindR.pure) kind name other := by
  unfold takesB takesP
  rw [slot_pure, contains_in]
  cases findS ((findK ks kind).getD KindR.zero).slots name with
  | none => rfl
  | some s => simp [SlotR.pure]
theorem idx_take (xs : List ByteArray) (s : ByteArray) (m : Int) : (decide (0 ≤ idx xs (fun x => decide (s = x))) && decide (idx xs (fun x => decide (s = x)) < m)) = inL (xs.take m.toNat) s := by
  rw [← contains_in]
  rcases idx_cases xs (fun x => decide (s = x)) with ⟨hf, hi⟩ | ⟨k, x, hf, hi, hx, hk⟩
  · rw [hi]
    rcases idx_cases (xs.take m.toNat) (fun x => decide (s = x)) with ⟨hf2, hi2⟩ | ⟨k, x, hf2, hi2, hx2, hk2⟩
    · rw [hi2]; rfl
    · rw [List.find?_eq_none] at hf
      have := hf x (List.mem_of_mem_take (List.mem_of_getElem? hx2))
      exact absurd (List.find?_some hf2) this
  · have hall : (xs.take k).any (fun x => decide (s = x)) = false := by
      rw [List.any_eq_false]
      intro y hy
      unfold idx at hi
      cases hq : xs.findIdx? (fun x => decide (s = x)) with
      | none => rw [hq] at hi; simp at hi
      | some j =>
        rw [hq] at hi
        obtain rfl : j = k := by have hi' : (j : Int) = (k : Int) := hi; omega
        obtain ⟨hk', hp, hno⟩ := List.findIdx?_eq_some_iff_getElem.1 hq
        obtain ⟨i, hi', rfl⟩ := List.mem_take_iff_getElem.1 hy
        simpa using hno i (by omega)
    rw [hi]
    by_cases hm : (k : Int) < m
    · have hx2 : (xs.take m.toNat)[k]? = some x := by rw [List.getElem?_take, if_pos (by omega)]; exact hx
      have hall2 : ((xs.take m.toNat).take k).any (fun x => decide (s = x)) = false := by rw [List.take_take, Nat.min_eq_left (by omega)]; exact hall
      have hp : decide (s = x) = true := by have := List.find?_some (p := fun x => decide (s = x)) hf; exact this
      rw [idx_hit hall2 hx2 hp]
      simp [hm]
    · have hall2 : (xs.take m.toNat).any (fun x => decide (s = x)) = false := by
        rw [List.any_eq_false] at hall ⊢
        intro y hy
        obtain ⟨i, hi', rfl⟩ := List.mem_take_iff_getElem.1 hy
        exact hall _ (List.mem_take_iff_getElem.2 ⟨i, by omega, rfl⟩)
      have : idx (xs.take m.toNat) (fun x => decide (s = x)) = -1 := idx_none (k := (xs.take m.toNat).length) (by rw [List.take_length]; exact hall2) (Nat.le_refl _)
      rw [this]
      simp [hm]
theorem normal_pure (ks : List KindR) (kind name other : ByteArray) : normalB ks kind name other = normalP (ks.map KindR.pure) kind name other := by
  unfold normalB normalP
  rw [slot_pure, Bool.and_assoc, idx_take]
  cases findS ((findK ks kind).getD KindR.zero).slots name with
  | none => rfl
  | some s => simp [SlotR.pure]
/-! Valid catalogs. -/
theorem catV_at {ps : List PKind} {i : Nat} {k : PKind} (h : catV [] ps) (hk : ps[i]? = some k) : kindV (ps.take i) k := by
  rw [take_split hk] at h
  have := (catV_app.1 h).2
  rw [List.nil_append] at this
  exact this.1
theorem slotsV_at {read : List PKind} {ss : List PSlot} {i : Nat} {s : PSlot} (h : slotsV read [] ss) (hk : ss[i]? = some s) : slotV read ((ss.take i).map (·.name)) s := by
  rw [take_split hk] at h
  have := (slotsV_app.1 h).2
  rw [List.nil_append] at this
  exact this.1
theorem kindsV_at {read : List PKind} {xs : List ByteArray} {i : Nat} {x : ByteArray} (h : kindsV read [] xs) (hk : xs[i]? = some x) : kindC read (xs.take i) x = 0 := by
  rw [take_split hk] at h
  have := (kindsV_app.1 h).2
  rw [List.nil_append] at this
  exact this.1
theorem find_at {α : Type} {ps : List α} {nm : α → ByteArray} {i : Nat} {k : α} (hk : ps[i]? = some k) (hn : nm k ∉ (ps.take i).map nm) : ps.find? (fun x => decide (nm x = nm k)) = some k := by
  obtain ⟨hi, hk'⟩ := List.getElem?_eq_some_iff.1 hk
  rw [List.find?_eq_some_iff_getElem]
  refine ⟨by simp, i, hi, hk', fun j hj => ?_⟩
  simp only [Bool.not_eq_true', decide_eq_false_iff_not]
  intro he
  exact hn (List.mem_map.2 ⟨ps[j], List.mem_take_iff_getElem.2 ⟨j, by omega, rfl⟩, he⟩)
theorem findN_at {ps : List PKind} {i : Nat} {k : PKind} (h : catV [] ps) (hk : ps[i]? = some k) : findN ps k.name = some k :=
  find_at (nm := PKind.name) hk (inL_not.1 (catV_at h hk).new)
theorem findSN_at {read : List PKind} {ss : List PSlot} {i : Nat} {s : PSlot} (h : slotsV read [] ss) (hk : ss[i]? = some s) : findSN ss s.name = some s :=
  find_at (nm := PSlot.name) hk (inL_not.1 (slotsV_at h hk).new)
theorem find_idx {ps : List PKind} {s : ByteArray} {k : PKind} (h : findN ps s = some k) : ∃ i : Nat, ps[i]? = some k ∧ k.name = s ∧ idx ps (fun x => decide (x.name = s)) = i := by
  rcases idx_cases ps (fun x => decide (x.name = s)) with ⟨hf, hi⟩ | ⟨i, x, hf, hi, hx, hk⟩
  · unfold findN at h; rw [hf] at h; cases h
  · unfold findN at h
    rw [hf] at h
    cases h
    exact ⟨i, hx, by simpa using List.find?_some hf, hi⟩
/-- What a slot takes stands before, and is no vehicle. -/
theorem takes_before {ps : List PKind} {kind name other : ByteArray} (h : catV [] ps) (ht : takesP ps kind name other = true) : ∃ (i j : Nat) (o : PKind), idx ps (fun x => decide (x.name = kind)) = i ∧ idx ps (fun x => decide (x.name = other)) = j ∧ j < i ∧ ps[j]? = some o ∧ o.vehicle = false := by
  unfold takesP slotN at ht
  cases hk : findN ps kind with
  | none => rw [hk] at ht; cases ht
  | some k =>
    rw [hk] at ht
    simp only [Option.bind_some] at ht
    cases hs : findSN k.slots name with
    | none => rw [hs] at ht; cases ht
    | some s =>
      rw [hs] at ht
      simp only [Option.any_some] at ht
      obtain ⟨i, hi, hkn, hidx⟩ := find_idx hk
      have hkv := catV_at h hi
      obtain ⟨m, hm⟩ := List.getElem?_of_mem (List.mem_of_find?_eq_some hs)
      have hsv := slotsV_at hkv.slots hm
      obtain ⟨q, hq⟩ := List.getElem?_of_mem (inL_mem.1 ht)
      obtain ⟨-, o, hf, hv⟩ := kindC_zero.1 (kindsV_at hsv.kinds hq)
      obtain ⟨j, hj, hon, hidx2⟩ := find_idx (ps := ps.take i) hf
      have hji : j < i := by
        have := (List.getElem?_eq_some_iff.1 hj).1
        rw [List.length_take] at this; omega
      have hj' : ps[j]? = some o := by rw [List.getElem?_take, if_pos hji] at hj; exact hj
      refine ⟨i, j, o, hidx, ?_, hji, hj', hv⟩
      obtain ⟨j2, hj2, -, hidx3⟩ := find_idx (s := other) (ps := ps) (k := o) (by have := findN_at h hj'; rw [hon] at this; exact this)
      -- the first place with this name
      rw [hidx3]
      have hjl := (List.getElem?_eq_some_iff.1 hj').1
      have hj2l := (List.getElem?_eq_some_iff.1 hj2).1
      congr 1
      rcases Nat.lt_trichotomy j2 j with hlt | rfl | hgt
      · exact absurd (List.mem_map.2 ⟨o, List.mem_of_getElem? (show (ps.take j)[j2]? = some o by rw [List.getElem?_take, if_pos hlt]; exact hj2), rfl⟩) (inL_not.1 (catV_at h hj').new)
      · rfl
      · exact absurd (List.mem_map.2 ⟨o, List.mem_of_getElem? (show (ps.take j2)[j]? = some o by rw [List.getElem?_take, if_pos hgt]; exact hj'), rfl⟩) (inL_not.1 (catV_at h hj2).new)
theorem normal_takes {ps : List PKind} {kind name other : ByteArray} (h : normalP ps kind name other = true) : takesP ps kind name other = true := by
  unfold normalP at h
  unfold takesP
  cases hs : slotN ps kind name with
  | none => rw [hs] at h; cases h
  | some s =>
    rw [hs] at h
    simp only [Option.any_some] at *
    exact inL_mem.2 (List.mem_of_mem_take (inL_mem.1 h))
/-- The slots of a kind that is found. -/
theorem slot_own {ps : List PKind} {kind : ByteArray} {k : PKind} {s : PSlot} {m : Nat} (h : catV [] ps) (hk : findN ps kind = some k) (hs : k.slots[m]? = some s) : slotN ps kind s.name = some s := by
  obtain ⟨i, hi, -, -⟩ := find_idx hk
  unfold slotN
  rw [hk]
  exact findSN_at (catV_at h hi).slots hs
theorem slot_valid {ps : List PKind} {kind : ByteArray} {k : PKind} {s : PSlot} {m : Nat} (h : catV [] ps) (hk : findN ps kind = some k) (hs : k.slots[m]? = some s) : s.kinds.Nodup ∧ 1 ≤ s.normal ∧ s.normal ≤ s.kinds.length := by
  obtain ⟨i, hi, -, -⟩ := find_idx hk
  have hv := slotsV_at (catV_at h hi).slots hs
  have := (kindsV_spec s.kinds [] hv.kinds List.nodup_nil (fun x hx => by cases hx)).1
  rw [List.nil_append] at this
  exact ⟨this, hv.one, hv.le⟩
theorem nodup_getElem {α : Type} {l : List α} (hn : l.Nodup) {i j : Nat} {hi : i < l.length} {hj : j < l.length} (h : l[i] = l[j]) : i = j := by
  have hp := List.pairwise_iff_getElem.1 hn
  rcases Nat.lt_trichotomy i j with hlt | rfl | hgt
  · exact absurd h (hp i j hi hj hlt)
  · rfl
  · exact absurd h.symm (hp j i hj hi hgt)
theorem takes_own {ps : List PKind} {kind : ByteArray} {k : PKind} {s : PSlot} {m q : Nat} {x : ByteArray} (h : catV [] ps) (hk : findN ps kind = some k) (hs : k.slots[m]? = some s) (hx : s.kinds[q]? = some x) : takesP ps kind s.name x = true ∧ normalP ps kind s.name x = decide (q < s.normal) := by
  have hso := slot_own h hk hs
  obtain ⟨hn, -, -⟩ := slot_valid h hk hs
  unfold takesP normalP
  rw [hso]
  refine ⟨inL_mem.2 (List.mem_of_getElem? hx), ?_⟩
  simp only [Option.any_some]
  by_cases hq : q < s.normal
  · rw [decide_eq_true hq]
    exact inL_mem.2 (List.mem_of_getElem? (show (s.kinds.take s.normal)[q]? = some x by rw [List.getElem?_take, if_pos hq]; exact hx))
  · rw [decide_eq_false hq]
    refine inL_not.2 fun hm => ?_
    obtain ⟨j, hj, he⟩ := List.mem_take_iff_getElem.1 hm
    obtain ⟨hql, hqe⟩ := List.getElem?_eq_some_iff.1 hx
    have := (nodup_getElem hn) (he.trans hqe.symm)
    omega
/-! The first kinds. -/
theorem catV_take {ps : List PKind} (h : catV [] ps) (n : Nat) : catV [] (ps.take n) := by
  have := h
  rw [← List.take_append_drop n ps] at this
  exact (catV_app.1 this).1
theorem find_take {ps : List PKind} {n : Nat} {kind : ByteArray} (h : (findN (ps.take n) kind).isSome = true) : findN ps kind = findN (ps.take n) kind := by
  unfold findN at *
  cases hf : (ps.take n).find? _ with
  | none => rw [hf] at h; cases h
  | some k =>
    conv => lhs; rw [← List.take_append_drop n ps]
    rw [List.find?_append, hf]
    rfl
theorem takes_take {ps : List PKind} {n : Nat} {kind name other : ByteArray} (h : (findN (ps.take n) kind).isSome = true) : takesP (ps.take n) kind name other = takesP ps kind name other ∧ normalP (ps.take n) kind name other = normalP ps kind name other := by
  unfold takesP normalP slotN
  rw [find_take h]
  exact ⟨rfl, rfl⟩
end Go.Proofs.Ytfdjlphfohnnnaa
