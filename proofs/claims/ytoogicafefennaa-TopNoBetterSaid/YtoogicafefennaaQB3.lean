/-
  Regions that draw their order in which two operations that make memory come up together: both orders are walked; code that is cut between two statements.
-/
import Derived.Test.YtoogicafefennaaQB1
import Derived.Test.YtoogicafefennaaQB2
namespace Go.Sy
set_option linter.unusedVariables false
open Go.RowKit
set_option linter.unusedVariables false
set_option linter.unusedSimpArgs false
inductive Pt where
  | nil
  | rd (i : Nat) (t : Pt)
  | ef (i : Nat) (t : Pt)
  | fk (i j : Nat) (t u : Pt)
def Pt.len : Pt → Nat
  | .nil => 0
  | .rd _ t => t.len + 1
  | .ef _ t => t.len + 1
  | .fk _ _ t _ => t.len + 1
def canonT (md : Region.Mode) (ops : Array Oper) (m : Nat) : Array Bool → Bool → Pt → Bool
  | listed, _, .nil => (Region.ready md ops listed).isEmpty
  | listed, bar, .rd i r => (!bar && decide (i < m)) && (Region.ready md ops listed).contains i && Region.free md ops listed i && canonT md ops m (listed.setIfInBounds i true) bar r
  | listed, bar, .ef i r => (Region.ready md ops listed == [i]) && canonT md ops m (listed.setIfInBounds i true) (bar || decide (m ≤ i)) r
  | listed, bar, .fk i j r s => (Region.ready md ops listed == [i, j]) && (Nat.beq r.len s.len && (canonT md ops m (listed.setIfInBounds i true) (bar || decide (m ≤ i)) r && canonT md ops m (listed.setIfInBounds j true) (bar || decide (m ≤ j)) s))
def drawnT (ops : Array Oper) (m : Nat) (p : Pt) : Bool :=
  Region.noSelect ops && tailB .any ops m && decide (p.len = ops.size) && canonT .any ops m (Array.replicate ops.size false) false p
section walk
variable {P : Program} {N Be : Nat} {Q : Post} {e : Env} {w0 : World} {H H1 : Heap} {ops : Array Oper} {ty : TypeId} {pos : String} {after : Array Edge} {d i m : Nat}
def wlkT (P : Program) (N Be : Nat) (ops : Array Oper) (m : Nat) (Q : Post) (H1 : Heap) : Pt → Env → World → Heap → Prop
  | .nil, e, w0, H => Q .normal e w0 H
  | .rd i r, e, w0, H => ∃ (o : Oper) (d : Nat) (G : Bool) (v : Value), ops[i]? = some o ∧ o.dst = some d ∧ d < N ∧ Gd ops e o.guard G ∧ Ex P Be w0 H1 G e o.op o.type v ∧ wlkT P N Be ops m Q H1 r ((d, G, v) :: e) w0 H
  | .ef i r, e, w0, H => ∃ o : Oper, ops[i]? = some o ∧ Spl P N Be ops (fun x e' w0' H' => x = .normal ∧ w0' = w0 ∧ (i < m → HKeep w0 H1 H') ∧ wlkT P N Be ops m Q H1 r e' w0' H') [o] e w0 H
  | .fk i j r s, e, w0, H => (∃ o : Oper, ops[i]? = some o ∧ Spl P N Be ops (fun x e' w0' H' => x = .normal ∧ w0' = w0 ∧ (i < m → HKeep w0 H1 H') ∧ wlkT P N Be ops m Q H1 r e' w0' H') [o] e w0 H) ∧
      ∃ o : Oper, ops[j]? = some o ∧ Spl P N Be ops (fun x e' w0' H' => x = .normal ∧ w0' = w0 ∧ (j < m → HKeep w0 H1 H') ∧ wlkT P N Be ops m Q H1 s e' w0' H') [o] e w0 H
def effT (P : Program) (N Be : Nat) (ops : Array Oper) (m : Nat) (Q : Post) (H1 : Heap) (i : Nat) (r : Pt) (w0 : World) : Post := fun x e' w0' H' => x = .normal ∧ w0' = w0 ∧ (i < m → HKeep w0 H1 H') ∧ wlkT P N Be ops m Q H1 r e' w0' H'
theorem wlt_nil (h : Q .normal e w0 H) : wlkT P N Be ops m Q H1 .nil e w0 H := h
theorem wlt_read {r : Pt} {op : Op} {v : Value} (ho : ops[i]? = some ⟨some d, op, ty, pos, after, none⟩) (hN : Nat.blt d N = true) (hx : Ex P Be w0 H1 true e op ty v) (k : wlkT P N Be ops m Q H1 r ((d, true, v) :: e) w0 H) :
    wlkT P N Be ops m Q H1 (.rd i r) e w0 H := ⟨_, d, true, v, ho, rfl, by simpa [Nat.blt_eq] using hN, Gd.none, hx, k⟩
theorem wlt_read_g {r : Pt} {op : Op} {v : Value} {g : Option (Nat × Bool)} {G : Bool} (ho : ops[i]? = some ⟨some d, op, ty, pos, after, g⟩) (hN : Nat.blt d N = true) (hg : Gd ops e g G) (hx : Ex P Be w0 H1 G e op ty v) (k : wlkT P N Be ops m Q H1 r ((d, G, v) :: e) w0 H) :
    wlkT P N Be ops m Q H1 (.rd i r) e w0 H := ⟨_, d, G, v, ho, rfl, by simpa [Nat.blt_eq] using hN, hg, hx, k⟩
theorem wlt_eff {r : Pt} {dst : Option Tmp} {op : Op} {g : Option (Nat × Bool)} (ho : ops[i]? = some ⟨dst, op, ty, pos, after, g⟩) (h : Spl P N Be ops (effT P N Be ops m Q H1 i r w0) [⟨dst, op, ty, pos, after, g⟩] e w0 H) : wlkT P N Be ops m Q H1 (.ef i r) e w0 H := ⟨_, ho, h⟩
theorem wlt_fork {j : Nat} {r s : Pt} {dst dst' : Option Tmp} {op op' : Op} {g g' : Option (Nat × Bool)} {ty' : TypeId} {pos' : String} {after' : Array Edge} (ho : ops[i]? = some ⟨dst, op, ty, pos, after, g⟩) (ho' : ops[j]? = some ⟨dst', op', ty', pos', after', g'⟩)
    (h : Spl P N Be ops (effT P N Be ops m Q H1 i r w0) [⟨dst, op, ty, pos, after, g⟩] e w0 H) (h' : Spl P N Be ops (effT P N Be ops m Q H1 j s w0) [⟨dst', op', ty', pos', after', g'⟩] e w0 H) : wlkT P N Be ops m Q H1 (.fk i j r s) e w0 H := ⟨⟨_, ho, h⟩, _, ho', h'⟩
theorem efft {r : Pt} (h : i < m → HKeep w0 H1 H) (k : wlkT P N Be ops m Q H1 r e w0 H) : effT P N Be ops m Q H1 i r w0 .normal e w0 H := ⟨rfl, rfl, h, k⟩
theorem effect_sound {a : Act} {w : World} {o : Oper} {j : Nat} {R : Post} {K : Act → World → Prop} (ho : ops[j]? = some o) (hk : Spl P N Be ops R [o] e w0 H) (hR : ∀ x e w H, R x e w H → x = .normal) (hf : Fr N e a) (hh : Hp Be w0 H w) (fin : ∀ a' w', lift N Be R .normal a' w' → K a' w') : opI P ops j K a w := by
  have h1 := hk a w hf hh
  unfold opI
  simp only [ho]
  simp only [wpList] at h1
  split at h1
  · rename_i hw
    simp only [hw, if_true]
    rcases h1 with h1 | ⟨_, h1⟩
    · unfold Oper.wp at *
      generalize (execOp a.eval o).run P w = res at *
      cases res with
      | ok n w' =>
        cases n <;> simp only [Oper.upon] at h1 ⊢
        case enter f args =>
          refine h1.mono fun en w'' he => ?_
          cases en with
          | returned u => exact fin _ _ he
          | panicked c => obtain ⟨_, _, _, _, _, hx⟩ := he; cases hR _ _ _ _ hx
          | outgrown => obtain ⟨_, _, _, _, _, _, _, hx⟩ := he; cases hR _ _ _ _ hx
        case row => exact h1.mono fun _ _ he => fin _ _ he
        all_goals first | exact fin _ _ h1 | exact h1
      | halt x w' =>
        cases x <;> simp only [Oper.upon] at h1
        obtain ⟨_, _, _, _, _, hx⟩ := h1
        cases hR _ _ _ _ hx
    · obtain ⟨_, _, _, _, _, _, _, hx⟩ := h1
      cases hR _ _ _ _ hx
  · rename_i hw
    simp only [hw]
    exact fin _ _ h1
theorem wlkT_sound (hm' : tailB .any ops m = true) (hs : Region.noSelect ops = true) : ∀ (l : Pt) (listed : Array Bool) (bar : Bool) (a : Act) (w : World) (e : Env) (H : Heap), canonT .any ops m listed bar l = true →
    Cl .any ops listed → Fr N e a → Hp Be w0 H w → (bar = false → Hp Be w0 H1 w) → wlkT P N Be ops m Q H1 l e w0 H → wpI P .any ops m (Hp Be w0 H1) (fun a' w' => lift N Be Q .normal a' w') l.len listed a w := by
  intro l
  induction l with
  | nil =>
    intro listed bar a w e H hB _ hf hh _ h
    exact ⟨by simpa [canonT] using hB, e, w0, H, hf, hh, h⟩
  | rd i r ih =>
    intro listed bar a w e H hB hcl hf hh hC h
    obtain ⟨o, d, G, v, ho, hd, hdN, hg, hx, hk⟩ := h
    simp only [canonT, Bool.and_eq_true, Bool.not_eq_true', decide_eq_true_eq, List.contains_eq_mem] at hB
    obtain ⟨⟨⟨⟨hbar, him⟩, hr⟩, hfree⟩, hB'⟩ := hB
    have hgd := hg N a o hf rfl
    refine wpI_first (v := if G then v else undef) ho him hm' (Region.noSelect_spec hs) r.len listed a w (Region.free_spec ho hfree) hcl hr ?_ (hC hbar) (ih _ bar _ w _ H hB' (hcl.set hr) ?_ hh hC hk)
    · cases hG : G with
      | true => exact .inl ⟨by rw [hgd, hG], fun w' hw' => hx N a w' o rfl rfl hf hw' hG⟩
      | false => exact .inr ⟨by rw [hgd, hG], rfl⟩
    · rw [hd]
      cases hG : G with
      | true => exact hf.puttrue hdN
      | false => exact hf.put hdN
  | ef i r ih =>
    intro listed bar a w e H hB hcl hf hh hC h
    obtain ⟨o, ho, hk⟩ := h
    simp only [canonT, Bool.and_eq_true, beq_iff_eq] at hB
    obtain ⟨hr, hB'⟩ := hB
    refine ⟨fun h0 => (by rw [hr] at h0; cases h0), fun j hj => ?_⟩
    rw [hr] at hj
    simp only [List.mem_singleton] at hj
    subst hj
    have hcl' := hcl.set (show j ∈ Region.ready .any ops listed by rw [hr]; exact List.mem_singleton.2 rfl)
    refine effect_sound ho hk (fun x e w H h => h.1) hf hh ?_
    rintro a' w' ⟨e', w0', H', hf', hh', _, rfl, hkeep, hk'⟩
    refine ⟨fun hjm => hh'.sub (hkeep hjm), ih _ _ a' w' e' H' hB' hcl' hf' hh' (fun hb => ?_) hk'⟩
    simp only [Bool.or_eq_false_iff, decide_eq_false_iff_not] at hb
    exact hh'.sub (hkeep (by omega))
  | fk i j r s ih1 ih2 =>
    intro listed bar a w e H hB hcl hf hh hC h
    obtain ⟨⟨o, ho, hk⟩, o2, ho2, hk2⟩ := h
    simp only [canonT, Bool.and_eq_true, beq_iff_eq] at hB
    obtain ⟨hr, hlen, hB1, hB2⟩ := hB
    have hlen' : r.len = s.len := Nat.eq_of_beq_eq_true hlen
    refine ⟨fun h0 => (by rw [hr] at h0; cases h0), fun q hq => ?_⟩
    have hcl' := hcl.set hq
    rw [hr] at hq
    simp only [List.mem_cons, List.not_mem_nil, or_false] at hq
    rcases hq with rfl | rfl
    · refine effect_sound ho hk (fun x e w H h => h.1) hf hh ?_
      rintro a' w' ⟨e', w0', H', hf', hh', _, rfl, hkeep, hk'⟩
      refine ⟨fun hjm => hh'.sub (hkeep hjm), ih1 _ _ a' w' e' H' hB1 hcl' hf' hh' (fun hb => ?_) hk'⟩
      simp only [Bool.or_eq_false_iff, decide_eq_false_iff_not] at hb
      exact hh'.sub (hkeep (by omega))
    · refine effect_sound ho2 hk2 (fun x e w H h => h.1) hf hh ?_
      rintro a' w' ⟨e', w0', H', hf', hh', _, rfl, hkeep, hk'⟩
      refine ⟨fun hjm => hh'.sub (hkeep hjm), ?_⟩
      show wpI P .any ops m _ _ r.len _ _ _
      rw [hlen']
      refine ih2 _ _ a' w' e' H' hB2 hcl' hf' hh' (fun hb => ?_) hk'
      simp only [Bool.or_eq_false_iff, decide_eq_false_iff_not] at hb
      exact hh'.sub (hkeep (by omega))
theorem sp_drawnT {id : Nat} {l : List Oper} (p : Pt) (m : Nat) (H1 : Heap) (hm : P.follows .mixedOrders = true) (hB : drawnT l.toArray m p = true) (hk : HKeep w0 H1 H) (h : wlkT P N Be l.toArray m Q H1 p e w0 H) :
    Spc P N Be (.region id l.toArray true) Q e w0 H := by
  intro a w hf hh
  simp only [drawnT, Bool.and_eq_true, decide_eq_true_eq] at hB
  obtain ⟨⟨⟨h1, h2⟩, h3⟩, h4⟩ := hB
  refine wp_region_any hm ?_
  have := wlkT_sound h2 h1 p _ false a _ e H h4 (Cl.start rfl) hf hh.drew (fun _ => (hh.drew).sub hk) h
  rw [h3] at this
  exact wpAny_of_wpI (fun _ _ hq => hq) _ _ _ _ this
/-- A cut between two statements: what the second one may know. -/
theorem spc_cut {c1 c2 : Code} {X : Type} (E : X → Env) (HH : X → Heap) (I : X → Prop) (h1 : Spc P N Be c1 (thenQ (fun e' w' H' => ∃ x, I x ∧ ESub (E x) e' ∧ w0 = w' ∧ HKeep w' (HH x) H') Q) e w0 H)
    (h2 : ∀ x, I x → Spc P N Be c2 Q (E x) w0 (HH x)) : Spc P N Be (.seq c1 c2) Q e w0 H := by
  refine sp_seq ?_
  intro a w hf hh
  refine wp_mono (h1 a w hf hh) ?_
  rintro x a w ⟨e', w0', H', q1, q2, q3⟩
  cases x with
  | normal =>
    obtain ⟨y, hI, hs, rfl, hk⟩ := q3
    exact ⟨e', _, H', q1, q2, (h2 y hI).weaken hs hk⟩
  | ret => exact ⟨e', w0', H', q1, q2, q3⟩
  | exit _ => exact ⟨e', w0', H', q1, q2, q3⟩
  | goto _ => exact ⟨e', w0', H', q1, q2, q3⟩
  | panic _ => exact ⟨e', w0', H', q1, q2, q3⟩
  | outgrown => exact ⟨e', w0', H', q1, q2, q3⟩
end walk
end Go.Sy
/-
  Regions that draw their order in which three operations that make memory come up together: all orders are walked.
-/
namespace Go.Sy
set_option linter.unusedVariables false
open Go.RowKit
set_option linter.unusedVariables false
set_option linter.unusedSimpArgs false
inductive Qt where
  | nil
  | rd (i : Nat) (t : Qt)
  | ef (i : Nat) (t : Qt)
  | fk (i j : Nat) (t u : Qt)
  | f3 (i j k : Nat) (t u v : Qt)
def Qt.len : Qt → Nat
  | .nil => 0
  | .rd _ t => t.len + 1
  | .ef _ t => t.len + 1
  | .fk _ _ t _ => t.len + 1
  | .f3 _ _ _ t _ _ => t.len + 1
def canonQ (md : Region.Mode) (ops : Array Oper) (m : Nat) : Array Bool → Bool → Qt → Bool
  | listed, _, .nil => (Region.ready md ops listed).isEmpty
  | listed, bar, .rd i r => (!bar && decide (i < m)) && (Region.ready md ops listed).contains i && Region.free md ops listed i && canonQ md ops m (listed.setIfInBounds i true) bar r
  | listed, bar, .ef i r => (Region.ready md ops listed == [i]) && canonQ md ops m (listed.setIfInBounds i true) (bar || decide (m ≤ i)) r
  | listed, bar, .fk i j r s => (Region.ready md ops listed == [i, j]) && (Nat.beq r.len s.len && (canonQ md ops m (listed.setIfInBounds i true) (bar || decide (m ≤ i)) r && canonQ md ops m (listed.setIfInBounds j true) (bar || decide (m ≤ j)) s))
  | listed, bar, .f3 i j k r s u => (Region.ready md ops listed == [i, j, k]) && (Nat.beq r.len s.len && (Nat.beq r.len u.len && (canonQ md ops m (listed.setIfInBounds i true) (bar || decide (m ≤ i)) r && (canonQ md ops m (listed.setIfInBounds j true) (bar || decide (m ≤ j)) s && canonQ md ops m (listed.setIfInBounds k true) (bar || decide (m ≤ k)) u))))
def drawnQ (ops : Array Oper) (m : Nat) (p : Qt) : Bool :=
  Region.noSelect ops && tailB .any ops m && decide (p.len = ops.size) && canonQ .any ops m (Array.replicate ops.size false) false p
section walk
variable {P : Program} {N Be : Nat} {Q : Post} {e : Env} {w0 : World} {H H1 : Heap} {ops : Array Oper} {ty : TypeId} {pos : String} {after : Array Edge} {d i m : Nat}
def wlkQ (P : Program) (N Be : Nat) (ops : Array Oper) (m : Nat) (Q : Post) (H1 : Heap) : Qt → Env → World → Heap → Prop
  | .nil, e, w0, H => Q .normal e w0 H
  | .rd i r, e, w0, H => ∃ (o : Oper) (d : Nat) (G : Bool) (v : Value), ops[i]? = some o ∧ o.dst = some d ∧ d < N ∧ Gd ops e o.guard G ∧ Ex P Be w0 H1 G e o.op o.type v ∧ wlkQ P N Be ops m Q H1 r ((d, G, v) :: e) w0 H
  | .ef i r, e, w0, H => ∃ o : Oper, ops[i]? = some o ∧ Spl P N Be ops (fun x e' w0' H' => x = .normal ∧ w0' = w0 ∧ (i < m → HKeep w0 H1 H') ∧ wlkQ P N Be ops m Q H1 r e' w0' H') [o] e w0 H
  | .fk i j r s, e, w0, H => (∃ o : Oper, ops[i]? = some o ∧ Spl P N Be ops (fun x e' w0' H' => x = .normal ∧ w0' = w0 ∧ (i < m → HKeep w0 H1 H') ∧ wlkQ P N Be ops m Q H1 r e' w0' H') [o] e w0 H) ∧
      ∃ o : Oper, ops[j]? = some o ∧ Spl P N Be ops (fun x e' w0' H' => x = .normal ∧ w0' = w0 ∧ (j < m → HKeep w0 H1 H') ∧ wlkQ P N Be ops m Q H1 s e' w0' H') [o] e w0 H
  | .f3 i j k r s u, e, w0, H => (∃ o : Oper, ops[i]? = some o ∧ Spl P N Be ops (fun x e' w0' H' => x = .normal ∧ w0' = w0 ∧ (i < m → HKeep w0 H1 H') ∧ wlkQ P N Be ops m Q H1 r e' w0' H') [o] e w0 H) ∧ (∃ o : Oper, ops[j]? = some o ∧ Spl P N Be ops (fun x e' w0' H' => x = .normal ∧ w0' = w0 ∧ (j < m → HKeep w0 H1 H') ∧ wlkQ P N Be ops m Q H1 s e' w0' H') [o] e w0 H) ∧ ∃ o : Oper, ops[k]? = some o ∧ Spl P N Be ops (fun x e' w0' H' => x = .normal ∧ w0' = w0 ∧ (k < m → HKeep w0 H1 H') ∧ wlkQ P N Be ops m Q H1 u e' w0' H') [o] e w0 H
def effQt (P : Program) (N Be : Nat) (ops : Array Oper) (m : Nat) (Q : Post) (H1 : Heap) (i : Nat) (r : Qt) (w0 : World) : Post := fun x e' w0' H' => x = .normal ∧ w0' = w0 ∧ (i < m → HKeep w0 H1 H') ∧ wlkQ P N Be ops m Q H1 r e' w0' H'
theorem wlq_nil (h : Q .normal e w0 H) : wlkQ P N Be ops m Q H1 .nil e w0 H := h
theorem wlq_read {r : Qt} {op : Op} {v : Value} (ho : ops[i]? = some ⟨some d, op, ty, pos, after, none⟩) (hN : Nat.blt d N = true) (hx : Ex P Be w0 H1 true e op ty v) (k : wlkQ P N Be ops m Q H1 r ((d, true, v) :: e) w0 H) :
    wlkQ P N Be ops m Q H1 (.rd i r) e w0 H := ⟨_, d, true, v, ho, rfl, by simpa [Nat.blt_eq] using hN, Gd.none, hx, k⟩
theorem wlq_read_g {r : Qt} {op : Op} {v : Value} {g : Option (Nat × Bool)} {G : Bool} (ho : ops[i]? = some ⟨some d, op, ty, pos, after, g⟩) (hN : Nat.blt d N = true) (hg : Gd ops e g G) (hx : Ex P Be w0 H1 G e op ty v) (k : wlkQ P N Be ops m Q H1 r ((d, G, v) :: e) w0 H) :
    wlkQ P N Be ops m Q H1 (.rd i r) e w0 H := ⟨_, d, G, v, ho, rfl, by simpa [Nat.blt_eq] using hN, hg, hx, k⟩
theorem wlq_eff {r : Qt} {dst : Option Tmp} {op : Op} {g : Option (Nat × Bool)} (ho : ops[i]? = some ⟨dst, op, ty, pos, after, g⟩) (h : Spl P N Be ops (effQt P N Be ops m Q H1 i r w0) [⟨dst, op, ty, pos, after, g⟩] e w0 H) : wlkQ P N Be ops m Q H1 (.ef i r) e w0 H := ⟨_, ho, h⟩
theorem wlq_fork {j : Nat} {r s : Qt} {dst dst' : Option Tmp} {op op' : Op} {g g' : Option (Nat × Bool)} {ty' : TypeId} {pos' : String} {after' : Array Edge} (ho : ops[i]? = some ⟨dst, op, ty, pos, after, g⟩) (ho' : ops[j]? = some ⟨dst', op', ty', pos', after', g'⟩)
    (h : Spl P N Be ops (effQt P N Be ops m Q H1 i r w0) [⟨dst, op, ty, pos, after, g⟩] e w0 H) (h' : Spl P N Be ops (effQt P N Be ops m Q H1 j s w0) [⟨dst', op', ty', pos', after', g'⟩] e w0 H) : wlkQ P N Be ops m Q H1 (.fk i j r s) e w0 H := ⟨⟨_, ho, h⟩, _, ho', h'⟩
theorem wlq_fork3 {j k : Nat} {r s u : Qt} {dst dst' dst2 : Option Tmp} {op op' op2 : Op} {g g' g2 : Option (Nat × Bool)} {ty' ty2 : TypeId} {pos' pos2 : String} {after' after2 : Array Edge} (ho : ops[i]? = some ⟨dst, op, ty, pos, after, g⟩) (ho' : ops[j]? = some ⟨dst', op', ty', pos', after', g'⟩) (ho2 : ops[k]? = some ⟨dst2, op2, ty2, pos2, after2, g2⟩)
    (h : Spl P N Be ops (effQt P N Be ops m Q H1 i r w0) [⟨dst, op, ty, pos, after, g⟩] e w0 H) (h' : Spl P N Be ops (effQt P N Be ops m Q H1 j s w0) [⟨dst', op', ty', pos', after', g'⟩] e w0 H) (h2 : Spl P N Be ops (effQt P N Be ops m Q H1 k u w0) [⟨dst2, op2, ty2, pos2, after2, g2⟩] e w0 H) : wlkQ P N Be ops m Q H1 (.f3 i j k r s u) e w0 H := ⟨⟨_, ho, h⟩, ⟨_, ho', h'⟩, _, ho2, h2⟩
theorem effqt {r : Qt} (h : i < m → HKeep w0 H1 H) (k : wlkQ P N Be ops m Q H1 r e w0 H) : effQt P N Be ops m Q H1 i r w0 .normal e w0 H := ⟨rfl, rfl, h, k⟩
theorem wlkQ_sound (hm' : tailB .any ops m = true) (hs : Region.noSelect ops = true) : ∀ (l : Qt) (listed : Array Bool) (bar : Bool) (a : Act) (w : World) (e : Env) (H : Heap), canonQ .any ops m listed bar l = true →
    Cl .any ops listed → Fr N e a → Hp Be w0 H w → (bar = false → Hp Be w0 H1 w) → wlkQ P N Be ops m Q H1 l e w0 H → wpI P .any ops m (Hp Be w0 H1) (fun a' w' => lift N Be Q .normal a' w') l.len listed a w := by
  intro l
  induction l with
  | nil =>
    intro listed bar a w e H hB _ hf hh _ h
    exact ⟨by simpa [canonQ] using hB, e, w0, H, hf, hh, h⟩
  | rd i r ih =>
    intro listed bar a w e H hB hcl hf hh hC h
    obtain ⟨o, d, G, v, ho, hd, hdN, hg, hx, hk⟩ := h
    simp only [canonQ, Bool.and_eq_true, Bool.not_eq_true', decide_eq_true_eq, List.contains_eq_mem] at hB
    obtain ⟨⟨⟨⟨hbar, him⟩, hr⟩, hfree⟩, hB'⟩ := hB
    have hgd := hg N a o hf rfl
    refine wpI_first (v := if G then v else undef) ho him hm' (Region.noSelect_spec hs) r.len listed a w (Region.free_spec ho hfree) hcl hr ?_ (hC hbar) (ih _ bar _ w _ H hB' (hcl.set hr) ?_ hh hC hk)
    · cases hG : G with
      | true => exact .inl ⟨by rw [hgd, hG], fun w' hw' => hx N a w' o rfl rfl hf hw' hG⟩
      | false => exact .inr ⟨by rw [hgd, hG], rfl⟩
    · rw [hd]
      cases hG : G with
      | true => exact hf.puttrue hdN
      | false => exact hf.put hdN
  | ef i r ih =>
    intro listed bar a w e H hB hcl hf hh hC h
    obtain ⟨o, ho, hk⟩ := h
    simp only [canonQ, Bool.and_eq_true, beq_iff_eq] at hB
    obtain ⟨hr, hB'⟩ := hB
    refine ⟨fun h0 => (by rw [hr] at h0; cases h0), fun j hj => ?_⟩
    rw [hr] at hj
    simp only [List.mem_singleton] at hj
    subst hj
    have hcl' := hcl.set (show j ∈ Region.ready .any ops listed by rw [hr]; exact List.mem_singleton.2 rfl)
    refine effect_sound ho hk (fun x e w H h => h.1) hf hh ?_
    rintro a' w' ⟨e', w0', H', hf', hh', _, rfl, hkeep, hk'⟩
    refine ⟨fun hjm => hh'.sub (hkeep hjm), ih _ _ a' w' e' H' hB' hcl' hf' hh' (fun hb => ?_) hk'⟩
    simp only [Bool.or_eq_false_iff, decide_eq_false_iff_not] at hb
    exact hh'.sub (hkeep (by omega))
  | fk i j r s ih1 ih2 =>
    intro listed bar a w e H hB hcl hf hh hC h
    obtain ⟨⟨o, ho, hk⟩, o2, ho2, hk2⟩ := h
    simp only [canonQ, Bool.and_eq_true, beq_iff_eq] at hB
    obtain ⟨hr, hlen, hB1, hB2⟩ := hB
    have hlen' : r.len = s.len := Nat.eq_of_beq_eq_true hlen
    refine ⟨fun h0 => (by rw [hr] at h0; cases h0), fun q hq => ?_⟩
    have hcl' := hcl.set hq
    rw [hr] at hq
    simp only [List.mem_cons, List.not_mem_nil, or_false] at hq
    rcases hq with rfl | rfl
    · refine effect_sound ho hk (fun x e w H h => h.1) hf hh ?_
      rintro a' w' ⟨e', w0', H', hf', hh', _, rfl, hkeep, hk'⟩
      refine ⟨fun hjm => hh'.sub (hkeep hjm), ih1 _ _ a' w' e' H' hB1 hcl' hf' hh' (fun hb => ?_) hk'⟩
      simp only [Bool.or_eq_false_iff, decide_eq_false_iff_not] at hb
      exact hh'.sub (hkeep (by omega))
    · refine effect_sound ho2 hk2 (fun x e w H h => h.1) hf hh ?_
      rintro a' w' ⟨e', w0', H', hf', hh', _, rfl, hkeep, hk'⟩
      refine ⟨fun hjm => hh'.sub (hkeep hjm), ?_⟩
      show wpI P .any ops m _ _ r.len _ _ _
      rw [hlen']
      refine ih2 _ _ a' w' e' H' hB2 hcl' hf' hh' (fun hb => ?_) hk'
      simp only [Bool.or_eq_false_iff, decide_eq_false_iff_not] at hb
      exact hh'.sub (hkeep (by omega))
  | f3 i j k r s u ih1 ih2 ih3 =>
    intro listed bar a w e H hB hcl hf hh hC h
    obtain ⟨⟨o, ho, hk⟩, ⟨o2, ho2, hk2⟩, o3, ho3, hk3⟩ := h
    simp only [canonQ, Bool.and_eq_true, beq_iff_eq] at hB
    obtain ⟨hr, hlen, hlen3, hB1, hB2, hB3⟩ := hB
    have hlen' : r.len = s.len := Nat.eq_of_beq_eq_true hlen
    have hlen3' : r.len = u.len := Nat.eq_of_beq_eq_true hlen3
    refine ⟨fun h0 => (by rw [hr] at h0; cases h0), fun q hq => ?_⟩
    have hcl' := hcl.set hq
    rw [hr] at hq
    simp only [List.mem_cons, List.not_mem_nil, or_false] at hq
    rcases hq with rfl | rfl | rfl
    · refine effect_sound ho hk (fun x e w H h => h.1) hf hh ?_
      rintro a' w' ⟨e', w0', H', hf', hh', _, rfl, hkeep, hk'⟩
      refine ⟨fun hjm => hh'.sub (hkeep hjm), ih1 _ _ a' w' e' H' hB1 hcl' hf' hh' (fun hb => ?_) hk'⟩
      simp only [Bool.or_eq_false_iff, decide_eq_false_iff_not] at hb
      exact hh'.sub (hkeep (by omega))
    · refine effect_sound ho2 hk2 (fun x e w H h => h.1) hf hh ?_
      rintro a' w' ⟨e', w0', H', hf', hh', _, rfl, hkeep, hk'⟩
      refine ⟨fun hjm => hh'.sub (hkeep hjm), ?_⟩
      show wpI P .any ops m _ _ r.len _ _ _
      rw [hlen']
      refine ih2 _ _ a' w' e' H' hB2 hcl' hf' hh' (fun hb => ?_) hk'
      simp only [Bool.or_eq_false_iff, decide_eq_false_iff_not] at hb
      exact hh'.sub (hkeep (by omega))
    · refine effect_sound ho3 hk3 (fun x e w H h => h.1) hf hh ?_
      rintro a' w' ⟨e', w0', H', hf', hh', _, rfl, hkeep, hk'⟩
      refine ⟨fun hjm => hh'.sub (hkeep hjm), ?_⟩
      show wpI P .any ops m _ _ r.len _ _ _
      rw [hlen3']
      refine ih3 _ _ a' w' e' H' hB3 hcl' hf' hh' (fun hb => ?_) hk'
      simp only [Bool.or_eq_false_iff, decide_eq_false_iff_not] at hb
      exact hh'.sub (hkeep (by omega))
theorem sp_drawnQ {id : Nat} {l : List Oper} (p : Qt) (m : Nat) (H1 : Heap) (hm : P.follows .mixedOrders = true) (hB : drawnQ l.toArray m p = true) (hk : HKeep w0 H1 H) (h : wlkQ P N Be l.toArray m Q H1 p e w0 H) :
    Spc P N Be (.region id l.toArray true) Q e w0 H := by
  intro a w hf hh
  simp only [drawnQ, Bool.and_eq_true, decide_eq_true_eq] at hB
  obtain ⟨⟨⟨h1, h2⟩, h3⟩, h4⟩ := hB
  refine wp_region_any hm ?_
  have := wlkQ_sound h2 h1 p _ false a _ e H h4 (Cl.start rfl) hf hh.drew (fun _ => (hh.drew).sub hk) h
  rw [h3] at this
  exact wpAny_of_wpI (fun _ _ hq => hq) _ _ _ _ this
end walk
end Go.Sy
/-
  The value of a game: board.best, walked.
-/
namespace Go.Proofs.Ytoogicafefennaa
set_option linter.unusedVariables false
open Go.RowKit Go.Sy
set_option linter.unusedVariables false
set_option linter.unusedSimpArgs false
def slC (x : Sl × List Nat) : Array Value := #[.slice x.1.a x.1.n x.1.c]
/-- What is the best of the first so many. -/
def bestN (G : GP) (d : Nat) (s : GS) (vs : List Nat) (j : Nat) : Option Nat × Nat := ((vs.take j).filter (canS s)).foldl (takeB fun v => worstF G d (stepS s v)) (none, 1 + worstF G d (waitS s))
theorem bestN_zero {G : GP} {d : Nat} {s : GS} {vs : List Nat} : bestN G d s vs 0 = (none, 1 + worstF G d (waitS s)) := by unfold bestN; rfl
theorem bestN_t {G : GP} {d j v : Nat} {s : GS} {vs : List Nat} (h : vs[j]? = some v) (hc : canS s v = true) : bestN G d s vs (j + 1) = takeB (fun v => worstF G d (stepS s v)) (bestN G d s vs j) v := by
  unfold bestN
  rw [take_succ h, List.filter_append, List.foldl_append, List.filter_cons, hc]; rfl
theorem bestN_f {G : GP} {d j v : Nat} {s : GS} {vs : List Nat} (h : vs[j]? = some v) (hc : canS s v = false) : bestN G d s vs (j + 1) = bestN G d s vs j := by
  unfold bestN
  rw [take_succ h, List.filter_append, List.filter_cons, hc]; simp
theorem bestN_all {G : GP} {d : Nat} {s : GS} {vs : List Nat} (h : G.at_ s.turn = vs) {j : Nat} (hj : vs.length ≤ j) : bestN G d s vs j = bestF G d s := by
  unfold bestN bestF
  rw [List.take_of_length_le hj, h]
theorem bestN_le {G : GP} {d j : Nat} {s : GS} {vs : List Nat} : (bestN G d s vs j).2 ≤ d + 1 := take_le _ _ (by
  show 1 + worstF G d (waitS s) ≤ d + 1
  have := worst_le G d (waitS s)
  omega)
theorem Split.four {p q r t : Nat × Obj} {R : Heap} : Split (p :: q :: r :: t :: R) [p, q, r, t] R := Split.here (A := [p, q, r, t])
section
variable {P : Program} {N Be : Nat} {Q : Post} {e : Env} {w0 : World} {H : Heap} {ops : Array Oper} {rest : List Oper} {ty : TypeId} {pos : String} {after : Array Edge} {d : Nat}
/-- A call through a function value that changes the part A of the blocks. -/
theorem spl_callMw {c : Operand} {f : FuncId} {first cap : List Value} {xs : List Operand} {ts : Array TypeId} {vs : List Value} [TFn P f] {X : Type} {V : X → Value} {AA : X → Heap} {I : X → Prop} {A R : Heap} (hN : Nat.blt d N = true) (hcv : Ev true e c (.func (.func f) first.toArray cap.toArray)) (hx : Evs true e xs vs) (hs : Split H A R)
    (hc : ∀ w, Hp Be w0 (A ++ R) w → Calls P f (first ++ vs ++ cap).toArray w (RetX Be w0 V (fun x => AA x ++ R) I))
    (k : ∀ x, I x → Spl P N Be ops Q rest ((d, true, V x) :: e) w0 (AA x ++ R)) : Spl P N Be ops Q (⟨some d, .call ⟨.value c, xs.toArray, ts⟩, ty, pos, after, none⟩ :: rest) e w0 H := by
  intro a w hf hh
  have hd : d < N := by simpa [Nat.blt_eq] using hN
  refine wpList_plain rfl fun K hK => ?_
  unfold Oper.wp
  rw [exec_call (f := f) rfl (hcv N a hf rfl) (hx N a hf rfl), Oper.upon_enter]
  simp only [List.append_toArray]
  refine (hc w (hh.perm hs)).mono ?_
  rintro en w' ⟨x, rfl, hI, hw⟩
  exact hK _ _ (k x hI _ _ (hf.puttrue hd) hw)
end
section
variable {P : Program} {N Be : Nat} {Q : Post} {e : Env} {w0 : World} {H : Heap}
/-- A cut between two statements, the first of which is entered. -/
theorem spc_cutN {c1 c2 : Code} {X : Type} (E : X → Env) (HH : X → Heap) (I : X → Prop) (h1 : Spc P N Be c1 (thenQ (fun e' w' H' => ∃ x, I x ∧ ESub (E x) e' ∧ w0 = w' ∧ HKeep w' (HH x) H') Q) e w0 H)
    (h2 : ∀ x, I x → Spc P N Be c2 Q (E x) w0 (HH x)) : Spc P N Be c1 (thenQ (fun e w H => Spc P N Be c2 Q e w H) Q) e w0 H := by
  intro a w hf hh
  refine wp_mono (h1 a w hf hh) ?_
  rintro x a w ⟨e', w0', H', q1, q2, q3⟩
  cases x with
  | normal =>
    obtain ⟨y, hI, hs, rfl, hk⟩ := q3
    exact ⟨e', _, H', q1, q2, (h2 y hI).weaken hs hk⟩
  | ret => exact ⟨e', w0', H', q1, q2, q3⟩
  | exit _ => exact ⟨e', w0', H', q1, q2, q3⟩
  | goto _ => exact ⟨e', w0', H', q1, q2, q3⟩
  | panic _ => exact ⟨e', w0', H', q1, q2, q3⟩
  | outgrown => exact ⟨e', w0', H', q1, q2, q3⟩
end
def posZ : Array Value := #[.int .i64 0, .slice none 0 0, .slice none 0 0, .int .i64 0, .int .i64 0, .int .i64 0]
attribute [local irreducible] Calls thenQ blockQ retQ jumpQ Spc Spl Spq Ex Ev Evs Gd Upd ESub HKeep Res Res1 wlk effQ wlkQ effQt Rem SrcAt Split GS.C mobj worstF bestF posC bestN
set_option maxRecDepth 100000 in
set_option maxHeartbeats 16000000 in
theorem best_succ {w0 : World} {G : GP} {b : BR} {d : Nat} {ds : List (Sl × List Nat)} (hG : G.Ok) (hg : RdGame w0 w0.heap.size G b ds) (hgm : w0.heap.size ≤ b.gm) (hW : WC w0 G b d) : BC w0 G b d := by
  intro s es ck R w hs ht hK hh
  have htl : s.turn < G.deps.length := by omega
  have hs0 : s.C[0]? = some (.int .i64 (s.turn : Int)) := GS.c0
  have hz : s.C.size = 14 := GS.size hs.ok
  have hz6 : ∀ p, (posC p).size = 6 := fun p => by unfold posC; rfl
  refine sp_enterM (vs := [_, _]) Try.func67 rfl Try.ntmps67 rfl hh ?_
  cases hgk : getL (⟨s, hs.ok⟩ : GK) es with
  | some v =>
    have hv := hK.get (k := ⟨s, hs.ok⟩) ht hgk
    dsimp only at hv
    have hv1 : ∀ z, (getL (⟨s, hs.ok⟩ : GK) es).getD z = .agg (posC (bestF G d s)) := fun z => by rw [hgk, hv]; unfold posV posC; rfl
    have hv2 : (getL (⟨s, hs.ok⟩ : GK) es).isSome = true := by rw [hgk]; rfl
    have hz6n := hz6 (bestF G d s)
    repeat (first|(apply sp_cond_t;(·exact eT rfl);(·rfl))|apply then_n|apply sp_seq|apply sp_region|apply spl_nil|apply then_r|apply sp_ret|((apply spl_pure rfl);(·(first|(refine ex_lookupOk (k:=(⟨s, hs.ok⟩ : GK)) (kv:=gkV) (g:=b.gm) (c:=ck) (hv1 _) hv2 ?_ ?_ ?_;(·exact eT rfl);(·exact eT rfl);(·exact Bk.own InH.mem))|((first|apply ex_move|apply ex_assign|apply ex_fieldAddr')<;>(exact eT rfl))|((first|apply ex_loadown|apply ex_extract)<;>(first|exact eT rfl|exact Bk.own InH.mem|rfl))|((apply ex_loadowns)<;>(first|exact eT rfl|exact Bk.own InH.mem|(assumption))))))|(apply spl_box;(·exact eT rfl);(·rfl);intro _ _)|(apply spl_alloc rfl;intro _ _)|(apply spl_stores;(·exact eT rfl);(·exact eT rfl);(·(repeat (first|exact Upd.here|apply Upd.there)));(·(rfl));(·(assumption));(·exact Ones.one)))
    (apply retX_ok rfl;(·((apply Res.ofOne;((apply Res1.cell;(·rfl);(·exact InH.mem);(·(assumption))))))))
    exact ⟨(es, ck), by unfold posV posC; rfl, hK, by (repeat (first|exact HKeep.refl|(apply HKeep.pick;(·(repeat (first|exact Rem.here|apply Rem.there))))|apply HKeep.drop (by first|assumption|omega)))⟩
  | none =>
    have hv1 : ∀ z, (getL (⟨s, hs.ok⟩ : GK) es).getD z = z := fun z => by rw [hgk]; rfl
    have hv2 : (getL (⟨s, hs.ok⟩ : GK) es).isSome = false := by rw [hgk]; rfl
    repeat (first|(apply sp_cond_f;(·exact eT rfl);(·rfl))|apply then_n|apply sp_seq|apply sp_region|apply spl_nil|apply sp_skip|((apply spl_pure rfl);(·(first|(refine ex_lookupOk (k:=(⟨s, hs.ok⟩ : GK)) (kv:=gkV) (g:=b.gm) (c:=ck) (hv1 _) hv2 ?_ ?_ ?_;(·exact eT rfl);(·exact eT rfl);(·exact Bk.own InH.mem))|((first|apply ex_move|apply ex_assign|apply ex_fieldAddr')<;>(exact eT rfl))|((first|apply ex_loadown|apply ex_extract)<;>(first|exact eT rfl|exact Bk.own InH.mem|rfl))|((apply ex_loadowns)<;>(first|exact eT rfl|exact Bk.own InH.mem|(assumption))))))|(apply spl_box;(·exact eT rfl);(·rfl);intro _ _)|(apply spl_alloc rfl;intro _ _)|(apply spl_stores;(·exact eT rfl);(·exact eT rfl);(·(repeat (exact Upd.here)));(·(rfl));(·(rfl));(·exact ones_of_all rfl)))
    rename_i gB hgB gS hgS gR hgR g5 hg5
    have hlt : s.turn < b.dl.n := by rw [hg.n]; exact htl
    obtain ⟨add, y, hAd, hbd, hy, hszd, hcd⟩ := hg.rows.at_ hlt
    have hrow := hg.row y (List.mem_of_getElem? hy)
    have hat : G.at_ s.turn = y.2 := by
      unfold GP.at_
      rw [hg.deps, List.getD_eq_getElem?_getD, List.getElem?_map, hy]; rfl
    have hvs : ∀ v ∈ y.2, v < 6 := fun v hv => by
      have := hG.v s.turn v (by rw [hat]; exact hv)
      have := hG.m
      omega
    have hbd2 := hrow.bound
    have hwl := worst_le G d (waitS s)
    have hn12 := hG.n
    have hadd : (1 : Int) + ((worstF G d (waitS s) : Nat) : Int) = ((1 + worstF G d (waitS s) : Nat) : Int) := by omega
    have hpc : #[.int .i64 0, .slice none 0 0, .slice none 0 0, .int .i64 0, .int .i64 (-1), .int .i64 ((1 + worstF G d (waitS s) : Nat) : Int)] = posC (bestN G d s y.2 0) := by rw [bestN_zero]; unfold posC; rfl
    have hz6n := hz6 (bestN G d s y.2 0)
    have hwt : (waitS s).turn + d = G.deps.length := by show s.turn + 1 + d = _; omega
    have hwi := waitS_in hG hs htl
    refine spc_cutN (X := Nat × List (GK × Value × Nat) × Nat) (fun x => [(7, true, .pointer (some ⟨x.1, 0, none⟩)), (2, true, .pointer (some ⟨gB, 0, none⟩)), (3, true, .pointer (some ⟨gS, 0, none⟩)), (4, true, .pointer (some ⟨gR, 0, none⟩))]) (fun x => (b.gm, mobj gkV x.2.1 x.2.2) :: (x.1, .cells (posC (bestN G d s y.2 0)) 100 (0, 0)) :: (gB, .cells b.C 78 (0, 0)) :: (gS, .cells s.C 82 (0, 0)) :: (gR, .cells posZ 100 (0, 0)) :: R) (fun x => w0.heap.size ≤ x.1 ∧ KI G x.2.1) ?_ ?_
    · refine sp_drawnQ (.rd 0 (.rd 1 (.fk 2 6 (.fk 3 6 (.rd 4 (.rd 5 (.ef 6 (.ef 7 .nil)))) (.ef 3 (.rd 4 (.rd 5 (.ef 7 .nil))))) (.ef 2 (.ef 3 (.rd 4 (.rd 5 (.ef 7 .nil)))))))) 8 _ mixed (by kernel_rfl) (HKeep.keep (HKeep.keep (HKeep.keep (HKeep.keep (HKeep.drop hgm HKeep.refl))))) ?_
      repeat (first|(exact ⟨(g7, es2, ck2), ⟨hg7, hK2⟩, (by (repeat (first|exact ESub.nil|apply ESub.cons rfl))), rfl, (by (repeat (first|exact HKeep.refl|apply HKeep.keep|(apply HKeep.pick;(·(repeat (first|exact Rem.here|apply Rem.there))))|apply HKeep.drop (by first|assumption|omega))))⟩)|(apply spl_callp rfl;(·(repeat (first|exact eN|(apply eS;(·(first|exact eT rfl|exact eC))))));(·exact fun w' hh => after_c (c := none) hG hs htl (fun u hu => by cases hu)))|(apply spl_callM (X:=List (GK × Value × Nat) × Nat) (V:=fun _ => .int .i64 ((worstF G d (waitS s) : Nat) : Int)) (A:=[(b.gm, mobj gkV es ck)]) (AA:=fun y => [(b.gm, mobj gkV y.1 y.2)]) (I:=fun y => KI G y.1) rfl;(·(repeat (first|exact eN|(apply eS;(·exact eT rfl)))));(·(repeat (first|exact Split.one|apply Split.cons)));(·exact fun w' hh => hW (waitS s) es ck _ w' hwi hwt hK hh);(rintro ⟨es2, ck2⟩ hK2;simp only [List.cons_append, List.nil_append]))|(apply spl_alloc rfl;intro g7 hg7)|((apply wlq_read rfl rfl);(·(first|(apply ex_addK hadd;(·exact eC);(·exact eT rfl);(·(constructor<;>omega)))|(apply ex_buildE (r:=posC (bestN G d s y.2 0));(·(repeat (first|exact eN|(apply eS;(·(first|exact eT rfl|exact eC))))));(·rfl);(·exact hpc))|((apply ex_loadowns)<;>(first|exact eT rfl|exact Bk.own InH.mem|(first|rfl|assumption))))))|apply wlq_nil|apply wlq_eff rfl|apply wlq_fork rfl rfl|(apply effqt;(·(intro h_;((repeat (first|exact HKeep.refl|apply HKeep.keep|(apply HKeep.pick;(·(repeat (first|exact Rem.here|apply Rem.there))))|apply HKeep.drop (by first|assumption|omega)))))))|apply then_n|apply spl_nil|(apply spl_stores;(·exact eT rfl);(·exact eT rfl);(·(repeat (first|exact Upd.here|apply Upd.there)));(·(rfl));(·(assumption));(·exact Ones.one)))
    · rintro ⟨g7, es1, ck1⟩ ⟨hg7, hK1⟩
      dsimp only at hg7 hK1 ⊢
      repeat (first|apply then_n|apply sp_seq|apply sp_region|apply spl_nil|apply sp_block|((apply spl_pure rfl);(·(first|(apply ex_indexAddr;(·exact eT rfl);(·exact eT rfl);(·exact hAd);(·exact hlt))|(apply ex_loadfield (ad:=add) (i:=s.turn) (k:=0);(·exact eT rfl);(·exact hg.rows);(·exact hAd);(·exact hy);(·rfl))|((first|apply ex_move|apply ex_assign|apply ex_fieldAddr'|apply ex_len)<;>(first|exact eT rfl|exact eC))|((apply ex_loadown)<;>(first|exact eT rfl|exact Bk.own InH.mem|rfl|assumption))|((apply ex_makeFunc)<;>(((repeat (first|exact eN|(apply eS;(·exact eT rfl))));done)))))))
      refine sp_loop (X := Nat × List (GK × Value × Nat) × Nat) (fun x => [(35, true, .int .i64 (x.1 : Int)), (34, true, .int .i64 (y.1.n : Int)), (33, true, .slice y.1.a y.1.n y.1.c), (8, true, .func (.func 94) #[] #[.pointer (some ⟨gB, 0, none⟩), .pointer (some ⟨gS, 0, none⟩), .pointer (some ⟨g7, 0, none⟩)]), (7, true, .pointer (some ⟨g7, 0, none⟩)), (2, true, .pointer (some ⟨gB, 0, none⟩)), (3, true, .pointer (some ⟨gS, 0, none⟩)), (4, true, .pointer (some ⟨gR, 0, none⟩))]) (fun _ => w0)
        (fun x => (b.gm, mobj gkV x.2.1 x.2.2) :: (g7, .cells (posC (bestN G d s y.2 x.1)) 100 (0, 0)) :: (gB, .cells b.C 78 (0, 0)) :: (gS, .cells s.C 82 (0, 0)) :: (gR, .cells posZ 100 (0, 0)) :: R) (fun x => x.1 ≤ y.1.n ∧ KI G x.2.1) (fun x => y.1.n - x.1) (0, es1, ck1) ⟨Nat.zero_le _, hK1⟩ (by (repeat (first|exact ESub.nil|apply ESub.cons rfl))) rfl (by (repeat (exact HKeep.refl))) ?_
      clear hK hK1
      rintro ⟨j, es2, ck2⟩ ⟨hj, hK2⟩
      replace hj : j ≤ y.1.n := hj
      replace hK2 : KI G es2 := hK2
      dsimp only
      by_cases hltj : j < y.1.n
      · obtain ⟨ad2, v, hA2, hb2, hvj, hsz2, hc2⟩ := hrow.at_ hltj
        have hv6 := hvs v (List.mem_of_getElem? hvj)
        have hf7 : s.C[7 + v]? = some (.bool (gt s.failed v)) := GS.c2 hs.ok hv6
        have hs1 : s.C[1 + v]? = some (.int .i64 (sAt s v : Int)) := GS.c1 hs.ok hv6
        cases hgf : gt s.failed v with
        | true =>
          rw [hgf] at hf7
          have hbn := bestN_f (G := G) (d := d) hvj (show canS s v = false by unfold canS; rw [hgf]; rfl)
          repeat (first|(apply sp_cond_f;(·exact eT rfl);(·rfl))|apply then_n|apply block_n|apply sp_seq|apply sp_region|apply spl_nil|((apply sp_cond_t);(·exact eT rfl);(·(exact decide_eq_true (by omega))))|apply sp_skip|apply sp_block|((first|apply spl_pure rfl|(apply spl_pure_g rfl;(·exact Gd.tt rfl rfl)));(·(first|(exact ex_off rfl)|(apply ex_indexAddr;(·exact eT rfl);(·exact eT rfl);(·exact hA2);(·exact hltj))|(apply ex_loadfield (ad:=ad2) (i:=j) (k:=0);(·exact eT rfl);(·exact hrow);(·exact hA2);(·exact hvj);(·rfl))|(apply ex_indexAddrK (j:=7+v);(·exact eT rfl);(·exact eT rfl);(·exact hv6);(·omega))|((first|apply ex_move|apply ex_assign|apply ex_fieldAddr'|apply ex_not|apply ex_lss|apply ex_andT)<;>(first|exact eT rfl|exact eG rfl))|(apply ex_addn<;>(first|exact eT rfl|exact eC|(constructor<;>omega)))|((apply ex_loadown)<;>(first|exact eT rfl|exact Bk.own InH.mem|assumption))))))
          exact ⟨(j + 1, es2, ck2), ⟨hltj, hK2⟩, by (show y.1.n - (j + 1) < y.1.n - j; omega), (by (repeat (first|exact ESub.nil|apply ESub.cons rfl))), rfl, (by dsimp only; rw [hbn]; (repeat (exact HKeep.refl)))⟩
        | false =>
          rw [hgf] at hf7
          by_cases hps : 0 < sAt s v
          · have hpi : (0 : Int) < (sAt s v : Int) := by omega
            have hbn := bestN_t (G := G) (d := d) hvj (show canS s v = true by unfold canS; rw [hgf, decide_eq_true hps]; rfl)
            have hcall := fun (w2 : World) (hh2 : Hp w0.heap.size w0 ([(b.gm, mobj gkV es2 ck2), (g7, .cells (posC (bestN G d s y.2 j)) 100 (0, 0)), (gB, .cells b.C 78 (0, 0)), (gS, .cells s.C 82 (0, 0))] ++ ((gR, .cells posZ 100 (0, 0)) :: R)) w2) => consider_c (v := v) hG hgm hW hs ht hv6 hps hK2 hh2
            repeat (first|(apply sp_cond_t;(·exact eT rfl);(·rfl))|(apply spl_callMw (f:=94) (first:=[]) (cap:=[.pointer (some ⟨gB, 0, none⟩), .pointer (some ⟨gS, 0, none⟩), .pointer (some ⟨g7, 0, none⟩)]) (X:=List (GK × Value × Nat) × Nat) (V:=fun _ => .tuple #[]) (A:=[(b.gm, mobj gkV es2 ck2), (g7, .cells (posC (bestN G d s y.2 j)) 100 (0, 0)), (gB, .cells b.C 78 (0, 0)), (gS, .cells s.C 82 (0, 0))]) (AA:=fun x => [(b.gm, mobj gkV x.1 x.2), (g7, .cells (posC (takeB (fun v => worstF G d (stepS s v)) (bestN G d s y.2 j) v)) 100 (0, 0)), (gB, .cells b.C 78 (0, 0)), (gS, .cells s.C 82 (0, 0))]) (I:=fun x => KI G x.1) rfl;(·exact eT rfl);(·(repeat (first|exact eN|(apply eS;(·exact eT rfl)))));(·exact Split.four);(·exact hcall);(rintro ⟨es3, ck3⟩ hK3;simp only [List.cons_append, List.nil_append]))|apply then_n|apply block_n|apply sp_seq|apply sp_region|apply spl_nil|((apply sp_cond_t);(·exact eT rfl);(·(exact decide_eq_true (by omega))))|apply sp_skip|apply sp_block|((first|apply spl_pure rfl|(apply spl_pure_g rfl;(·exact Gd.tt rfl rfl)));(·(first|(apply ex_indexAddr;(·exact eT rfl);(·exact eT rfl);(·exact hA2);(·exact hltj))|(apply ex_loadfield (ad:=ad2) (i:=j) (k:=0);(·exact eT rfl);(·exact hrow);(·exact hA2);(·exact hvj);(·rfl))|(apply ex_indexAddrK (j:=7+v);(·exact eT rfl);(·exact eT rfl);(·exact hv6);(·omega))|(apply ex_indexAddrK (j:=1+v);(·exact eT rfl);(·exact eT rfl);(·exact hv6);(·omega))|(apply ex_gtrT hpi;(·exact eT rfl);(·exact eC))|((first|apply ex_move|apply ex_assign|apply ex_fieldAddr'|apply ex_not|apply ex_lss|apply ex_andT)<;>(exact eT rfl))|(apply ex_addn<;>(first|exact eT rfl|exact eC|(constructor<;>omega)))|((apply ex_loadown)<;>(first|exact eT rfl|exact Bk.own InH.mem|assumption))))))
            exact ⟨(j + 1, es3, ck3), ⟨hltj, hK3⟩, by (show y.1.n - (j + 1) < y.1.n - j; omega), (by (repeat (first|exact ESub.nil|apply ESub.cons rfl))), rfl, (by dsimp only; rw [hbn]; (repeat (exact HKeep.refl)))⟩
          · have hpi : ¬ (0 : Int) < (sAt s v : Int) := by omega
            have hbn := bestN_f (G := G) (d := d) hvj (show canS s v = false by unfold canS; rw [hgf, decide_eq_false hps]; rfl)
            repeat (first|(apply sp_cond_f;(·exact eT rfl);(·rfl))|apply then_n|apply block_n|apply sp_seq|apply sp_region|apply spl_nil|((apply sp_cond_t);(·exact eT rfl);(·(exact decide_eq_true (by omega))))|apply sp_skip|apply sp_block|((first|apply spl_pure rfl|(apply spl_pure_g rfl;(·exact Gd.tt rfl rfl)));(·(first|(apply ex_indexAddr;(·exact eT rfl);(·exact eT rfl);(·exact hA2);(·exact hltj))|(apply ex_loadfield (ad:=ad2) (i:=j) (k:=0);(·exact eT rfl);(·exact hrow);(·exact hA2);(·exact hvj);(·rfl))|(apply ex_indexAddrK (j:=7+v);(·exact eT rfl);(·exact eT rfl);(·exact hv6);(·omega))|(apply ex_indexAddrK (j:=1+v);(·exact eT rfl);(·exact eT rfl);(·exact hv6);(·omega))|(apply ex_gtrF hpi;(·exact eT rfl);(·exact eC))|((first|apply ex_move|apply ex_assign|apply ex_fieldAddr'|apply ex_not|apply ex_lss|apply ex_andT)<;>(exact eT rfl))|(apply ex_addn<;>(first|exact eT rfl|exact eC|(constructor<;>omega)))|((apply ex_loadown)<;>(first|exact eT rfl|exact Bk.own InH.mem|assumption))))))
            exact ⟨(j + 1, es2, ck2), ⟨hltj, hK2⟩, by (show y.1.n - (j + 1) < y.1.n - j; omega), (by (repeat (first|exact ESub.nil|apply ESub.cons rfl))), rfl, (by dsimp only; rw [hbn]; (repeat (exact HKeep.refl)))⟩
      · have hje : y.2.length ≤ j := by have := hrow.len; omega
        have hall := bestN_all (G := G) (d := d) hat hje
        rw [hall]
        have hz6b := hz6 (bestF G d s)
        have hput := hK2.put (k := ⟨s, hs.ok⟩) (c := ck2) ht
        have hpv : posV (bestF G d s) = .agg (posC (bestF G d s)) := by unfold posV posC; rfl
        dsimp only at hput
        rw [hpv] at hput
        have hzZ : posZ.size = 6 := by unfold posZ; rfl
        repeat (first|(refine spl_mapUpdate (k:=(⟨s, hs.ok⟩ : GK)) (kv:=gkV) (g:=b.gm) (c:=ck2) (es:=es2) (v:=.agg (posC (bestF G d s))) (H':=(b.gm, mobj gkV (putL (⟨s, hs.ok⟩ : GK) (.agg (posC (bestF G d s))) ck2 es2) (tick (⟨s, hs.ok⟩ : GK) ck2 es2)) :: (g7, .cells (posC (bestF G d s)) 100 (0, 0)) :: (gB, .cells b.C 78 (0, 0)) :: (gS, .cells s.C 82 (0, 0)) :: (gR, .cells posZ 100 (0, 0)) :: R) ?_ ?_ ?_ Upd.here ?_;(·exact eT rfl);(·exact eT rfl);(·exact eT rfl))|apply then_n|apply sp_seq|apply sp_region|apply spl_nil|apply then_e|apply block_here|(apply sp_cond_f;(·exact eT rfl);(·(exact decide_eq_false (by omega))))|apply sp_ret|apply sp_exit|((apply spl_pure rfl);(·(first|((first|apply ex_fieldAddr'|apply ex_lss)<;>(exact eT rfl))|((apply ex_loadown)<;>(first|exact eT rfl|exact Bk.own InH.mem|rfl))|((apply ex_loadowns)<;>(first|exact eT rfl|exact Bk.own InH.mem|(assumption))))))|(apply spl_stores;(·exact eT rfl);(·exact eT rfl);(·(repeat (first|exact Upd.here|apply Upd.there)));(·(rfl));(·(assumption));(·exact Ones.one)))
        (apply retX_ok rfl;(·((apply Res.ofOne;((apply Res1.cell;(·rfl);(·exact InH.mem);(·(assumption))))))))
        exact ⟨(_, _), by rw [hpv], hput, by (repeat (first|exact HKeep.refl|apply HKeep.keep|apply HKeep.drop (by first|assumption|omega)))⟩
end Go.Proofs.Ytoogicafefennaa
/-
  Contracts: game.Valid.
-/
namespace Go.Proofs.Ytoogicafefennaa
set_option linter.unusedVariables false
open Go.RowKit Go.Sy
set_option linter.unusedVariables false
set_option linter.unusedSimpArgs false
theorem worst_all {w0 : World} {G : GP} {b : BR} {ds : List (Sl × List Nat)} (hG : G.Ok) (hg : RdGame w0 w0.heap.size G b ds) (hgm : w0.heap.size ≤ b.gm) : ∀ d, WC w0 G b d
  | 0 => worst_zero hg.n
  | d + 1 => worst_succ hG hg.m hg.n hgm (best_succ hG hg hgm (worst_all hG hg hgm d))
/-- A game as it is read. -/
structure GaR where
  sl : Sl
  starts : List Int
  dl : Sl
  deps : List (Sl × List Int)
  bd : Int
def GaR.C (g : GaR) : Array Value := #[.slice g.sl.a g.sl.n g.sl.c, .slice g.dl.a g.dl.n g.dl.c, .int .i64 g.bd]
instance GaR.one (g : GaR) : Ones g.C := ⟨by intro v hv; simp [GaR.C] at hv; rcases hv with h | h | h <;> subst h <;> rfl⟩
def slI (x : Sl × List Int) : Array Value := #[.slice x.1.a x.1.n x.1.c]
structure RdGa (w : World) (Be : Nat) (g : GaR) : Prop where
  st : RdS w Be 1 intC g.sl.a g.sl.n g.starts
  rows : RdS w Be 1 slI g.dl.a g.dl.n g.deps
  row : ∀ x ∈ g.deps, RdS w Be 1 intC x.1.a x.1.n x.2
theorem RdGa.hp {w0 w : World} {Be : Nat} {H : Heap} {g : GaR} (h : RdGa w0 Be g) (hh : Hp Be w0 H w) : RdGa w w.heap.size g := ⟨h.st.hp' hh, h.rows.hp' hh, fun x hx => (h.row x hx).hp' hh⟩
theorem RdGa.to {w w' : World} {g : GaR} (h : RdGa w w.heap.size g) (hb : Below w.heap.size w w') : RdGa w' w'.heap.size g := ⟨h.st.to hb, h.rows.to hb, fun x hx => (h.row x hx).to hb⟩
def headG (g : GaR) : Bool := ((decide ((6 : Int) < (g.sl.n : Int)) || decide ((12 : Int) < (g.dl.n : Int))) || decide (g.bd < 0)) || decide (3 < g.bd)
def badS (n : Int) : Bool := decide (n < 0) || decide (12 < n)
def badD (g : GaR) (x : Sl × List Int) : Bool := !incr g.sl.n (-1) x.2
def validG (g : GaR) : Bool := !headG g && (!g.starts.any badS && !g.deps.any (badD g))
attribute [local irreducible] Calls thenQ blockQ retQ jumpQ Spc Spl Spq Ex Ev Evs Gd Upd ESub HKeep Res Res1 wlk effQ Rem SrcAt Split
set_option maxRecDepth 100000 in
theorem badS_c {w : World} {k : Int} : Calls Try.prog 82 #[.int .i64 k] w (Ret w (.bool (badS k))) := by
  refine sp_enter (vs := [_]) Try.func82 rfl Try.ntmps82 rfl ?_
  repeat (first|apply then_n|apply sp_seq|apply sp_region|apply spl_nil|apply sp_ret|((first|apply spl_pure rfl|(apply spl_pure_g rfl;(·exact Gd.tf rfl rfl)));(·(first|((first|apply ex_move|apply ex_assign|apply ex_lss|apply ex_gtr)<;>(first|exact eT rfl|exact eC|exact eG rfl))|((apply ex_orT)<;>(first|exact eT rfl|exact eG rfl))))))
  (apply ret_ok rfl;(·((apply Res.ofOne;((apply Res1.tmp;(·rfl))))))); rfl
set_option maxRecDepth 100000 in
set_option maxHeartbeats 4000000 in
theorem badD_c {w : World} {g1 : Nat} {g : GaR} {x : Sl × List Int} {T : TypeId} (hg : w.heap[g1]? = some (.cells g.C T (0, 0))) (h : RdS w w.heap.size 1 intC x.1.a x.1.n x.2) :
    Calls Try.prog 84 #[.slice x.1.a x.1.n x.1.c, .pointer (some ⟨g1, 0, none⟩)] w (Ret w (.bool (badD g x))) := by
  obtain ⟨⟨A, n, c⟩, xs⟩ := x
  dsimp only at h
  have hbd := h.bound
  show Calls _ _ #[.slice A n c, _] _ (Ret w (.bool (!incr g.sl.n (-1) xs)))
  refine sp_enter (vs := [_, _]) Try.func84 rfl Try.ntmps84 rfl ?_
  repeat (first|apply then_n|apply sp_seq|apply sp_region|apply spl_nil|apply sp_block|((apply spl_pure rfl);(·(((first|apply ex_move|apply ex_assign|apply ex_len)<;>(first|exact eT rfl|exact eC))))))
  refine sp_loop (X := Nat × Int) (fun y => [(9, true, .int .i64 (y.1 : Int)), (4, true, .int .i64 y.2), (8, true, .int .i64 (n : Int)), (7, true, .slice A n c), (1, true, .pointer (some ⟨g1, 0, none⟩))]) (fun _ => w) (fun _ => []) (fun y => y.1 ≤ n ∧ incr g.sl.n (-1) xs = incr g.sl.n y.2 (xs.drop y.1)) (fun y => n - y.1) (0, -1) ⟨Nat.zero_le _, rfl⟩ (by (repeat (first|exact ESub.nil|apply ESub.cons rfl))) rfl (by (repeat (exact HKeep.refl))) ?_
  rintro ⟨j, last⟩ ⟨hj, hinv⟩
  replace hj : j ≤ n := hj
  replace hinv : incr g.sl.n (-1) xs = incr g.sl.n last (xs.drop j) := hinv
  dsimp only
  by_cases hlt : j < n
  · obtain ⟨ad, k, hA, hb, hk, hsz, hc⟩ := h.at_ hlt
    rw [incr_at hk] at hinv
    obtain ⟨hd, hhd⟩ : ∃ b, b = (decide (k ≤ last) || !decide (k < (g.sl.n : Int))) := ⟨_, rfl⟩
    have hcond : (decide (k ≤ last) || decide ((g.sl.n : Int) ≤ k)) = hd := by
      rw [hhd, show decide ((g.sl.n : Int) ≤ k) = !decide (k < (g.sl.n : Int)) by rw [Bool.eq_iff_iff]; simp]
    rw [← hhd] at hinv
    cases hd with
    | true =>
      rw [show (!true && incr g.sl.n k (xs.drop (j + 1))) = false from rfl] at hinv
      rw [hinv]
      repeat (first|(apply sp_cond_t;(·exact eT rfl);(·exact hcond))|apply then_n|apply sp_seq|apply sp_region|apply spl_nil|apply then_r|apply block_r|((apply sp_cond_t);(·exact eT rfl);(·(exact decide_eq_true (by omega))))|apply sp_skip|apply sp_ret|apply sp_block|((first|apply spl_pure rfl|(apply spl_pure_g rfl;(·exact Gd.tf rfl rfl)));(·(first|(apply ex_loadfield (ad:=ad) (i:=j) (k:=0);(·exact eT rfl);(·exact h);(·exact hA);(·exact hk);(·rfl))|((first|apply ex_move|apply ex_assign|apply ex_fieldAddr'|apply ex_lss|apply ex_leq|apply ex_geq|apply ex_len)<;>(first|exact eT rfl|exact eC|exact eG rfl))|((apply ex_orT)<;>(first|exact eT rfl|exact eG rfl))|((first|apply ex_loadown|apply ex_indexAddr)<;>(first|exact eT rfl|exact eG rfl|exact Bk.old (by assumption) (Nat.le_refl _)|rfl|assumption))))))
      (apply ret_ok rfl;(·((apply Res.ofOne;((apply Res1.tmp;(·rfl))))))); rfl
    | false =>
      rw [show (!false && incr g.sl.n k (xs.drop (j + 1))) = incr g.sl.n k (xs.drop (j + 1)) from rfl] at hinv
      repeat (first|(apply sp_cond_f;(·exact eT rfl);(·exact hcond))|apply then_n|apply block_n|apply sp_seq|apply sp_region|apply spl_nil|((apply sp_cond_t);(·exact eT rfl);(·(exact decide_eq_true (by omega))))|apply sp_skip|apply sp_block|((first|apply spl_pure rfl|(apply spl_pure_g rfl;(·exact Gd.tf rfl rfl)));(·(first|(apply ex_loadfield (ad:=ad) (i:=j) (k:=0);(·exact eT rfl);(·exact h);(·exact hA);(·exact hk);(·rfl))|((first|apply ex_move|apply ex_assign|apply ex_fieldAddr'|apply ex_lss|apply ex_leq|apply ex_geq|apply ex_len)<;>(first|exact eT rfl|exact eG rfl))|((apply ex_orT)<;>(first|exact eT rfl|exact eG rfl))|(apply ex_addn<;>(first|exact eT rfl|exact eC|(constructor<;>omega)))|((first|apply ex_loadown|apply ex_indexAddr)<;>(first|exact eT rfl|exact eG rfl|exact Bk.old (by assumption) (Nat.le_refl _)|rfl|assumption))))))
      exact ⟨(j + 1, k), ⟨hlt, hinv⟩, by (show n - (j + 1) < n - j; omega), (by (repeat (first|exact ESub.nil|apply ESub.cons rfl))), rfl, (by (repeat (exact HKeep.refl)))⟩
  · have := h.len
    rw [List.drop_eq_nil_of_le (by omega)] at hinv
    rw [hinv, show incr g.sl.n last [] = true from rfl]
    repeat (first|apply then_n|apply sp_seq|apply sp_region|apply spl_nil|apply then_e|apply block_here|(apply sp_cond_f;(·exact eT rfl);(·(exact decide_eq_false (by omega))))|apply sp_ret|apply sp_exit|((apply spl_pure rfl);(·(((first|apply ex_assign|apply ex_lss)<;>(first|exact eT rfl|exact eC))))))
    (apply ret_ok rfl;(·((apply Res.ofOne;((apply Res1.tmp;(·rfl))))))); rfl
set_option maxRecDepth 100000 in
set_option maxHeartbeats 4000000 in
theorem idxs_c {w : World} {A : Option Addr} {n c : Nat} {xs : List (Sl × List Int)} {f : Nat} [TFn Try.prog f] {cap : List Value} {p : Sl × List Int → Bool} (h : RdS w w.heap.size 1 slI A n xs)
    (hf : ∀ w', Below w.heap.size w w' → ∀ k ∈ xs, Calls Try.prog f (Value.slice k.1.a k.1.n k.1.c :: cap).toArray w' (Ret w' (.bool (p k)))) :
    Calls Try.prog 98 #[.slice A n c, .func (.func f) #[] cap.toArray] w (Ret w (.int .i64 (idx xs p))) := by
  have hbd := h.bound
  refine sp_enter (vs := [_, _]) Try.func98 rfl Try.ntmps98 rfl ?_
  repeat (first|apply then_n|apply sp_seq|apply sp_region|apply spl_nil|apply sp_block|((apply spl_pure rfl);(·(((first|apply ex_move|apply ex_assign|apply ex_len)<;>(first|exact eT rfl|exact eC))))))
  refine sp_loop (X := Nat) (fun k => [(8, true, .int .i64 k), (7, true, .int .i64 n), (0, true, .slice A n c), (1, true, .func (.func f) #[] cap.toArray)]) (fun _ => w) (fun _ => []) (fun k => k ≤ n ∧ (xs.take k).any p = false) (fun k => n - k) 0 ⟨Nat.zero_le _, rfl⟩ (by (repeat (first|exact ESub.nil|apply ESub.cons rfl))) rfl (by (repeat (exact HKeep.refl))) ?_
  rintro k ⟨hk, hno⟩
  by_cases hlt : k < n
  · obtain ⟨ad, x, hA, hb, hx, hsz, hc⟩ := h.at_ hlt
    have hfx := fun w' (hh : Below w.heap.size w w') => hf w' hh x (List.mem_of_getElem? hx)
    cases hp : p x with
    | true =>
      rw [hp] at hfx
      repeat (first|(apply spl_callv (f:=f) (first:=[]) (cap:=cap) rfl;(·exact eT rfl);(·(repeat (first|exact eN|(apply eS;(·exact eT rfl)))));(·exact fun w' hh => hfx w' hh.belowBe))|apply then_n|apply sp_seq|apply sp_region|apply spl_nil|apply then_r|apply block_r|((apply sp_cond_t);(·exact eT rfl);(·(first|exact decide_eq_true (by omega)|rfl)))|apply sp_skip|apply sp_ret|apply sp_block|((apply spl_pure rfl);(·(first|(apply ex_loadfield (ad:=ad) (i:=k) (k:=0);(·exact eT rfl);(·exact h);(·exact hA);(·exact hx);(·rfl))|((first|apply ex_move|apply ex_assign|apply ex_lss)<;>(exact eT rfl))|((apply ex_indexAddr)<;>(first|exact eT rfl|assumption))))))
      (apply ret_ok rfl;(·((apply Res.ofOne;((apply Res1.tmp;(·rfl))))))); rw [idx_hit hno hx hp]
    | false =>
      rw [hp] at hfx
      repeat (first|(apply spl_callv (f:=f) (first:=[]) (cap:=cap) rfl;(·exact eT rfl);(·(repeat (first|exact eN|(apply eS;(·exact eT rfl)))));(·exact fun w' hh => hfx w' hh.belowBe))|apply then_n|apply block_n|apply sp_seq|apply sp_region|apply spl_nil|((apply sp_cond_t);(·exact eT rfl);(·(exact decide_eq_true (by omega))))|(apply sp_cond_f;(·exact eT rfl);(·(rfl)))|apply sp_skip|apply sp_block|((apply spl_pure rfl);(·(first|(apply ex_loadfield (ad:=ad) (i:=k) (k:=0);(·exact eT rfl);(·exact h);(·exact hA);(·exact hx);(·rfl))|((first|apply ex_move|apply ex_assign|apply ex_lss)<;>(exact eT rfl))|(apply ex_addn<;>(first|exact eT rfl|exact eC|(constructor<;>omega)))|((apply ex_indexAddr)<;>(first|exact eT rfl|assumption))))))
      exact ⟨k + 1, ⟨hlt, any_miss hno hx hp⟩, by (show n - (k + 1) < n - k; omega), (by (repeat (first|exact ESub.nil|apply ESub.cons rfl))), rfl, (by (repeat (exact HKeep.refl)))⟩
  ·
    repeat (first|apply then_n|apply sp_seq|apply sp_region|apply spl_nil|apply then_e|apply block_here|(apply sp_cond_f;(·exact eT rfl);(·(exact decide_eq_false (by omega))))|apply sp_ret|apply sp_exit|((apply spl_pure rfl);(·(((first|apply ex_assign|apply ex_lss)<;>(first|exact eT rfl|exact eC))))))
    (apply ret_ok rfl;(·((apply Res.ofOne;((apply Res1.tmp;(·rfl))))))); rw [idx_none hno (by rw [h.len]; omega)]
set_option maxRecDepth 100000 in
set_option maxHeartbeats 4000000 in
theorem anys_c {w : World} {A : Option Addr} {n c : Nat} {xs : List (Sl × List Int)} {f : Nat} [TFn Try.prog f] {cap : List Value} {p : Sl × List Int → Bool} (h : RdS w w.heap.size 1 slI A n xs)
    (hf : ∀ w', Below w.heap.size w w' → ∀ k ∈ xs, Calls Try.prog f (Value.slice k.1.a k.1.n k.1.c :: cap).toArray w' (Ret w' (.bool (p k)))) :
    Calls Try.prog 83 #[.slice A n c, .func (.func f) #[] cap.toArray] w (Ret w (.bool (xs.any p))) := by
  refine sp_enter (vs := [_, _]) Try.func83 rfl Try.ntmps83 rfl ?_
  repeat (first|(apply spl_callp rfl;(·(repeat (first|exact eN|(apply eS;(·exact eT rfl)))));(·exact fun w' hh => idxs_c (h.hp' hh) (fun w2 hb => hf w2 (hh.belowBe.trans (hb.mono (Nat.le_trans hh.be hh.size))))))|apply then_n|apply sp_seq|apply sp_region|apply spl_nil|apply sp_ret|((apply spl_pure rfl);(·(((first|apply ex_move|apply ex_assign|apply ex_geq)<;>(first|exact eT rfl|exact eC))))))
  (apply ret_ok rfl;(·((apply Res.ofOne;((apply Res1.tmp;(·rfl))))))); rw [← idx_nonneg]
set_option maxRecDepth 100000 in
set_option maxHeartbeats 4000000 in
theorem gvalid_c {w : World} {g : GaR} (h : RdGa w w.heap.size g) : Calls Try.prog 45 #[.agg g.C] w (Ret w (.bool (validG g))) := by
  obtain ⟨⟨A, n, c⟩, starts, ⟨A', n', c'⟩, deps, bd⟩ := g
  have hh0 := h
  obtain ⟨hst, hrows, hrow⟩ := h
  dsimp only at hst hrows hrow
  have hany := fun (H : Heap) (w' : World) (hh : Hp w.heap.size w H w') => anyf_c (c := c) (f := 82) (p := badS) (cap := []) (hst.hp' hh) (fun w2 hb k hm => badS_c)
  have hanys := fun (H : Heap) (w' : World) (g1 : Nat) (hh : Hp w.heap.size w H w') (hg : w'.heap[g1]? = some (.cells (GaR.C ⟨⟨A, n, c⟩, starts, ⟨A', n', c'⟩, deps, bd⟩) 47 (0, 0))) => anys_c (c := c') (f := 84) (p := badD ⟨⟨A, n, c⟩, starts, ⟨A', n', c'⟩, deps, bd⟩) (cap := [.pointer (some ⟨g1, 0, none⟩)]) (hrows.hp' hh) (fun w2 hb k hm => badD_c (old_block hg hb) (((hrow k hm).hp' hh).to hb))
  refine sp_enter (vs := [_]) Try.func45 rfl Try.ntmps45 rfl ?_
  unfold validG
  cases hH : headG ⟨⟨A, n, c⟩, starts, ⟨A', n', c'⟩, deps, bd⟩ with
  | true =>
    unfold headG at hH
    dsimp only at hH
    repeat (first|(apply sp_cond_t;(·exact eT rfl);(·exact hH))|apply then_n|apply sp_seq|apply sp_region|apply spl_nil|apply then_r|apply sp_ret|((first|apply spl_pure rfl|(apply spl_pure_g rfl;(·exact Gd.tf rfl rfl)));(·(first|((first|apply ex_move|apply ex_assign|apply ex_fieldAddr'|apply ex_lss|apply ex_gtr|apply ex_len)<;>(first|exact eT rfl|exact eC|exact eG rfl))|((apply ex_orT)<;>(first|exact eT rfl|exact eG rfl))|(apply ex_loadown<;>(first|exact eT rfl|exact eG rfl|exact Bk.own InH.mem|rfl)))))|(apply spl_box;(·exact eT rfl);(·rfl);intro _ _))
    (apply ret_ok rfl;(·((apply Res.ofOne;((apply Res1.tmp;(·rfl))))))); rfl
  | false =>
    unfold headG at hH
    dsimp only at hH
    cases hA : starts.any badS with
    | true =>
      rw [hA] at hany
      repeat (first|(apply sp_cond_f;(·exact eT rfl);(·exact hH))|(apply sp_cond_t;(·exact eT rfl);(·rfl))|(apply spl_callp rfl;(·(repeat (first|exact eN|(apply eS;(·(first|exact eT rfl|exact eF))))));(·exact fun w' hh => hany _ w' hh))|apply then_n|apply sp_seq|apply sp_region|apply spl_nil|apply then_r|apply sp_skip|apply sp_ret|((first|apply spl_pure rfl|(apply spl_pure_g rfl;(·exact Gd.tf rfl rfl)));(·(first|((first|apply ex_move|apply ex_assign|apply ex_fieldAddr'|apply ex_lss|apply ex_gtr|apply ex_len)<;>(first|exact eT rfl|exact eC|exact eG rfl))|((apply ex_orT)<;>(first|exact eT rfl|exact eG rfl))|(apply ex_loadown<;>(first|exact eT rfl|exact eG rfl|exact Bk.own InH.mem|rfl)))))|(apply spl_box;(·exact eT rfl);(·rfl);intro _ _))
      (apply ret_ok rfl;(·((apply Res.ofOne;((apply Res1.tmp;(·rfl))))))); rfl
    | false =>
      rw [hA] at hany
      repeat (first|(apply sp_cond_f;(·exact eT rfl);(·exact hH))|(apply sp_cond_f;(·exact eT rfl);(·rfl))|(apply spl_callp rfl;(·(repeat (first|exact eN|(apply eS;(·(first|exact eT rfl|exact eF))))));(·exact fun w' hh => hany _ w' hh))|(apply spl_callp rfl;(·(repeat (first|exact eN|(apply eS;(·exact eT rfl)))));(·exact fun w' hh => hanys _ w' _ hh hh.ownI))|apply then_n|apply sp_seq|apply sp_region|apply spl_nil|apply sp_skip|apply sp_ret|((first|apply spl_pure rfl|(apply spl_pure_g rfl;(·exact Gd.tf rfl rfl)));(·(first|((first|apply ex_move|apply ex_assign|apply ex_fieldAddr'|apply ex_not|apply ex_lss|apply ex_gtr|apply ex_len)<;>(first|exact eT rfl|exact eC|exact eG rfl))|((apply ex_orT)<;>(first|exact eT rfl|exact eG rfl))|(apply ex_loadown<;>(first|exact eT rfl|exact eG rfl|exact Bk.own InH.mem|rfl))|(apply ex_makeFunc<;>(((repeat (first|exact eN|(apply eS;(·exact eT rfl))));done))))))|(apply spl_box;(·exact eT rfl);(·rfl);intro _ _))
      (apply ret_ok rfl;(·((apply Res.ofOne;((apply Res1.tmp;(·rfl))))))); rfl
end Go.Proofs.Ytoogicafefennaa
/-
  Games that are valid: in plain terms; their size.
-/
namespace Go.Proofs.Ytoogicafefennaa
set_option linter.unusedVariables false
open Go.RowKit Go.Sy
set_option linter.unusedVariables false
set_option linter.unusedSimpArgs false
structure GaOk (g : GaR) : Prop where
  m : g.sl.n ≤ 6
  n : g.dl.n ≤ 12
  b0 : 0 ≤ g.bd
  b3 : g.bd ≤ 3
  s : ∀ x ∈ g.starts, 0 ≤ x ∧ x ≤ 12
  d : ∀ x ∈ g.deps, incr g.sl.n (-1) x.2 = true
theorem gaOk_of {g : GaR} (h : validG g = true) : GaOk g := by
  unfold validG headG at h
  simp only [Bool.and_eq_true, Bool.not_eq_true', Bool.or_eq_false_iff, decide_eq_false_iff_not] at h
  obtain ⟨⟨⟨⟨h1, h2⟩, h3⟩, h4⟩, h5, h6⟩ := h
  refine ⟨by omega, by omega, by omega, by omega, fun x hx => ?_, fun x hx => ?_⟩
  · have := List.any_eq_false.1 h5 x hx
    unfold badS at this
    simp only [Bool.or_eq_true, decide_eq_true_eq, not_or] at this
    omega
  · have := List.any_eq_false.1 h6 x hx
    unfold badD at this
    simpa using this
def base (g : GaR) : Nat := max 1 g.dl.n * (g.bd.toNat + 1)
def sizeN (g : GaR) (i : Nat) : Nat := (g.starts.take i).foldl (fun a x => a * (2 * (x.toNat + 1))) (base g)
theorem sizeN_succ {g : GaR} {i : Nat} {x : Int} (h : g.starts[i]? = some x) : sizeN g (i + 1) = sizeN g i * (2 * (x.toNat + 1)) := by
  unfold sizeN
  rw [take_succ h, List.foldl_append]; rfl
theorem base_le {g : GaR} (h : GaOk g) : base g ≤ 48 := by
  have h1 := h.n
  have h2 := h.b0
  have h3 := h.b3
  unfold base
  have : g.bd.toNat + 1 ≤ 4 := by omega
  have h4 : max 1 g.dl.n ≤ 12 := by omega
  exact Nat.mul_le_mul h4 this
theorem fold_pow {b : Nat} : ∀ (l : List Int) (a : Nat), (∀ x ∈ l, 0 ≤ x ∧ x ≤ 12) → l.foldl (fun a x => a * (2 * (x.toNat + 1))) a ≤ a * 26 ^ l.length
  | [], a, _ => by simp
  | x :: r, a, h => by
    rw [List.foldl_cons, List.length_cons, Nat.pow_succ]
    refine Nat.le_trans (fold_pow (b := b) r _ fun y hy => h y (.tail _ hy)) ?_
    have hx := h x (.head _)
    have : 2 * (x.toNat + 1) ≤ 26 := by omega
    calc a * (2 * (x.toNat + 1)) * 26 ^ r.length ≤ a * 26 * 26 ^ r.length := Nat.mul_le_mul_right _ (Nat.mul_le_mul_left _ this)
      _ = a * (26 ^ r.length * 26) := by rw [Nat.mul_assoc, Nat.mul_comm 26]
theorem sizeN_le {g : GaR} (h : GaOk g) (hl : g.starts.length = g.sl.n) (i : Nat) : sizeN g i ≤ 20000000000 := by
  have h1 := fold_pow (b := 0) (g.starts.take i) (base g) fun x hx => h.s x (List.mem_of_mem_take hx)
  have h2 : 26 ^ (g.starts.take i).length ≤ 26 ^ 6 := Nat.pow_le_pow_right (by decide) (by have := h.m; rw [List.length_take]; omega)
  have h3 := Nat.mul_le_mul (base_le h) h2
  unfold sizeN
  have h4 : 48 * 26 ^ 6 ≤ 20000000000 := by decide
  omega
section
variable {P : Program} {Be : Nat} {w0 : World} {H : Heap} {G : Bool} {e : Env} {ty : TypeId}
theorem ex_mulK {t t' : TypeId} {x y : Operand} {m n r : Int} (hr : m * n = r) (h1 : Ev G e x (.int .i64 m)) (h2 : Ev G e y (.int .i64 n)) (hb : -9223372036854775808 ≤ r ∧ r < 9223372036854775808) : Ex P Be w0 H G e (.binOp .mul t x y t') ty (.int .i64 r) := by
  subst hr
  exact ex_muln h1 h2 hb
/-- The whole of an array. -/
theorem ex_sliceArr {t el : TypeId} {x : Operand} {n sz g off : Nat} (h : Ev G e x (.pointer (some ⟨g, off, none⟩))) [ht : TArray P t n el] [hs : TSize P el sz] : Ex P Be w0 H G e (.slice t x none none none) ty (.slice (some ⟨g, off, none⟩) n n) := by
  intro N a w o ho _ hf hh hG
  simp [execOp, ho, h N a hf hG, Instr.sliceAt, Instr.sureAddr, Instr.sliceBounds, run_underlying ht.array, hs.run w, addr_add]
end
attribute [local irreducible] Calls thenQ blockQ retQ jumpQ Spc Spl Spq Ex Ev Evs Gd Upd ESub HKeep Res Res1 wlk effQ Rem SrcAt Split sizeN base
set_option maxRecDepth 100000 in
set_option maxHeartbeats 4000000 in
theorem small_c {w : World} {g : GaR} (h : RdGa w w.heap.size g) (hk : GaOk g) : Calls Try.prog 42 #[.agg g.C] w (Ret w (.bool (decide ((sizeN g g.sl.n : Int) ≤ 200000)))) := by
  obtain ⟨⟨A, n, c⟩, starts, ⟨A', n', c'⟩, deps, bd⟩ := g
  obtain ⟨g, hgd⟩ : ∃ g : GaR, g = ⟨⟨A, n, c⟩, starts, ⟨A', n', c'⟩, deps, bd⟩ := ⟨_, rfl⟩
  rw [← hgd] at hk
  have hbase := base_le hk
  have hb0 := hk.b0
  have hb3 := hk.b3
  have hst : RdS w w.heap.size 1 intC A n starts := h.st
  have hlen := hst.len
  have hszl := fun i => sizeN_le hk (by rw [hgd]; exact hlen) i
  have hs0 : sizeN g 0 = base g := by unfold sizeN; rfl
  have hbd : g.bd = bd := by rw [hgd]
  have hgs : g.starts = starts := by rw [hgd]
  have hgn : g.sl.n = n := by rw [hgd]
  have hbs : (((max 1 n' : Nat) : Int)) * (bd + 1) = (base g : Int) := by
    unfold base
    rw [Int.natCast_mul]
    have e1 : g.dl.n = n' := by rw [hgd]
    rw [e1, hbd]
    congr 1
    rw [hbd] at hb0
    omega
  rw [hbd] at hb0 hb3
  have hbi : bd + 1 = bd + 1 := rfl
  have hks := hk.s
  rw [hgs] at hks
  rw [← hgd]
  rw [hgn, show g.C = #[.slice A n c, .slice A' n' c', .int .i64 bd] by rw [hgd]; rfl]
  have hn6 := hk.m
  rw [hgn] at hn6
  refine sp_enter (vs := [_]) Try.func42 rfl Try.ntmps42 rfl ?_
  repeat (first|apply then_n|apply sp_seq|apply sp_region|apply spl_nil|apply sp_block|((apply spl_pure rfl);(·(first|(apply ex_maxN (a:=1);(·exact eC);(·exact eT rfl))|(apply ex_addK hbi;(·exact eT rfl);(·exact eC);(·(constructor<;>omega)))|(apply ex_mulK hbs;(·exact eT rfl);(·exact eT rfl);(·(constructor<;>omega)))|((first|apply ex_assign|apply ex_fieldAddr'|apply ex_len)<;>(first|exact eT rfl|exact eC))|((apply ex_loadown)<;>(first|exact eT rfl|exact Bk.own InH.mem|rfl)))))|(apply spl_box;(·exact eT rfl);(·rfl);intro _ _))
  rename_i g1 hg1
  refine sp_loop (X := Nat) (fun i => [(4, true, .int .i64 (i : Int)), (3, true, .int .i64 (sizeN g i : Int)), (1, true, .pointer (some ⟨g1, 0, none⟩))]) (fun _ => w) (fun _ => [(g1, .cells #[.slice A n c, .slice A' n' c', .int .i64 bd] 47 (0, 0))]) (fun i => i ≤ n) (fun i => n - i) 0 (Nat.zero_le _) (by rw [hs0]; (repeat (first|exact ESub.nil|apply ESub.cons rfl))) rfl (by (repeat (exact HKeep.refl))) ?_
  intro i hi
  by_cases hlt : i < n
  · obtain ⟨ad, x, hA, hb, hx, hsz, hc⟩ := hst.at_ hlt
    have hxb := hks x (List.mem_of_getElem? hx)
    have hsx := sizeN_succ (g := g) (by rw [hgs]; exact hx)
    have hx1 : x + 1 = x + 1 := rfl
    have hx2 : 2 * (x + 1) = 2 * (x + 1) := rfl
    have hx3 : (sizeN g i : Int) * (2 * (x + 1)) = (sizeN g (i + 1) : Int) := by
      rw [hsx, Int.natCast_mul]
      congr 1
      omega
    have hszi := hszl (i + 1)
    repeat (first|apply then_n|apply block_n|apply sp_seq|apply sp_region|apply spl_nil|((apply sp_cond_t);(·exact eT rfl);(·(exact decide_eq_true (by omega))))|apply sp_skip|apply sp_block|((apply spl_pure rfl);(·(first|(apply ex_indexAddr;(·exact eT rfl);(·exact eT rfl);(·exact hA);(·exact hlt))|(apply ex_loadfield (ad:=ad) (i:=i) (k:=0);(·exact eT rfl);(·exact hst);(·exact hA);(·exact hx);(·rfl))|(apply ex_mulK hx2;(·exact eC);(·exact eT rfl);(·(constructor<;>omega)))|(apply ex_mulK hx3;(·exact eT rfl);(·exact eT rfl);(·(constructor<;>omega)))|(apply ex_addK hx1;(·exact eT rfl);(·exact eC);(·(constructor<;>omega)))|((first|apply ex_move|apply ex_assign|apply ex_fieldAddr'|apply ex_lss|apply ex_len)<;>(exact eT rfl))|((apply ex_addn)<;>(first|exact eT rfl|exact eC|(constructor<;>omega)))|((apply ex_loadown)<;>(first|exact eT rfl|exact Bk.own InH.mem|rfl))))))
    exact ⟨i + 1, hlt, by (show n - (i + 1) < n - i; omega), (by (repeat (first|exact ESub.nil|apply ESub.cons rfl))), rfl, (by (repeat (exact HKeep.refl)))⟩
  · have hin : i = n := by omega
    rw [hin]
    repeat (first|apply then_n|apply sp_seq|apply sp_region|apply spl_nil|apply then_e|apply block_here|(apply sp_cond_f;(·exact eT rfl);(·(exact decide_eq_false (by omega))))|apply sp_ret|apply sp_exit|((apply spl_pure rfl);(·(first|((first|apply ex_move|apply ex_assign|apply ex_fieldAddr'|apply ex_lss|apply ex_leq|apply ex_len)<;>(first|exact eT rfl|exact eC))|((apply ex_loadown)<;>(first|exact eT rfl|exact Bk.own InH.mem|rfl))))))
    (apply ret_ok rfl;(·((apply Res.ofOne;((apply Res1.tmp;(·rfl))))))); rfl
end Go.Proofs.Ytoogicafefennaa
/-
  Contracts: game.set, game.Value.
-/
namespace Go.Proofs.Ytoogicafefennaa
set_option linter.unusedVariables false
open Go.RowKit Go.Sy
set_option linter.unusedVariables false
set_option linter.unusedSimpArgs false
section
variable {P : Program} {N Be : Nat} {Q : Post} {e : Env} {w0 : World} {H : Heap} {ops : Array Oper} {rest : List Oper} {ty : TypeId} {pos : String} {after : Array Edge} {d : Nat}
/-- 'copy(a, b)' where b is empty. -/
theorem spl_copyZ {dT sT el sz : TypeId} {x y : Operand} {g off n c c2 : Nat} {A : Option Addr} [ht : TSlice P dT el] [hz : TSize P el sz] (hN : Nat.blt d N = true) (hx : Ev true e x (.slice (some ⟨g, off, none⟩) n c)) (hy : Ev true e y (.slice A 0 c2))
    (k : Spl P N Be ops Q rest ((d, true, .int .i64 0) :: e) w0 H) :
    Spl P N Be ops Q (⟨some d, .call ⟨.builtin .copy, #[x, y], #[dT, sT]⟩, ty, pos, after, none⟩ :: rest) e w0 H := by
  intro a w hf hh
  have hd : d < N := by simpa [Nat.blt_eq] using hN
  refine wpList_plain rfl fun K hK => ?_
  have hr : (execOp a.eval ⟨some d, .call ⟨.builtin .copy, #[x, y], #[dT, sT]⟩, ty, pos, after, none⟩).run P w = .ok (.value (.int .i64 0)) w := by
    cases A with
    | none => simp [execOp, resolve, invoke, builtin, hx N a hf rfl, hy N a hf rfl, Builtin.copy_, run_underlying ht.slice, hz.run w, Builtin.lenOf, Builtin.firstCells, storeCells, goInt]
    | some b => simp [execOp, resolve, invoke, builtin, hx N a hf rfl, hy N a hf rfl, Builtin.copy_, run_underlying ht.slice, hz.run w, Builtin.lenOf, Builtin.firstCells, storeCells, loadCells, loadCellsFrom, goInt]
  unfold Oper.wp
  rw [hr, Oper.upon_value]
  exact hK _ _ (k _ _ (hf.puttrue hd) hh)
end
def padS (l : List Nat) : List Nat := l ++ List.replicate (6 - l.length) 0
def gs0 (ns : List Nat) (B : Nat) : GS := ⟨0, padS ns, List.replicate 6 false, B⟩
theorem copy_st (B : Nat) : ∀ ns : List Nat, ns.length ≤ 6 → setL (gs0 [] B).C 1 (ns.map iv) = (gs0 ns B).C
  | [], _ => rfl
  | [a], _ => rfl
  | [a, b], _ => rfl
  | [a, b, c], _ => rfl
  | [a, b, c, d], _ => rfl
  | [a, b, c, d, e], _ => rfl
  | [a, b, c, d, e, f], _ => rfl
  | a :: b :: c :: d :: e :: f :: g :: r, h => by simp at h
theorem mobj_nilG : (Obj.map #[] 0) = mobj gkV [] 0 := rfl
theorem nats_of : ∀ {l : List Int}, (∀ x ∈ l, 0 ≤ x) → ∃ ns : List Nat, l = ns.map fun n : Nat => (n : Int)
  | [], _ => ⟨[], rfl⟩
  | x :: r, h => by
    obtain ⟨ns, hr⟩ := nats_of (l := r) fun y hy => h y (.tail _ hy)
    obtain ⟨n, rfl⟩ := Int.eq_ofNat_of_zero_le (h x (.head _))
    exact ⟨n :: ns, by rw [hr]; rfl⟩
attribute [local irreducible] Calls thenQ blockQ retQ jumpQ Spc Spl Spq Ex Ev Evs Gd Upd ESub HKeep Res Res1 wlk effQ Rem SrcAt Split sizeN base GS.C mobj
set_option maxRecDepth 100000 in
set_option maxHeartbeats 8000000 in
theorem set_c {w : World} {g : GaR} {ns : List Nat} {B : Nat} (h : RdGa w w.heap.size g) (hv : validG g = true) (hsm : sizeN g g.sl.n ≤ 200000) (hns : g.starts = ns.map fun n : Nat => (n : Int)) (hB : g.bd = (B : Int)) :
    Calls Try.prog 43 #[.agg g.C] w (RetH w (fun gm : Nat => .tuple #[.agg (BR.C ⟨g.sl, g.dl, g.bd, gm⟩), .agg (gs0 ns B).C, .int .i64 0]) (fun gm => [(gm, mobj gkV [] 0)]) (fun _ => True)) := by
  have hval := fun (H : Heap) (w' : World) (hh : Hp w.heap.size w H w') => hv ▸ gvalid_c (h.hp hh)
  have hk := gaOk_of hv
  obtain ⟨⟨A, n, c⟩, starts, ⟨A', n', c'⟩, deps, bd⟩ := g
  dsimp only at hns hB
  subst hns hB
  obtain ⟨g, hgd⟩ : ∃ g : GaR, g = ⟨⟨A, n, c⟩, ns.map fun n : Nat => (n : Int), ⟨A', n', c'⟩, deps, (B : Int)⟩ := ⟨_, rfl⟩
  rw [← hgd] at hk hsm
  have hbase := base_le hk
  have hb3 := hk.b3
  have hst : RdS w w.heap.size 1 intC A n (ns.map fun n : Nat => (n : Int)) := h.st
  have hlen := hst.len
  have hlen2 : ns.length = n := by rw [List.length_map] at hlen; exact hlen
  have hszl := fun i => sizeN_le hk (by rw [hgd]; exact hlen) i
  have hs0 : sizeN g 0 = base g := by unfold sizeN; rfl
  have hbd : g.bd = (B : Int) := by rw [hgd]
  have hgs : g.starts = ns.map fun n : Nat => (n : Int) := by rw [hgd]
  have hgn : g.sl.n = n := by rw [hgd]
  have hbs : (((max 1 n' : Nat) : Int)) * ((B : Int) + 1) = (base g : Int) := by
    unfold base
    rw [Int.natCast_mul]
    have e1 : g.dl.n = n' := by rw [hgd]
    rw [e1, hbd]
    all_goals rfl
  rw [hbd] at hb3
  rw [hgn] at hsm
  have hbi : (B : Int) + 1 = (B : Int) + 1 := rfl
  have hn6 := hk.m
  rw [hgn] at hn6
  show Calls _ _ #[.agg #[.slice A n c, .slice A' n' c', .int .i64 (B : Int)]] _ (RetH w (fun gm : Nat => .tuple #[.agg #[.slice A n c, .slice A' n' c', .int .i64 (B : Int), .map (some gm)], .agg (gs0 ns B).C, .int .i64 0]) _ _)
  refine sp_enter (vs := [_]) Try.func43 rfl Try.ntmps43 rfl ?_
  repeat (first|(apply sp_cond_f;(·exact eT rfl);(·rfl))|(apply spl_callp rfl;(·(repeat (first|exact eN|(apply eS;(·exact eT rfl)))));(·exact fun w' hh => hval _ w' hh))|apply then_n|apply sp_seq|apply sp_region|apply spl_nil|apply sp_skip|apply sp_block|((apply spl_pure rfl);(·(first|(apply ex_maxN (a:=1);(·exact eC);(·exact eT rfl))|(apply ex_addK hbi;(·exact eT rfl);(·exact eC);(·(constructor<;>omega)))|(apply ex_mulK hbs;(·exact eT rfl);(·exact eT rfl);(·(constructor<;>omega)))|((first|apply ex_move|apply ex_assign|apply ex_fieldAddr'|apply ex_not|apply ex_len)<;>(first|exact eT rfl|exact eC))|((apply ex_loadown)<;>(first|exact eT rfl|exact Bk.own InH.mem|rfl))|((apply ex_loadowns)<;>(first|exact eT rfl|exact Bk.own InH.mem|(rfl))))))|(apply spl_box;(·exact eT rfl);(·rfl);intro _ _)|(apply spl_alloc rfl;intro _ _))
  rename_i g1 hg1 g2 hg2 g3 hg3
  refine sp_loop (X := Nat) (fun i => [(25, true, .int .i64 (i : Int)), (24, true, .int .i64 (n : Int)), (23, true, .slice A n c), (5, true, .int .i64 (sizeN g i : Int)), (1, true, .pointer (some ⟨g1, 0, none⟩)), (2, true, .pointer (some ⟨g2, 0, none⟩)), (3, true, .pointer (some ⟨g3, 0, none⟩)), (4, true, .int .i64 0)]) (fun _ => w)
    (fun _ => [(g3, .cells #[.int .i64 0, .int .i64 0, .int .i64 0, .int .i64 0, .int .i64 0, .int .i64 0, .int .i64 0, .bool false, .bool false, .bool false, .bool false, .bool false, .bool false, .int .i64 0] 82 (0, 0)), (g2, .cells #[.slice none 0 0, .slice none 0 0, .int .i64 0, .map none] 78 (0, 0)), (g1, .cells #[.slice A n c, .slice A' n' c', .int .i64 (B : Int)] 47 (0, 0))]) (fun i => i ≤ n) (fun i => n - i) 0 (Nat.zero_le _) (by rw [hs0]; (repeat (first|exact ESub.nil|apply ESub.cons rfl))) rfl (by (repeat (exact HKeep.refl))) ?_
  intro i hi
  by_cases hlt : i < n
  · obtain ⟨ad, x, hA, hb, hx, hsz, hc⟩ := hst.at_ hlt
    have hxb := hk.s x (by rw [hgs]; exact List.mem_of_getElem? hx)
    have hsx := sizeN_succ (g := g) (by rw [hgs]; exact hx)
    have hx1 : x + 1 = x + 1 := rfl
    have hx2 : 2 * (x + 1) = 2 * (x + 1) := rfl
    have hx3 : (sizeN g i : Int) * (2 * (x + 1)) = (sizeN g (i + 1) : Int) := by
      rw [hsx, Int.natCast_mul]
      congr 1
      omega
    have hszi := hszl (i + 1)
    repeat (first|apply then_n|apply block_n|apply sp_seq|apply sp_region|apply spl_nil|((apply sp_cond_t);(·exact eT rfl);(·(exact decide_eq_true (by omega))))|apply sp_skip|apply sp_block|((apply spl_pure rfl);(·(first|(apply ex_indexAddr;(·exact eT rfl);(·exact eT rfl);(·exact hA);(·exact hlt))|(apply ex_loadfield (ad:=ad) (i:=i) (k:=0);(·exact eT rfl);(·exact hst);(·exact hA);(·exact hx);(·rfl))|(apply ex_mulK hx2;(·exact eC);(·exact eT rfl);(·(constructor<;>omega)))|(apply ex_mulK hx3;(·exact eT rfl);(·exact eT rfl);(·(constructor<;>omega)))|(apply ex_addK hx1;(·exact eT rfl);(·exact eC);(·(constructor<;>omega)))|((first|apply ex_move|apply ex_assign|apply ex_lss)<;>(exact eT rfl))|((apply ex_addn)<;>(first|exact eT rfl|exact eC|(constructor<;>omega)))))))
    exact ⟨i + 1, hlt, by (show n - (i + 1) < n - i; omega), (by (repeat (first|exact ESub.nil|apply ESub.cons rfl))), rfl, (by (repeat (exact HKeep.refl)))⟩
  · have hin : i = n := by omega
    rw [hin]
    have hgt : ¬ (200000 : Int) < (sizeN g n : Int) := by omega
    have hpc : #[.int .i64 0, .int .i64 0, .int .i64 0, .int .i64 0, .int .i64 0, .int .i64 0, .int .i64 0, .bool false, .bool false, .bool false, .bool false, .bool false, .bool false, .int .i64 (B : Int)] = (gs0 [] B).C := by unfold GS.C; rfl
    have hz0 : (gs0 [] B).C.size = 14 := by unfold GS.C; rfl
    have hcp := copy_st B ns (by omega)
    have hz : (gs0 ns B).C.size = 14 := by rw [← hcp, setL_size]; exact hz0
    have hfl : (ns.map fun n : Nat => (n : Int)).flatMap (fun x => (intC x).toList) = ns.map iv := by
      rw [List.flatMap_map]
      exact nat_flat ns
    have hsrc := fun (H : Heap) (w' : World) (hh : Hp w.heap.size w H w') => hfl ▸ CellsAt.rd (hst.hp' hh)
    have hon : ∀ v ∈ ns.map iv, v.oneCell' = true := fun v hv => by obtain ⟨b, _, rfl⟩ := List.mem_map.1 hv; rfl
    have hvl : (ns.map iv).length = Nat.min n 6 := by rw [List.length_map, hlen2]; exact (Nat.min_eq_left hn6).symm
    have hfit : 0 + 1 + (ns.map iv).length ≤ (gs0 [] B).C.size := by rw [List.length_map, hz0]; omega
    by_cases hn0 : n = 0
    · have hnil : ns = [] := List.eq_nil_of_length_eq_zero (by omega)
      subst hn0
      subst hnil
      repeat (first|(refine sp_drawn (id := 12) [(0, true), (1, true), (2, true), (3, true), (4, false)] 4 _ mixed ?_ HKeep.refl ?_;(·kernel_rfl))|(refine sp_drawn (id := 13) [(0, true), (3, true), (1, false), (2, true), (4, false), (5, false), (6, false)] 6 _ mixed ?_ (HKeep.keep (HKeep.drop hg3 (HKeep.drop hg2 (HKeep.keep HKeep.refl)))) ?_;(·kernel_rfl))|(apply sp_cond_f;(·exact eT rfl);(·exact decide_eq_false hgt))|(apply spl_copyZ rfl;(·exact eT rfl);(·exact eT rfl))|(apply spl_makeMap rfl;intro gm hgm;rw [mobj_nilG])|apply then_n|apply sp_seq|apply sp_region|apply spl_nil|apply then_e|apply block_here|(apply sp_cond_f;(·exact eT rfl);(·(exact decide_eq_false (by omega))))|apply sp_skip|apply sp_ret|apply sp_exit|((first|apply spl_pure rfl|apply wlk_read rfl rfl);(·(first|(apply ex_sliceArr;(·exact eT rfl))|(apply ex_buildE (t:=82) (r:=(gs0 [] B).C);(·(repeat (first|exact eN|(apply eS;(·exact eT rfl)))));(·rfl);(·exact hpc))|(apply ex_buildE (t:=78) (r:=#[.slice A 0 c, .slice A' n' c', .int .i64 (B : Int), .map (some gm)]);(·(repeat (first|exact eN|(apply eS;(·exact eT rfl)))));(·rfl);(·rfl))|((first|apply ex_move|apply ex_assign|apply ex_fieldAddr'|apply ex_lss|apply ex_gtr)<;>(first|exact eT rfl|exact eC))|((apply ex_loadown)<;>(first|exact eT rfl|exact Bk.own InH.mem|rfl))|((apply ex_loadowns)<;>(first|exact eT rfl|exact Bk.own InH.mem|(first|rfl|assumption))))))|(apply spl_alloc rfl;intro _ _)|(apply spl_stores;(·exact eT rfl);(·exact eT rfl);(·(repeat (first|exact Upd.here|apply Upd.there)));(·(rfl));(·(first|rfl|assumption));(·(first|exact Ones.one|exact ones_of_all rfl)))|(apply effq;(·(intro h_;(first|(exact absurd h_ (by decide))|(repeat (first|exact HKeep.refl|(apply HKeep.pick;(·(repeat (first|exact Rem.here|apply Rem.there))))|apply HKeep.drop (by first|assumption|omega)))))))|apply wlk_nil|apply wlk_eff rfl)
      (apply retH_ok rfl;(·((apply Res.ofThree<;>(first|(apply Res1.tmp;(·rfl))|(apply Res1.cell;(·rfl);(·exact InH.mem);(·(first|rfl|assumption))))))))
      exact ⟨gm, rfl, trivial, by (repeat (first|exact HKeep.refl|apply HKeep.keep|apply HKeep.drop (by first|assumption|omega)))⟩
    · have hpos : 0 < (ns.map iv).length := by rw [List.length_map]; omega
      repeat (first|(refine sp_drawn (id := 12) [(0, true), (1, true), (2, true), (3, true), (4, false)] 4 _ mixed ?_ HKeep.refl ?_;(·kernel_rfl))|(refine sp_drawn (id := 13) [(0, true), (3, true), (1, false), (2, true), (4, false), (5, false), (6, false)] 6 _ mixed ?_ (HKeep.keep (HKeep.drop hg3 (HKeep.drop hg2 (HKeep.keep HKeep.refl)))) ?_;(·kernel_rfl))|(apply sp_cond_f;(·exact eT rfl);(·exact decide_eq_false hgt))|(apply spl_copyC (cs':=(gs0 ns B).C) (vs:=ns.map iv) rfl;(·exact eT rfl);(·exact eT rfl);(·exact fun w' hh => hsrc _ w' hh);(·exact hvl);(·exact hpos);(·exact hon);(·exact hcp);(·(repeat (exact Upd.here)));(·exact hfit))|(apply spl_makeMap rfl;intro gm hgm;rw [mobj_nilG])|apply then_n|apply sp_seq|apply sp_region|apply spl_nil|apply then_e|apply block_here|(apply sp_cond_f;(·exact eT rfl);(·(exact decide_eq_false (by omega))))|apply sp_skip|apply sp_ret|apply sp_exit|((first|apply spl_pure rfl|apply wlk_read rfl rfl);(·(first|(apply ex_sliceArr;(·exact eT rfl))|(apply ex_buildE (t:=82) (r:=(gs0 [] B).C);(·(repeat (first|exact eN|(apply eS;(·exact eT rfl)))));(·rfl);(·exact hpc))|(apply ex_buildE (t:=78) (r:=#[.slice A n c, .slice A' n' c', .int .i64 (B : Int), .map (some gm)]);(·(repeat (first|exact eN|(apply eS;(·exact eT rfl)))));(·rfl);(·rfl))|((first|apply ex_move|apply ex_assign|apply ex_fieldAddr'|apply ex_lss|apply ex_gtr)<;>(first|exact eT rfl|exact eC))|((apply ex_loadown)<;>(first|exact eT rfl|exact Bk.own InH.mem|rfl))|((apply ex_loadowns)<;>(first|exact eT rfl|exact Bk.own InH.mem|(first|rfl|assumption))))))|(apply spl_alloc rfl;intro _ _)|(apply spl_stores;(·exact eT rfl);(·exact eT rfl);(·(repeat (first|exact Upd.here|apply Upd.there)));(·(rfl));(·(first|rfl|assumption));(·(first|exact Ones.one|exact ones_of_all rfl)))|(apply effq;(·(intro h_;(first|(exact absurd h_ (by decide))|(repeat (first|exact HKeep.refl|(apply HKeep.pick;(·(repeat (first|exact Rem.here|apply Rem.there))))|apply HKeep.drop (by first|assumption|omega)))))))|apply wlk_nil|apply wlk_eff rfl)
      (apply retH_ok rfl;(·((apply Res.ofThree<;>(first|(apply Res1.tmp;(·rfl))|(apply Res1.cell;(·rfl);(·exact InH.mem);(·(first|rfl|assumption))))))))
      exact ⟨gm, rfl, trivial, by (repeat (first|exact HKeep.refl|apply HKeep.keep|apply HKeep.drop (by first|assumption|omega)))⟩
end Go.Proofs.Ytoogicafefennaa
/-
  Contracts: game.Value.
-/
namespace Go.Proofs.Ytoogicafefennaa
set_option linter.unusedVariables false
open Go.RowKit Go.Sy
set_option linter.unusedVariables false
set_option linter.unusedSimpArgs false
theorem RdS.comap {α β : Type} {w : World} {Be sz : Nat} {C : α → Array Value} {C' : β → Array Value} {A : Option Addr} {n : Nat} {xs : List β} {f : β → α} (h : RdS w Be sz C A n (xs.map f)) (hC : ∀ x, C (f x) = C' x) : RdS w Be sz C' A n xs :=
  ⟨by have := h.len; rwa [List.length_map] at this, h.bound, fun i x hx => by
    obtain ⟨ad, e, hb, hs, hc⟩ := h.elems i (f x) (by rw [List.getElem?_map, hx]; rfl)
    exact ⟨ad, e, hb, by rw [← hC]; exact hs, fun j v hj => hc j v (by rw [hC]; exact hj)⟩⟩
def depZ (x : Sl × List Nat) : Sl × List Int := (x.1, x.2.map fun n : Nat => (n : Int))
theorem deps_of : ∀ {l : List (Sl × List Int)}, (∀ x ∈ l, ∀ v ∈ x.2, 0 ≤ v) → ∃ ds : List (Sl × List Nat), l = ds.map depZ
  | [], _ => ⟨[], rfl⟩
  | x :: r, h => by
    obtain ⟨ds, hr⟩ := deps_of (l := r) fun y hy => h y (.tail _ hy)
    obtain ⟨ns, hn⟩ := nats_of (h x (.head _))
    exact ⟨(x.1, ns) :: ds, by rw [hr, List.map_cons]; congr 1; unfold depZ; rw [← hn]⟩
/-- A valid game in plain terms. -/
structure Plain (g : GaR) (ns : List Nat) (ds : List (Sl × List Nat)) (B : Nat) : Prop where
  ns : g.starts = ns.map fun n : Nat => (n : Int)
  ds : g.deps = ds.map depZ
  bd : g.bd = (B : Int)
def gpOf (ns : List Nat) (ds : List (Sl × List Nat)) : GP := ⟨ns.length, ds.map Prod.snd⟩
theorem plain_of {g : GaR} (hk : GaOk g) : ∃ ns ds B, Plain g ns ds B := by
  obtain ⟨ns, h1⟩ := nats_of (l := g.starts) fun x hx => (hk.s x hx).1
  obtain ⟨ds, h2⟩ := deps_of (l := g.deps) fun x hx v hv => (incr_in x.2 (-1) (by omega) (hk.d x hx) v hv).1
  exact ⟨ns, ds, g.bd.toNat, h1, h2, by have := hk.b0; omega⟩
theorem Plain.ok {g : GaR} {ns : List Nat} {ds : List (Sl × List Nat)} {B : Nat} {w : World} {Be : Nat} (hp : Plain g ns ds B) (hk : GaOk g) (h : RdGa w Be g) : (gpOf ns ds).Ok := by
  have hm := hk.m
  have hn := hk.n
  have l1 := h.st.len
  have l2 := h.rows.len
  rw [hp.ns, List.length_map] at l1
  rw [hp.ds, List.length_map] at l2
  refine ⟨by show ns.length ≤ 6; omega, by show (ds.map Prod.snd).length ≤ 12; rw [List.length_map]; omega, fun t v hv => ?_⟩
  show v < ns.length
  unfold GP.at_ gpOf at hv
  rw [List.getD_eq_getElem?_getD, List.getElem?_map] at hv
  cases hx : ds[t]? with
  | none => rw [hx] at hv; cases hv
  | some x =>
    rw [hx] at hv
    have hv' : v ∈ x.2 := hv
    have hmem : depZ x ∈ g.deps := by rw [hp.ds]; exact List.mem_map.2 ⟨x, List.mem_of_getElem? hx, rfl⟩
    have := (incr_in _ (-1) (by omega) (hk.d _ hmem) (v : Int) (List.mem_map.2 ⟨v, hv', rfl⟩)).2
    omega
theorem Plain.rd {g : GaR} {ns : List Nat} {ds : List (Sl × List Nat)} {B gm : Nat} {w : World} {Be : Nat} (hp : Plain g ns ds B) (h : RdGa w Be g) : RdGame w Be (gpOf ns ds) ⟨g.sl, g.dl, g.bd, gm⟩ ds := by
  have l1 := h.st.len
  have l2 := h.rows.len
  rw [hp.ns, List.length_map] at l1
  rw [hp.ds, List.length_map] at l2
  refine ⟨l1.symm, by show g.dl.n = (ds.map Prod.snd).length; rw [List.length_map, l2], rfl, ?_, fun x hx => ?_⟩
  · have := h.rows
    rw [hp.ds] at this
    exact RdS.comap (C := slI) (f := depZ) this fun x => rfl
  · have := h.row (depZ x) (by rw [hp.ds]; exact List.mem_map.2 ⟨x, hx, rfl⟩)
    exact RdS.comap (C := intC) (f := fun n : Nat => (n : Int)) this fun x => rfl
theorem padS_mem {ns : List Nat} {b : Nat} (h : ∀ x ∈ ns, x < b) (hb : 0 < b) : ∀ x ∈ padS ns, x < b := fun x hx => by
  unfold padS at hx
  rcases List.mem_append.1 hx with q | q
  · exact h x q
  · rw [(List.mem_replicate.1 q).2]; exact hb
theorem Plain.start {g : GaR} {ns : List Nat} {ds : List (Sl × List Nat)} {B : Nat} {w : World} {Be : Nat} (hp : Plain g ns ds B) (hk : GaOk g) (h : RdGa w Be g) : (gs0 ns B).In (gpOf ns ds) := by
  have hm := hk.m
  have l1 := h.st.len
  rw [hp.ns, List.length_map] at l1
  have hns : ∀ x ∈ ns, x < 13 := fun x hx => by
    have := (hk.s (x : Int) (by rw [hp.ns]; exact List.mem_map.2 ⟨x, hx, rfl⟩)).2
    omega
  have hB := hk.b3
  rw [hp.bd] at hB
  have hpd := padS_mem hns (by decide)
  refine ⟨⟨by show 0 < _; omega, by show B < _; omega, ?_, rfl, fun x hx => ?_⟩, Nat.zero_le _, fun i => ?_⟩
  · show (padS ns).length = 6
    unfold padS
    rw [List.length_append, List.length_replicate]; omega
  · have := hpd x hx
    omega
  · unfold sAt
    show (padS ns).getD i 0 ≤ 1000
    rw [List.getD_eq_getElem?_getD]
    cases hq : (padS ns)[i]? with
    | none => exact Nat.zero_le _
    | some x =>
      have := hpd x (List.mem_of_getElem? hq)
      show x ≤ 1000
      omega
def valueN (ns : List Nat) (ds : List (Sl × List Nat)) (B : Nat) : Nat := worstF (gpOf ns ds) ds.length (gs0 ns B)
attribute [local irreducible] Calls thenQ blockQ retQ jumpQ Spc Spl Spq Ex Ev Evs Gd Upd ESub HKeep Res Res1 wlk effQ Rem SrcAt Split sizeN base GS.C mobj worstF
set_option maxRecDepth 100000 in
set_option maxHeartbeats 8000000 in
theorem value_c {w : World} {g : GaR} {ns : List Nat} {ds : List (Sl × List Nat)} {B : Nat} (h : RdGa w w.heap.size g) (hv : validG g = true) (hsm : sizeN g g.sl.n ≤ 200000) (hp : Plain g ns ds B) :
    Calls Try.prog 18 #[.agg g.C] w (Ret w (.tuple #[.int .i64 ((valueN ns ds B : Nat) : Int), .int .i64 0])) := by
  have hk := gaOk_of hv
  have hset := fun (H : Heap) (w' : World) (hh : Hp w.heap.size w H w') => set_c (h.hp hh) hv hsm hp.ns hp.bd
  have hz : (gs0 ns B).C.size = 14 := GS.size (hp.start hk h).ok
  have hwc := fun (gm : Nat) (hgm : w.heap.size ≤ gm) (R : Heap) (w' : World) (hh : Hp w.heap.size w ((gm, mobj gkV [] 0) :: R) w') => worst_all (b := ⟨g.sl, g.dl, g.bd, gm⟩) (hp.ok hk h) (hp.rd h) hgm ds.length (gs0 ns B) [] 0 R w' (hp.start hk h) (by show 0 + ds.length = (ds.map Prod.snd).length; rw [List.length_map]; omega) KI.nil hh
  refine sp_enter (vs := [_]) Try.func18 rfl Try.ntmps18 rfl ?_
  have hne : ¬ ((0 : Int) ≠ 0) := fun h => h rfl
  repeat (first|(apply sp_cond_f;(·exact eT rfl);(·rfl))|(apply spl_callh rfl;(·(repeat (first|exact eN|(apply eS;(·exact eT rfl)))));(·exact fun w' hh => hset _ w' hh);(intro gm _ hgm;have hgm1 : w.heap.size ≤ gm := hgm _ (List.mem_singleton.2 rfl);simp only [List.cons_append, List.nil_append]))|(apply spl_callM (X:=List (GK × Value × Nat) × Nat) (V:=fun _ => .int .i64 ((valueN ns ds B : Nat) : Int)) (A:=[(gm, mobj gkV [] 0)]) (AA:=fun y => [(gm, mobj gkV y.1 y.2)]) (I:=fun y => KI (gpOf ns ds) y.1) rfl;(·(repeat (first|exact eN|(apply eS;(·exact eT rfl)))));(·(repeat (first|exact Split.one|apply Split.cons)));(·exact fun w' hh => hwc gm hgm1 _ w' hh);(rintro ⟨es2, ck2⟩ hK2;simp only [List.cons_append, List.nil_append]))|apply then_n|apply sp_seq|apply sp_region|apply spl_nil|apply sp_skip|apply sp_ret|((apply spl_pure rfl);(·(first|((first|apply ex_move|apply ex_assign|apply ex_sneq)<;>(first|exact eT rfl|exact eC))|(apply ex_neq<;>(first|exact eT rfl|exact eC))|((apply ex_extract)<;>(first|exact eT rfl|rfl))|(apply ex_loadowns<;>(first|exact eT rfl|exact Bk.own InH.mem|(first|rfl|assumption))))))|(apply spl_box;(·exact eT rfl);(·rfl);intro _ _)|(apply spl_alloc rfl;intro _ _)|(apply spl_stores;(·exact eT rfl);(·exact eT rfl);(·(repeat (first|exact Upd.here|apply Upd.there)));(·(rfl));(·(first|rfl|assumption));(·exact Ones.one)))
  (apply ret_ok rfl;(·((apply Res.ofTwo<;>((apply Res1.tmp;(·rfl))))))); rfl
end Go.Proofs.Ytoogicafefennaa
/-
  Contracts: the reference's Valid, the law's test of games.
-/
namespace Go.Proofs.Ytoogicafefennaa
set_option linter.unusedVariables false
open Go.RowKit Go.Sy
set_option linter.unusedVariables false
set_option linter.unusedSimpArgs false
theorem any_take_all {α : Type} {p : α → Bool} {xs : List α} {i : Nat} (h : (xs.take i).any p = false) (hi : xs.length ≤ i) : xs.any p = false := by rwa [List.take_of_length_le hi] at h
attribute [local irreducible] Calls thenQ blockQ retQ jumpQ Spc Spl Spq Ex Ev Evs Gd Upd ESub HKeep Res Res1 wlk effQ Rem SrcAt Split sizeN base
set_option maxRecDepth 100000 in
set_option maxHeartbeats 16000000 in
theorem refvalid_c {w : World} {g : GaR} (h : RdGa w w.heap.size g) : Calls Try.prog 41 #[.agg g.C] w (Ret w (.bool (validG g))) := by
  obtain ⟨⟨A, n, c⟩, starts, ⟨A', n', c'⟩, deps, bd⟩ := g
  obtain ⟨hst, hrows, hrow⟩ := h
  dsimp only at hst hrows hrow
  obtain ⟨g, hgd⟩ : ∃ g : GaR, g = ⟨⟨A, n, c⟩, starts, ⟨A', n', c'⟩, deps, bd⟩ := ⟨_, rfl⟩
  have hgC : GaR.C ⟨⟨A, n, c⟩, starts, ⟨A', n', c'⟩, deps, bd⟩ = #[.slice A n c, .slice A' n' c', .int .i64 bd] := rfl
  rw [← hgd] at hgC ⊢
  rw [hgC]
  have hbd1 := hst.bound
  have hbd2 := hrows.bound
  refine sp_enter (vs := [_]) Try.func41 rfl Try.ntmps41 rfl ?_
  cases hH : headG g with
  | true =>
    have hF : validG g = false := by unfold validG; rw [hH]; rfl
    rw [hF]
    rw [hgd] at hH
    unfold headG at hH
    dsimp only at hH
    repeat (first|(apply sp_cond_t;(·exact eT rfl);(·exact hH))|apply then_n|apply sp_seq|apply sp_region|apply spl_nil|apply then_r|apply sp_ret|((first|apply spl_pure rfl|(apply spl_pure_g rfl;(·exact Gd.tf rfl rfl)));(·(first|((first|apply ex_move|apply ex_assign|apply ex_fieldAddr'|apply ex_lss|apply ex_gtr|apply ex_len)<;>(first|exact eT rfl|exact eC|exact eG rfl))|((apply ex_orT)<;>(first|exact eT rfl|exact eG rfl))|((apply ex_loadown)<;>(first|exact eT rfl|exact eG rfl|exact Bk.own InH.mem|rfl)))))|(apply spl_box;(·exact eT rfl);(·rfl);intro _ _))
    (apply ret_ok rfl;(·((apply Res.ofOne;((apply Res1.tmp;(·rfl))))))); rfl
  | false =>
    have hV : validG g = (!starts.any badS && !deps.any (badD g)) := by unfold validG; rw [hH, hgd]; rfl
    rw [hgd] at hH
    unfold headG at hH
    dsimp only at hH
    repeat (first|(apply sp_cond_f;(·exact eT rfl);(·exact hH))|apply then_n|apply sp_seq|apply sp_region|apply spl_nil|apply sp_skip|apply sp_block|((first|apply spl_pure rfl|(apply spl_pure_g rfl;(·exact Gd.tf rfl rfl)));(·(first|((first|apply ex_move|apply ex_assign|apply ex_fieldAddr'|apply ex_lss|apply ex_gtr|apply ex_len)<;>(first|exact eT rfl|exact eC|exact eG rfl))|((apply ex_orT)<;>(first|exact eT rfl|exact eG rfl))|((apply ex_loadown)<;>(first|exact eT rfl|exact eG rfl|exact Bk.own InH.mem|rfl)))))|(apply spl_box;(·exact eT rfl);(·rfl);intro _ _))
    rename_i g1 hg1
    refine sp_loop (X := Nat) (fun i => [(3, true, .int .i64 (i : Int)), (1, true, .pointer (some ⟨g1, 0, none⟩))]) (fun _ => w) (fun _ => [(g1, .cells #[.slice A n c, .slice A' n' c', .int .i64 bd] 47 (0, 0))]) (fun i => i ≤ n ∧ (starts.take i).any badS = false) (fun i => n - i) 0 ⟨Nat.zero_le _, rfl⟩ (by (repeat (first|exact ESub.nil|apply ESub.cons rfl))) rfl (by (repeat (exact HKeep.refl))) ?_
    rintro i ⟨hi, hno⟩
    by_cases hlt : i < n
    · obtain ⟨ad, x, hA, hb, hx, hsz, hc⟩ := hst.at_ hlt
      cases hbx : badS x with
      | true =>
        have hany : starts.any badS = true := List.any_eq_true.2 ⟨x, List.mem_of_getElem? hx, hbx⟩
        have hF : validG g = false := by rw [hV, hany]; rfl
        rw [hF]
        unfold badS at hbx
        repeat (first|(apply sp_cond_t;(·exact eT rfl);(·exact hbx))|apply then_n|apply sp_seq|apply sp_region|apply spl_nil|apply then_r|apply block_r|((apply sp_cond_t);(·exact eT rfl);(·(exact decide_eq_true (by omega))))|apply sp_skip|apply sp_ret|apply sp_block|((first|apply spl_pure rfl|(apply spl_pure_g rfl;(·exact Gd.tf rfl rfl)));(·(first|(apply ex_indexAddr;(·(first|exact eT rfl|exact eG rfl));(·(first|exact eT rfl|exact eG rfl));(·exact hA);(·exact hlt))|(apply ex_loadfield (ad:=ad) (i:=i) (k:=0);(·(first|exact eT rfl|exact eG rfl));(·exact hst);(·exact hA);(·exact hx);(·rfl))|((first|apply ex_move|apply ex_assign|apply ex_fieldAddr'|apply ex_lss|apply ex_gtr|apply ex_len)<;>(first|exact eT rfl|exact eC|exact eG rfl))|((apply ex_orT)<;>(first|exact eT rfl|exact eG rfl))|((apply ex_loadown)<;>(first|exact eT rfl|exact eG rfl|exact Bk.own InH.mem|rfl))))))
        (apply ret_ok rfl;(·((apply Res.ofOne;((apply Res1.tmp;(·rfl))))))); rfl
      | false =>
        have hno2 := any_miss hno hx hbx
        unfold badS at hbx
        repeat (first|(apply sp_cond_f;(·exact eT rfl);(·exact hbx))|apply then_n|apply block_n|apply sp_seq|apply sp_region|apply spl_nil|((apply sp_cond_t);(·exact eT rfl);(·(exact decide_eq_true (by omega))))|apply sp_skip|apply sp_block|((first|apply spl_pure rfl|(apply spl_pure_g rfl;(·exact Gd.tf rfl rfl)));(·(first|(apply ex_indexAddr;(·(first|exact eT rfl|exact eG rfl));(·(first|exact eT rfl|exact eG rfl));(·exact hA);(·exact hlt))|(apply ex_loadfield (ad:=ad) (i:=i) (k:=0);(·(first|exact eT rfl|exact eG rfl));(·exact hst);(·exact hA);(·exact hx);(·rfl))|((first|apply ex_move|apply ex_assign|apply ex_fieldAddr'|apply ex_lss|apply ex_gtr|apply ex_len)<;>(first|exact eT rfl|exact eC|exact eG rfl))|((apply ex_orT)<;>(first|exact eT rfl|exact eG rfl))|((apply ex_addn)<;>(first|exact eT rfl|exact eC|(constructor<;>omega)))|((apply ex_loadown)<;>(first|exact eT rfl|exact eG rfl|exact Bk.own InH.mem|rfl))))))
        exact ⟨i + 1, ⟨hlt, hno2⟩, by (show n - (i + 1) < n - i; omega), (by (repeat (first|exact ESub.nil|apply ESub.cons rfl))), rfl, (by (repeat (exact HKeep.refl)))⟩
    · have hS := any_take_all hno (by rw [hst.len]; omega)
      rw [hS, show (!false && !deps.any (badD g)) = !deps.any (badD g) from rfl] at hV
      repeat (first|apply then_n|apply sp_seq|apply sp_region|apply spl_nil|apply then_e|apply block_here|(apply sp_cond_f;(·exact eT rfl);(·(exact decide_eq_false (by omega))))|apply sp_exit|apply sp_block|((apply spl_pure rfl);(·(first|((first|apply ex_move|apply ex_assign|apply ex_fieldAddr'|apply ex_lss|apply ex_len)<;>(first|exact eT rfl|exact eC))|((apply ex_loadown)<;>(first|exact eT rfl|exact Bk.own InH.mem|rfl))))))
      clear hno hi hlt
      refine sp_loop (X := Nat) (fun i => [(4, true, .int .i64 (i : Int)), (1, true, .pointer (some ⟨g1, 0, none⟩))]) (fun _ => w) (fun _ => [(g1, .cells #[.slice A n c, .slice A' n' c', .int .i64 bd] 47 (0, 0))]) (fun i => i ≤ n' ∧ (deps.take i).any (badD g) = false) (fun i => n' - i) 0 ⟨Nat.zero_le _, rfl⟩ (by (repeat (first|exact ESub.nil|apply ESub.cons rfl))) rfl (by (repeat (exact HKeep.refl))) ?_
      clear i
      rintro i ⟨hi, hno⟩
      by_cases hlt2 : i < n'
      · obtain ⟨ad2, x, hA2, hb2, hx2, hsz2, hc2⟩ := hrows.at_ hlt2
        have hrw := hrow x (List.mem_of_getElem? hx2)
        have hrb := hrw.bound
        repeat (first|apply then_n|apply sp_seq|apply sp_region|apply spl_nil|((apply sp_cond_t);(·exact eT rfl);(·(exact decide_eq_true (by omega))))|apply sp_skip|apply sp_block|((apply spl_pure rfl);(·(first|((first|apply ex_move|apply ex_assign|apply ex_fieldAddr'|apply ex_lss|apply ex_len)<;>(first|exact eT rfl|exact eC))|((apply ex_loadown)<;>(first|exact eT rfl|exact Bk.own InH.mem|rfl))))))
        refine sp_loop (X := Nat × Int) (fun y => [(5, true, .int .i64 (y.1 : Int)), (4, true, .int .i64 (i : Int)), (1, true, .pointer (some ⟨g1, 0, none⟩))]) (fun _ => w) (fun _ => [(g1, .cells #[.slice A n c, .slice A' n' c', .int .i64 bd] 47 (0, 0))]) (fun y => y.1 ≤ x.1.n ∧ incr n (-1) x.2 = incr n y.2 (x.2.drop y.1) ∧ (y.1 = 0 → y.2 = -1) ∧ (0 < y.1 → x.2[y.1 - 1]? = some y.2 ∧ 0 ≤ y.2)) (fun y => x.1.n - y.1) (0, -1) ⟨Nat.zero_le _, rfl, fun _ => rfl, fun h => absurd h (Nat.lt_irrefl _)⟩ (by (repeat (first|exact ESub.nil|apply ESub.cons rfl))) rfl (by (repeat (exact HKeep.refl))) ?_
        rintro ⟨k, last⟩ ⟨hk, hinv, hz, hps⟩
        replace hk : k ≤ x.1.n := hk
        replace hinv : incr n (-1) x.2 = incr n last (x.2.drop k) := hinv
        replace hz : k = 0 → last = -1 := hz
        replace hps : 0 < k → x.2[k - 1]? = some last ∧ 0 ≤ last := hps
        dsimp only
        by_cases hlt3 : k < x.1.n
        · obtain ⟨ad3, v, hA3, hb3, hv3, hsz3, hc3⟩ := hrw.at_ hlt3
          rw [incr_at hv3] at hinv
          have hbadx : (decide (v ≤ last) || !decide (v < (n : Int))) = true → validG g = false := fun hq => by
            rw [hq] at hinv
            have : badD g x = true := by unfold badD; rw [hgd]; dsimp only; rw [hinv]; rfl
            rw [hV, List.any_eq_true.2 ⟨x, List.mem_of_getElem? hx2, this⟩]; rfl
          have hlast : -1 ≤ last := by
            rcases Nat.eq_zero_or_pos k with q | q
            · rw [hz q]; exact Int.le_refl _
            · have := (hps q).2; omega
          by_cases c1 : v < 0
          · have hF := hbadx (by rw [decide_eq_true (show v ≤ last by omega)]; rfl)
            rw [hF]
            repeat (first|(apply sp_cond_t;(·exact eT rfl);(·rfl))|apply then_n|apply sp_seq|apply sp_region|apply spl_nil|apply then_r|apply block_r|((apply sp_cond_t);(·exact eT rfl);(·(exact decide_eq_true (by omega))))|apply sp_skip|apply sp_ret|apply sp_block|((first|apply spl_pure rfl|(apply spl_pure_g rfl;(·(first|exact Gd.tf rfl rfl|exact Gd.gt rfl rfl))));(·(first|(exact ex_off rfl)|(apply ex_lssT c1;(·exact eT rfl);(·exact eC))|(apply ex_indexAddr;(·exact eT rfl);(·exact eT rfl);(·exact hA2);(·exact hlt2))|(apply ex_indexAddr;(·exact eT rfl);(·exact eT rfl);(·exact hA3);(·exact hlt3))|(apply ex_loadfield (ad:=ad2) (i:=i) (k:=0);(·exact eT rfl);(·exact hrows);(·exact hA2);(·exact hx2);(·rfl))|(apply ex_loadfield (ad:=ad3) (i:=k) (k:=0);(·exact eT rfl);(·exact hrw);(·exact hA3);(·exact hv3);(·rfl))|((first|apply ex_move|apply ex_assign|apply ex_fieldAddr'|apply ex_lss|apply ex_len)<;>(first|exact eT rfl|exact eC))|((apply ex_orT)<;>(first|exact eT rfl|exact eG rfl))|((apply ex_loadown)<;>(first|exact eT rfl|exact Bk.own InH.mem|rfl))))))
            (apply ret_ok rfl;(·((apply Res.ofOne;((apply Res1.tmp;(·rfl))))))); rfl
          · by_cases c2 : (n : Int) ≤ v
            · have hF := hbadx (by rw [decide_eq_false (show ¬ v < (n : Int) by omega)]; simp)
              rw [hF]
              repeat (first|(apply sp_cond_t;(·exact eT rfl);(·rfl))|apply then_n|apply sp_seq|apply sp_region|apply spl_nil|apply then_r|apply block_r|((apply sp_cond_t);(·exact eT rfl);(·(exact decide_eq_true (by omega))))|apply sp_skip|apply sp_ret|apply sp_block|((first|apply spl_pure rfl|(apply spl_pure_g rfl;(·(first|exact Gd.tf rfl rfl|exact Gd.gt rfl rfl))));(·(first|(exact ex_off rfl)|(apply ex_lssF c1;(·exact eT rfl);(·exact eC))|(apply ex_geqT c2;(·exact eT rfl);(·exact eT rfl))|(apply ex_indexAddr;(·exact eT rfl);(·exact eT rfl);(·exact hA2);(·exact hlt2))|(apply ex_indexAddr;(·exact eT rfl);(·exact eT rfl);(·exact hA3);(·exact hlt3))|(apply ex_loadfield (ad:=ad2) (i:=i) (k:=0);(·exact eT rfl);(·exact hrows);(·exact hA2);(·exact hx2);(·rfl))|(apply ex_loadfield (ad:=ad3) (i:=k) (k:=0);(·exact eT rfl);(·exact hrw);(·exact hA3);(·exact hv3);(·rfl))|((first|apply ex_move|apply ex_assign|apply ex_fieldAddr'|apply ex_lss|apply ex_len)<;>(first|exact eT rfl|exact eC))|((apply ex_orT)<;>(first|exact eT rfl|exact eG rfl))|((apply ex_loadown)<;>(first|exact eT rfl|exact Bk.own InH.mem|rfl))))))
              (apply ret_ok rfl;(·((apply Res.ofOne;((apply Res1.tmp;(·rfl))))))); rfl
            · by_cases c3 : k = 0
              · have hk0 : ¬ (0 : Int) < (k : Int) := by omega
                have hl1 := hz c3
                rw [decide_eq_false (show ¬ v ≤ last by omega), decide_eq_true (show v < (n : Int) by omega), show (!(false || !true) && incr n v (x.2.drop (k + 1))) = incr n v (x.2.drop (k + 1)) from rfl] at hinv
                repeat (first|(apply sp_cond_f;(·exact eT rfl);(·rfl))|apply then_n|apply block_n|apply sp_seq|apply sp_region|apply spl_nil|((apply sp_cond_t);(·exact eT rfl);(·(exact decide_eq_true (by omega))))|apply sp_skip|apply sp_block|((first|apply spl_pure rfl|(apply spl_pure_g rfl;(·(first|exact Gd.tt rfl rfl|exact Gd.tf rfl rfl))));(·(first|(exact ex_off rfl)|(apply ex_lssF c1;(·exact eT rfl);(·exact eC))|(apply ex_geqF c2;(·exact eT rfl);(·exact eT rfl))|(apply ex_gtrF hk0;(·exact eT rfl);(·exact eC))|(apply ex_indexAddr;(·exact eT rfl);(·exact eT rfl);(·exact hA2);(·exact hlt2))|(apply ex_indexAddr;(·exact eT rfl);(·exact eT rfl);(·exact hA3);(·exact hlt3))|(apply ex_loadfield (ad:=ad2) (i:=i) (k:=0);(·exact eT rfl);(·exact hrows);(·exact hA2);(·exact hx2);(·rfl))|(apply ex_loadfield (ad:=ad3) (i:=k) (k:=0);(·exact eT rfl);(·exact hrw);(·exact hA3);(·exact hv3);(·rfl))|((first|apply ex_move|apply ex_assign|apply ex_fieldAddr'|apply ex_lss|apply ex_len|apply ex_andT)<;>(first|exact eT rfl|exact eG rfl))|((apply ex_orT)<;>(exact eT rfl))|((apply ex_addn)<;>(first|exact eT rfl|exact eC|(constructor<;>omega)))|((apply ex_loadown)<;>(first|exact eT rfl|exact Bk.own InH.mem|rfl))))))
                exact ⟨(k + 1, v), ⟨hlt3, hinv, fun q => absurd q (Nat.succ_ne_zero _), fun _ => ⟨hv3, by omega⟩⟩, by (show x.1.n - (k + 1) < x.1.n - k; omega), (by (repeat (first|exact ESub.nil|apply ESub.cons rfl))), rfl, (by (repeat (exact HKeep.refl)))⟩
              · have hkp : (0 : Int) < (k : Int) := by omega
                obtain ⟨hpv, hp0⟩ := hps (by omega)
                have hsub : (k : Int) - 1 = ((k - 1 : Nat) : Int) := by omega
                have hltp : k - 1 < x.1.n := by omega
                by_cases c4 : v ≤ last
                · have hF := hbadx (by rw [decide_eq_true c4]; rfl)
                  rw [hF]
                  repeat (first|(apply sp_cond_t;(·exact eT rfl);(·rfl))|apply then_n|apply sp_seq|apply sp_region|apply spl_nil|apply then_r|apply block_r|((apply sp_cond_t);(·exact eT rfl);(·(exact decide_eq_true (by omega))))|apply sp_skip|apply sp_ret|apply sp_block|((first|apply spl_pure rfl|(apply spl_pure_g rfl;(·(first|exact Gd.tt rfl rfl|exact Gd.tf rfl rfl))));(·(first|(apply ex_lssF c1;(·exact eT rfl);(·exact eC))|(apply ex_geqF c2;(·exact eT rfl);(·exact eT rfl))|(apply ex_gtrT hkp;(·exact eT rfl);(·exact eC))|(apply ex_subE hsub;(·exact eT rfl);(·exact eC);(·(constructor<;>omega)))|(apply ex_indexAddr;(·exact eT rfl);(·exact eT rfl);(·exact hA3);(·exact hltp))|(apply ex_loadfield (ad:=ad3) (i:=k-1) (k:=0);(·exact eT rfl);(·exact hrw);(·exact hA3);(·exact hpv);(·rfl))|(apply ex_geqT c4;(·exact eT rfl);(·exact eT rfl))|(apply ex_indexAddr;(·exact eT rfl);(·exact eT rfl);(·exact hA2);(·exact hlt2))|(apply ex_indexAddr;(·exact eT rfl);(·exact eT rfl);(·exact hA3);(·exact hlt3))|(apply ex_loadfield (ad:=ad2) (i:=i) (k:=0);(·exact eT rfl);(·exact hrows);(·exact hA2);(·exact hx2);(·rfl))|(apply ex_loadfield (ad:=ad3) (i:=k) (k:=0);(·exact eT rfl);(·exact hrw);(·exact hA3);(·exact hv3);(·rfl))|((first|apply ex_move|apply ex_assign|apply ex_fieldAddr'|apply ex_lss|apply ex_len|apply ex_andT)<;>(first|exact eT rfl|exact eC))|((apply ex_orT)<;>(exact eT rfl))|((apply ex_loadown)<;>(first|exact eT rfl|exact Bk.own InH.mem|rfl))))))
                  (apply ret_ok rfl;(·((apply Res.ofOne;((apply Res1.tmp;(·rfl))))))); rfl
                · rw [decide_eq_false c4, decide_eq_true (show v < (n : Int) by omega), show (!(false || !true) && incr n v (x.2.drop (k + 1))) = incr n v (x.2.drop (k + 1)) from rfl] at hinv
                  repeat (first|(apply sp_cond_f;(·exact eT rfl);(·rfl))|apply then_n|apply block_n|apply sp_seq|apply sp_region|apply spl_nil|((apply sp_cond_t);(·exact eT rfl);(·(exact decide_eq_true (by omega))))|apply sp_skip|apply sp_block|((first|apply spl_pure rfl|(apply spl_pure_g rfl;(·(first|exact Gd.tt rfl rfl|exact Gd.tf rfl rfl))));(·(first|(apply ex_lssF c1;(·exact eT rfl);(·exact eC))|(apply ex_geqF c2;(·exact eT rfl);(·exact eT rfl))|(apply ex_gtrT hkp;(·exact eT rfl);(·exact eC))|(apply ex_subE hsub;(·exact eT rfl);(·exact eC);(·(constructor<;>omega)))|(apply ex_indexAddr;(·exact eT rfl);(·exact eT rfl);(·exact hA3);(·exact hltp))|(apply ex_loadfield (ad:=ad3) (i:=k-1) (k:=0);(·exact eT rfl);(·exact hrw);(·exact hA3);(·exact hpv);(·rfl))|(apply ex_geqF c4;(·exact eT rfl);(·exact eT rfl))|(apply ex_indexAddr;(·exact eT rfl);(·exact eT rfl);(·exact hA2);(·exact hlt2))|(apply ex_indexAddr;(·exact eT rfl);(·exact eT rfl);(·exact hA3);(·exact hlt3))|(apply ex_loadfield (ad:=ad2) (i:=i) (k:=0);(·exact eT rfl);(·exact hrows);(·exact hA2);(·exact hx2);(·rfl))|(apply ex_loadfield (ad:=ad3) (i:=k) (k:=0);(·exact eT rfl);(·exact hrw);(·exact hA3);(·exact hv3);(·rfl))|((first|apply ex_move|apply ex_assign|apply ex_fieldAddr'|apply ex_lss|apply ex_len|apply ex_andT)<;>(exact eT rfl))|((apply ex_orT)<;>(exact eT rfl))|((apply ex_addn)<;>(first|exact eT rfl|exact eC|(constructor<;>omega)))|((apply ex_loadown)<;>(first|exact eT rfl|exact Bk.own InH.mem|rfl))))))
                  exact ⟨(k + 1, v), ⟨hlt3, hinv, fun q => absurd q (Nat.succ_ne_zero _), fun _ => ⟨hv3, by omega⟩⟩, by (show x.1.n - (k + 1) < x.1.n - k; omega), (by (repeat (first|exact ESub.nil|apply ESub.cons rfl))), rfl, (by (repeat (exact HKeep.refl)))⟩
        · have hle := hrw.len
          rw [List.drop_eq_nil_of_le (by omega), show incr n last [] = true from rfl] at hinv
          have hbd : badD g x = false := by unfold badD; rw [hgd]; dsimp only; rw [hinv]; rfl
          have hno2 := any_miss hno hx2 hbd
          repeat (first|apply then_n|apply block_n|apply sp_seq|apply sp_region|apply spl_nil|apply then_e|apply block_here|(apply sp_cond_f;(·exact eT rfl);(·(exact decide_eq_false (by omega))))|apply sp_exit|((apply spl_pure rfl);(·(first|(apply ex_indexAddr;(·exact eT rfl);(·exact eT rfl);(·exact hA2);(·exact hlt2))|(apply ex_loadfield (ad:=ad2) (i:=i) (k:=0);(·exact eT rfl);(·exact hrows);(·exact hA2);(·exact hx2);(·rfl))|((first|apply ex_move|apply ex_assign|apply ex_fieldAddr'|apply ex_lss|apply ex_len)<;>(exact eT rfl))|((apply ex_addn)<;>(first|exact eT rfl|exact eC|(constructor<;>omega)))|((apply ex_loadown)<;>(first|exact eT rfl|exact Bk.own InH.mem|rfl))))))
          exact ⟨i + 1, ⟨hlt2, hno2⟩, by (show n' - (i + 1) < n' - i; omega), (by (repeat (first|exact ESub.nil|apply ESub.cons rfl))), rfl, (by (repeat (exact HKeep.refl)))⟩
      · have hD := any_take_all hno (by rw [hrows.len]; omega)
        rw [hD] at hV
        rw [hV]
        repeat (first|apply then_n|apply sp_seq|apply sp_region|apply spl_nil|apply then_e|apply block_here|(apply sp_cond_f;(·exact eT rfl);(·(exact decide_eq_false (by omega))))|apply sp_ret|apply sp_exit|((apply spl_pure rfl);(·(first|((first|apply ex_move|apply ex_assign|apply ex_fieldAddr'|apply ex_lss|apply ex_len)<;>(first|exact eT rfl|exact eC))|((apply ex_loadown)<;>(first|exact eT rfl|exact Bk.own InH.mem|rfl))))))
        (apply ret_ok rfl;(·((apply Res.ofOne;((apply Res1.tmp;(·rfl))))))); rfl
end Go.Proofs.Ytoogicafefennaa
/-
  Contracts: the law's test of games.
-/
namespace Go.Proofs.Ytoogicafefennaa
set_option linter.unusedVariables false
open Go.RowKit Go.Sy
set_option linter.unusedVariables false
set_option linter.unusedSimpArgs false
def fewG (g : GaR) : Bool := ((validG g && decide ((sizeN g g.sl.n : Int) ≤ 200000)) && decide ((g.dl.n : Int) ≤ 5)) && decide ((g.sl.n : Int) ≤ 3)
theorem fewG_t {g : GaR} (h : fewG g = true) : validG g = true ∧ sizeN g g.sl.n ≤ 200000 ∧ g.dl.n ≤ 5 ∧ g.sl.n ≤ 3 := by
  unfold fewG at h
  simp only [Bool.and_eq_true, decide_eq_true_eq] at h
  exact ⟨h.1.1.1, by omega, by omega, by omega⟩
attribute [local irreducible] Calls thenQ blockQ retQ jumpQ Spc Spl Spq Ex Ev Evs Gd Upd ESub HKeep Res Res1 wlk effQ Rem SrcAt Split sizeN base validG
set_option maxRecDepth 100000 in
set_option maxHeartbeats 4000000 in
theorem few_c {w : World} {g : GaR} (h : RdGa w w.heap.size g) : Calls Try.prog 17 #[.agg g.C] w (Ret w (.bool (fewG g))) := by
  have hval := fun (H : Heap) (w' : World) (hh : Hp w.heap.size w H w') => refvalid_c (h.hp hh)
  have hsm := fun (hG : validG g = true) (H : Heap) (w' : World) (hh : Hp w.heap.size w H w') => small_c (h.hp hh) (gaOk_of hG)
  refine sp_enter (vs := [_]) Try.func17 rfl Try.ntmps17 rfl ?_
  repeat (first|(apply spl_callp_g rfl;(·(first|exact Gd.none|exact Gd.tt rfl rfl));(·(repeat (first|exact eN|(apply eS;(·(first|exact eT rfl|exact eG rfl))))));(·exact fun hG w' hh => hsm hG _ w' hh))|(apply spl_callp rfl;(·(repeat (first|exact eN|(apply eS;(·exact eT rfl)))));(·exact fun w' hh => hval _ w' hh))|apply then_n|apply sp_seq|apply sp_region|apply spl_nil|apply sp_ret|((first|apply spl_pure rfl|(apply spl_pure_g rfl;(·exact Gd.tt rfl rfl)));(·(first|((first|apply ex_move|apply ex_assign|apply ex_fieldAddr'|apply ex_leq|apply ex_len|apply ex_andT)<;>(first|exact eT rfl|exact eC|exact eG rfl))|(apply ex_loadown<;>(first|exact eG rfl|exact Bk.own InH.mem|rfl))|(apply ex_loadowns<;>(first|exact eT rfl|exact Bk.own InH.mem|(rfl))))))|(apply spl_box;(·exact eT rfl);(·rfl);intro _ _))
  (apply ret_ok rfl;(·((apply Res.ofOne;((apply Res1.tmp;(·rfl))))))); rfl
end Go.Proofs.Ytoogicafefennaa
/-
  Contracts: judge.valid.
-/
namespace Go.Proofs.Ytoogicafefennaa
set_option linter.unusedVariables false
open Go.RowKit Go.Sy
set_option linter.unusedVariables false
set_option linter.unusedSimpArgs false
attribute [local irreducible] Calls thenQ blockQ retQ jumpQ Spc Spl Spq Ex Ev Evs Gd Upd ESub HKeep Res Res1 wlk effQ Rem SrcAt Split sizeN base
set_option maxRecDepth 100000 in
theorem jbadS_c {w : World} {k : Int} : Calls Try.prog 89 #[.int .i64 k] w (Ret w (.bool (badS k))) := by
  refine sp_enter (vs := [_]) Try.func89 rfl Try.ntmps89 rfl ?_
  repeat (first|apply then_n|apply sp_seq|apply sp_region|apply spl_nil|apply sp_ret|((first|apply spl_pure rfl|(apply spl_pure_g rfl;(·exact Gd.tf rfl rfl)));(·(first|((first|apply ex_move|apply ex_assign|apply ex_lss|apply ex_gtr)<;>(first|exact eT rfl|exact eC|exact eG rfl))|((apply ex_orT)<;>(first|exact eT rfl|exact eG rfl))))))
  (apply ret_ok rfl;(·((apply Res.ofOne;((apply Res1.tmp;(·rfl))))))); rfl
set_option maxRecDepth 100000 in
set_option maxHeartbeats 16000000 in
theorem jvalid_c {w : World} {g : GaR} (h : RdGa w w.heap.size g) : Calls Try.prog 50 #[.agg g.C] w (Ret w (.bool (validG g))) := by
  obtain ⟨⟨A, n, c⟩, starts, ⟨A', n', c'⟩, deps, bd⟩ := g
  obtain ⟨hst, hrows, hrow⟩ := h
  dsimp only at hst hrows hrow
  obtain ⟨g, hgd⟩ : ∃ g : GaR, g = ⟨⟨A, n, c⟩, starts, ⟨A', n', c'⟩, deps, bd⟩ := ⟨_, rfl⟩
  have hgC : GaR.C ⟨⟨A, n, c⟩, starts, ⟨A', n', c'⟩, deps, bd⟩ = #[.slice A n c, .slice A' n' c', .int .i64 bd] := rfl
  rw [← hgd] at hgC ⊢
  rw [hgC]
  have hbd2 := hrows.bound
  have hany := fun (H : Heap) (w' : World) (hh : Hp w.heap.size w H w') => anyf_c (c := c) (f := 89) (p := badS) (cap := []) (hst.hp' hh) (fun w2 hb k hm => jbadS_c)
  refine sp_enter (vs := [_]) Try.func50 rfl Try.ntmps50 rfl ?_
  cases hH : headG g with
  | true =>
    have hF : validG g = false := by unfold validG; rw [hH]; rfl
    rw [hF]
    rw [hgd] at hH
    unfold headG at hH
    dsimp only at hH
    repeat (first|(apply sp_cond_t;(·exact eT rfl);(·exact hH))|apply then_n|apply sp_seq|apply sp_region|apply spl_nil|apply then_r|apply sp_ret|((first|apply spl_pure rfl|(apply spl_pure_g rfl;(·exact Gd.tf rfl rfl)));(·(first|((first|apply ex_move|apply ex_assign|apply ex_fieldAddr'|apply ex_lss|apply ex_gtr|apply ex_len)<;>(first|exact eT rfl|exact eC|exact eG rfl))|((apply ex_orT)<;>(first|exact eT rfl|exact eG rfl))|((apply ex_loadown)<;>(first|exact eT rfl|exact eG rfl|exact Bk.own InH.mem|rfl)))))|(apply spl_box;(·exact eT rfl);(·rfl);intro _ _))
    (apply ret_ok rfl;(·((apply Res.ofOne;((apply Res1.tmp;(·rfl))))))); rfl
  | false =>
    have hV : validG g = (!starts.any badS && !deps.any (badD g)) := by unfold validG; rw [hH, hgd]; rfl
    rw [hgd] at hH
    unfold headG at hH
    dsimp only at hH
    repeat (first|(apply sp_cond_f;(·exact eT rfl);(·exact hH))|apply then_n|apply sp_seq|apply sp_region|apply spl_nil|apply sp_skip|apply sp_block|((first|apply spl_pure rfl|(apply spl_pure_g rfl;(·exact Gd.tf rfl rfl)));(·(first|((first|apply ex_move|apply ex_assign|apply ex_fieldAddr'|apply ex_lss|apply ex_gtr|apply ex_len)<;>(first|exact eT rfl|exact eC|exact eG rfl))|((apply ex_orT)<;>(first|exact eT rfl|exact eG rfl))|((apply ex_loadown)<;>(first|exact eT rfl|exact eG rfl|exact Bk.own InH.mem|rfl)))))|(apply spl_box;(·exact eT rfl);(·rfl);intro _ _))
    rename_i g1 hg1
    refine sp_loop (X := Nat) (fun i => [(31, true, .int .i64 (i : Int)), (30, true, .int .i64 (n' : Int)), (29, true, .slice A' n' c'), (1, true, .pointer (some ⟨g1, 0, none⟩))]) (fun _ => w) (fun _ => [(g1, .cells #[.slice A n c, .slice A' n' c', .int .i64 bd] 47 (0, 0))]) (fun i => i ≤ n' ∧ (deps.take i).any (badD g) = false) (fun i => n' - i) 0 ⟨Nat.zero_le _, rfl⟩ (by (repeat (first|exact ESub.nil|apply ESub.cons rfl))) rfl (by (repeat (exact HKeep.refl))) ?_
    rintro i ⟨hi, hno⟩
    by_cases hlt2 : i < n'
    · obtain ⟨ad2, x, hA2, hb2, hx2, hsz2, hc2⟩ := hrows.at_ hlt2
      have hrw := hrow x (List.mem_of_getElem? hx2)
      have hrb := hrw.bound
      repeat (first|apply then_n|apply sp_seq|apply sp_region|apply spl_nil|((apply sp_cond_t);(·exact eT rfl);(·(exact decide_eq_true (by omega))))|apply sp_skip|apply sp_block|((apply spl_pure rfl);(·(first|(apply ex_indexAddr;(·exact eT rfl);(·exact eT rfl);(·exact hA2);(·exact hlt2))|(apply ex_loadfield (ad:=ad2) (i:=i) (k:=0);(·exact eT rfl);(·exact hrows);(·exact hA2);(·exact hx2);(·rfl))|((first|apply ex_move|apply ex_assign|apply ex_lss|apply ex_len)<;>(first|exact eT rfl|exact eC))))))
      refine sp_loop (X := Nat × Int) (fun y => [(37, true, .int .i64 (y.1 : Int)), (5, true, .int .i64 y.2), (36, true, .int .i64 (x.1.n : Int)), (35, true, .slice x.1.a x.1.n x.1.c), (31, true, .int .i64 (i : Int)), (30, true, .int .i64 (n' : Int)), (29, true, .slice A' n' c'), (1, true, .pointer (some ⟨g1, 0, none⟩))]) (fun _ => w) (fun _ => [(g1, .cells #[.slice A n c, .slice A' n' c', .int .i64 bd] 47 (0, 0))]) (fun y => y.1 ≤ x.1.n ∧ incr n (-1) x.2 = incr n y.2 (x.2.drop y.1)) (fun y => x.1.n - y.1) (0, -1) ⟨Nat.zero_le _, rfl⟩ (by (repeat (first|exact ESub.nil|apply ESub.cons rfl))) rfl (by (repeat (exact HKeep.refl))) ?_
      rintro ⟨j, last⟩ ⟨hj, hinv⟩
      replace hj : j ≤ x.1.n := hj
      replace hinv : incr n (-1) x.2 = incr n last (x.2.drop j) := hinv
      dsimp only
      by_cases hlt : j < x.1.n
      · obtain ⟨ad, k, hA, hb, hk, hsz, hc⟩ := hrw.at_ hlt
        rw [incr_at hk] at hinv
        obtain ⟨hd, hhd⟩ : ∃ b, b = (decide (k ≤ last) || !decide (k < (n : Int))) := ⟨_, rfl⟩
        have hcond : (decide (k ≤ last) || decide ((n : Int) ≤ k)) = hd := by
          rw [hhd, show decide ((n : Int) ≤ k) = !decide (k < (n : Int)) by rw [Bool.eq_iff_iff]; simp]
        rw [← hhd] at hinv
        cases hd with
        | true =>
          rw [show (!true && incr n k (x.2.drop (j + 1))) = false from rfl] at hinv
          have hbx : badD g x = true := by unfold badD; rw [hgd]; dsimp only; rw [hinv]; rfl
          have hF : validG g = false := by rw [hV, List.any_eq_true.2 ⟨x, List.mem_of_getElem? hx2, hbx⟩]; simp
          rw [hF]
          repeat (first|(apply sp_cond_t;(·exact eT rfl);(·exact hcond))|apply then_n|apply sp_seq|apply sp_region|apply spl_nil|apply then_r|apply block_r|((apply sp_cond_t);(·exact eT rfl);(·(exact decide_eq_true (by omega))))|apply sp_skip|apply sp_ret|apply sp_block|((first|apply spl_pure rfl|(apply spl_pure_g rfl;(·exact Gd.tf rfl rfl)));(·(first|(apply ex_loadfield (ad:=ad) (i:=j) (k:=0);(·exact eT rfl);(·exact hrw);(·exact hA);(·exact hk);(·rfl))|((first|apply ex_move|apply ex_assign|apply ex_fieldAddr'|apply ex_lss|apply ex_leq|apply ex_geq|apply ex_len)<;>(first|exact eT rfl|exact eC|exact eG rfl))|((apply ex_orT)<;>(first|exact eT rfl|exact eG rfl))|((first|apply ex_loadown|apply ex_indexAddr)<;>(first|exact eT rfl|exact eG rfl|exact Bk.own InH.mem|rfl|assumption))))))
          (apply ret_ok rfl;(·((apply Res.ofOne;((apply Res1.tmp;(·rfl))))))); rfl
        | false =>
          rw [show (!false && incr n k (x.2.drop (j + 1))) = incr n k (x.2.drop (j + 1)) from rfl] at hinv
          repeat (first|(apply sp_cond_f;(·exact eT rfl);(·exact hcond))|apply then_n|apply block_n|apply sp_seq|apply sp_region|apply spl_nil|((apply sp_cond_t);(·exact eT rfl);(·(exact decide_eq_true (by omega))))|apply sp_skip|apply sp_block|((first|apply spl_pure rfl|(apply spl_pure_g rfl;(·exact Gd.tf rfl rfl)));(·(first|(apply ex_loadfield (ad:=ad) (i:=j) (k:=0);(·exact eT rfl);(·exact hrw);(·exact hA);(·exact hk);(·rfl))|((first|apply ex_move|apply ex_assign|apply ex_fieldAddr'|apply ex_lss|apply ex_leq|apply ex_geq|apply ex_len)<;>(first|exact eT rfl|exact eG rfl))|((apply ex_orT)<;>(first|exact eT rfl|exact eG rfl))|(apply ex_addn<;>(first|exact eT rfl|exact eC|(constructor<;>omega)))|((first|apply ex_loadown|apply ex_indexAddr)<;>(first|exact eT rfl|exact eG rfl|exact Bk.own InH.mem|rfl|assumption))))))
          exact ⟨(j + 1, k), ⟨hlt, hinv⟩, by (show x.1.n - (j + 1) < x.1.n - j; omega), (by (repeat (first|exact ESub.nil|apply ESub.cons rfl))), rfl, (by (repeat (exact HKeep.refl)))⟩
      · have hle := hrw.len
        rw [List.drop_eq_nil_of_le (by omega), show incr n last [] = true from rfl] at hinv
        have hbd : badD g x = false := by unfold badD; rw [hgd]; dsimp only; rw [hinv]; rfl
        have hno2 := any_miss hno hx2 hbd
        repeat (first|apply then_n|apply block_n|apply sp_seq|apply sp_region|apply spl_nil|apply then_e|apply block_here|(apply sp_cond_f;(·exact eT rfl);(·(exact decide_eq_false (by omega))))|apply sp_exit|((apply spl_pure rfl);(·(first|((first|apply ex_move|apply ex_lss)<;>(exact eT rfl))|(apply ex_addn<;>(first|exact eT rfl|exact eC|(constructor<;>omega)))))))
        exact ⟨i + 1, ⟨hlt2, hno2⟩, by (show n' - (i + 1) < n' - i; omega), (by (repeat (first|exact ESub.nil|apply ESub.cons rfl))), rfl, (by (repeat (exact HKeep.refl)))⟩
    · have hD := any_take_all hno (by rw [hrows.len]; omega)
      rw [hD, show (!starts.any badS && !false) = !starts.any badS by simp] at hV
      rw [hV]
      repeat (first|(apply spl_callp rfl;(·(repeat (first|exact eN|(apply eS;(·(first|exact eT rfl|exact eF))))));(·exact fun w' hh => hany _ w' hh))|apply then_n|apply sp_seq|apply sp_region|apply spl_nil|apply then_e|apply block_here|(apply sp_cond_f;(·exact eT rfl);(·(exact decide_eq_false (by omega))))|apply sp_ret|apply sp_exit|((apply spl_pure rfl);(·(first|((first|apply ex_assign|apply ex_fieldAddr'|apply ex_not|apply ex_lss)<;>(exact eT rfl))|((apply ex_loadown)<;>(first|exact eT rfl|exact Bk.own InH.mem|rfl))))))
      (apply ret_ok rfl;(·((apply Res.ofOne;((apply Res1.tmp;(·rfl))))))); rfl
end Go.Proofs.Ytoogicafefennaa
/-
  What a judge sees: situations with a mask of failures.
-/
namespace Go.Proofs.Ytoogicafefennaa
set_option linter.unusedVariables false
open Go.RowKit Go.Sy
set_option linter.unusedVariables false
set_option linter.unusedSimpArgs false
/-! Bits. -/
set_option maxRecDepth 100000 in
theorem or_tab : ∀ m < 64, ∀ v < 6, bits .or .i64 ((m : Nat) : Int) ((2 ^ v : Nat) : Int) = ((m ||| 2 ^ v : Nat) : Int) := of_decide_eq_true (by kernel_rfl)
set_option maxRecDepth 100000 in
theorem and_tab : ∀ m < 64, bits .and .i64 ((m : Nat) : Int) 1 = ((m % 2 : Nat) : Int) := of_decide_eq_true (by kernel_rfl)
set_option maxRecDepth 100000 in
theorem shl_tab : ∀ v < 6, IntKind.i64.wrap (1 * 2 ^ v) = ((2 ^ v : Nat) : Int) := of_decide_eq_true (by kernel_rfl)
section
variable {P : Program} {Be : Nat} {w0 : World} {H : Heap} {G : Bool} {e : Env} {ty t t' : TypeId} {x y : Operand}
theorem ex_shl1 {v : Nat} (hv : v < 6) (h1 : Ev G e x (.int .i64 1)) (h2 : Ev G e y (.int .i64 (v : Int))) : Ex P Be w0 H G e (.binOp .shl t x y t') ty (.int .i64 ((2 ^ v : Nat) : Int)) :=
  ex_int h1 h2 fun w => by
    have hb : ((v : Nat) : Int) ≤ IntKind.i64.bits := by simp [IntKind.bits]; omega
    rw [binOp_shl, shift_shl .i64 .i64 _ _ (by omega) hb, Int.toNat_natCast, shl_tab v hv]; rfl
theorem ex_orM {m v : Nat} (hm : m < 64) (hv : v < 6) (h1 : Ev G e x (.int .i64 (m : Int))) (h2 : Ev G e y (.int .i64 ((2 ^ v : Nat) : Int))) : Ex P Be w0 H G e (.binOp .or t x y t') ty (.int .i64 ((m ||| 2 ^ v : Nat) : Int)) :=
  ex_int h1 h2 fun w => by rw [binOp_or, intBits_or, or_tab m hm v hv]; rfl
theorem ex_shrM {m v : Nat} (hv : v < 6) (h1 : Ev G e x (.int .i64 (m : Int))) (h2 : Ev G e y (.int .i64 (v : Int))) : Ex P Be w0 H G e (.binOp .shr t x y t') ty (.int .i64 ((m / 2 ^ v : Nat) : Int)) :=
  ex_int h1 h2 fun w => by
    have hb : ((v : Nat) : Int) ≤ IntKind.i64.bits := by simp [IntKind.bits]; omega
    rw [binOp_shr, shift_shr .i64 .i64 _ _ (by omega) hb, Int.toNat_natCast, Int.natCast_ediv, Int.natCast_pow]; rfl
theorem ex_and1 {m : Nat} (hm : m < 64) (h1 : Ev G e x (.int .i64 (m : Int))) (h2 : Ev G e y (.int .i64 1)) : Ex P Be w0 H G e (.binOp .and t x y t') ty (.int .i64 ((m % 2 : Nat) : Int)) :=
  ex_int h1 h2 fun w => by rw [binOp_and, intBits_and, and_tab m hm]; rfl
end
/-! Masks. -/
def maskN (l : List Bool) (k : Nat) : Nat := (List.range k).foldl (fun m v => if gt l v then m ||| 2 ^ v else m) 0
theorem maskN_succ (l : List Bool) (k : Nat) : maskN l (k + 1) = if gt l k then maskN l k ||| 2 ^ k else maskN l k := by
  unfold maskN
  rw [List.range_succ, List.foldl_append]; rfl
theorem maskN_lt (l : List Bool) : ∀ k, maskN l k < 2 ^ k
  | 0 => Nat.one_pos
  | k + 1 => by
    rw [maskN_succ]
    have := maskN_lt l k
    have h2 : 2 ^ (k + 1) = 2 * 2 ^ k := by rw [Nat.pow_succ, Nat.mul_comm]
    split
    · exact Nat.or_lt_two_pow (by omega) (by omega)
    · omega
theorem mask_64 (l : List Bool) {k : Nat} (h : k ≤ 6) : maskN l k < 64 := by
  have h1 := maskN_lt l k
  have h2 : 2 ^ k ≤ 2 ^ 6 := Nat.pow_le_pow_right (by decide) h
  omega
theorem mask6_tab : ∀ f0 f1 f2 f3 f4 f5 : Bool, ∀ v < 6, (maskN [f0, f1, f2, f3, f4, f5] 6 / 2 ^ v % 2 = 1 ↔ gt [f0, f1, f2, f3, f4, f5] v = true) ∧ maskN ([f0, f1, f2, f3, f4, f5].set v true) 6 = maskN [f0, f1, f2, f3, f4, f5] 6 ||| 2 ^ v := of_decide_eq_true (by kernel_rfl)
theorem mask6 {l : List Bool} (h : l.length = 6) {v : Nat} (hv : v < 6) : (maskN l 6 / 2 ^ v % 2 = 1 ↔ gt l v = true) ∧ maskN (l.set v true) 6 = maskN l 6 ||| 2 ^ v := by
  match l, h with
  | [f0, f1, f2, f3, f4, f5], _ => exact mask6_tab f0 f1 f2 f3 f4 f5 v hv
theorem mask6_inj {l l' : List Bool} (h : l.length = 6) (h' : l'.length = 6) (he : maskN l 6 = maskN l' 6) : l = l' := by
  refine mk_ext (h.trans h'.symm) (fun k hk => ?_) fun k hk => ?_
  · have hk6 : k < 6 := by rw [← h]; exact gt_lt hk
    exact (mask6 h' hk6).1.1 (he ▸ (mask6 h hk6).1.2 hk)
  · have hk6 : k < 6 := by rw [← h']; exact gt_lt hk
    exact (mask6 h hk6).1.1 (he ▸ (mask6 h' hk6).1.2 hk)
/-- A state as a judge sees it. -/
def jOf (m : Nat) (s : GS) : JK := ⟨(s.turn : Int), (s.budget : Int), (m : Int), s.starts.map (fun n : Nat => (n : Int)), ((maskN s.failed 6 : Nat) : Int)⟩
theorem cast_inj : ∀ {l l' : List Nat}, l.map (fun n : Nat => (n : Int)) = l'.map (fun n : Nat => (n : Int)) → l = l'
  | [], [], _ => rfl
  | [], _ :: _, h => by cases h
  | _ :: _, [], h => by cases h
  | a :: l, b :: l', h => by
    rw [List.map_cons, List.map_cons] at h
    injection h with h1 h2
    rw [cast_inj h2, Int.ofNat.inj h1]
theorem jOf_inj {m : Nat} {s s' : GS} (h : s.Ok) (h' : s'.Ok) (he : jOf m s = jOf m s') : s = s' := by
  unfold jOf at he
  injection he with h1 h2 h3 h4 h5
  obtain ⟨t, st, fl, b⟩ := s
  obtain ⟨t', st', fl', b'⟩ := s'
  dsimp only at h1 h2 h4 h5
  have e1 : t = t' := by omega
  have e2 : b = b' := by omega
  have e3 : st = st' := cast_inj h4
  have e4 : fl = fl' := mask6_inj h.l2 h'.l2 (by omega)
  rw [e1, e2, e3, e4]
theorem jOf_ok {m : Nat} (hm : m ≤ 6) {s : GS} (h : s.Ok) : (jOf m s).Ok := by
  have h1 := h.t
  have h2 := h.b
  have h3 := mask_64 s.failed (k := 6) (Nat.le_refl _)
  refine ⟨W64.of (by show _ ≤ (s.turn : Int); omega) (by show (s.turn : Int) < _; omega), W64.of (by show _ ≤ (s.budget : Int); omega) (by show (s.budget : Int) < _; omega), W64.of (by show _ ≤ (m : Int); omega) (by show (m : Int) < _; omega), ?_, fun x hx => ?_, W64.of (by show _ ≤ ((maskN s.failed 6 : Nat) : Int); omega) (by show ((maskN s.failed 6 : Nat) : Int) < _; omega)⟩
  · show (s.starts.map _).length = 6
    rw [List.length_map]; exact h.l1
  · obtain ⟨n, hn, rfl⟩ := List.mem_map.1 (show x ∈ s.starts.map (fun n : Nat => (n : Int)) from hx)
    have := h.sb n hn
    exact W64.of (by omega) (by omega)
end Go.Proofs.Ytoogicafefennaa
/-
  Contracts: judge.situationOf.
-/
namespace Go.Proofs.Ytoogicafefennaa
set_option linter.unusedVariables false
open Go.RowKit Go.Sy
set_option linter.unusedVariables false
set_option linter.unusedSimpArgs false
structure PosR where
  turn : Int
  sl : Sl
  starts : List Int
  fl : Sl
  failed : List Bool
  budget : Int
  choice : Int
  bound : Int
def PosR.C (p : PosR) : Array Value := #[.int .i64 p.turn, .slice p.sl.a p.sl.n p.sl.c, .slice p.fl.a p.fl.n p.fl.c, .int .i64 p.budget, .int .i64 p.choice, .int .i64 p.bound]
instance PosR.one (p : PosR) : Ones p.C := ⟨by intro v hv; simp [PosR.C] at hv; rcases hv with h | h | h | h | h | h <;> subst h <;> rfl⟩
structure RdPos (w : World) (Be : Nat) (p : PosR) : Prop where
  st : RdS w Be 1 intC p.sl.a p.sl.n p.starts
  fl : RdS w Be 1 boolC p.fl.a p.fl.n p.failed
theorem RdPos.hp {w0 w : World} {Be : Nat} {H : Heap} {p : PosR} (h : RdPos w0 Be p) (hh : Hp Be w0 H w) : RdPos w w.heap.size p := ⟨h.st.hp' hh, h.fl.hp' hh⟩
def padZ (l : List Int) : List Int := l ++ List.replicate (6 - l.length) 0
def j0 (t b : Int) (m : Nat) (l : List Int) (k : Nat) : JK := ⟨t, b, (m : Int), padZ l, ((k : Nat) : Int)⟩
def sitOk (p : PosR) : Bool := !(decide ((6 : Int) < (p.sl.n : Int)) || !decide ((p.fl.n : Int) = (p.sl.n : Int)))
def sitJ (p : PosR) : JK := if sitOk p then j0 p.turn p.budget p.sl.n p.starts (maskN p.failed p.fl.n) else j0 p.turn p.budget p.sl.n [] 0
theorem copy_jk (t b : Int) (m : Nat) : ∀ l : List Int, l.length ≤ 6 → setL (j0 t b m [] 0).C 3 (l.map zv) = (j0 t b m l 0).C
  | [], _ => rfl
  | [x0], _ => rfl
  | [x0, x1], _ => rfl
  | [x0, x1, x2], _ => rfl
  | [x0, x1, x2, x3], _ => rfl
  | [x0, x1, x2, x3, x4], _ => rfl
  | [x0, x1, x2, x3, x4, x5], _ => rfl
  | x0 :: x1 :: x2 :: x3 :: x4 :: x5 :: x6 :: r, h => by simp at h
theorem JK.c9 {s : JK} (h : s.starts.length = 6) : s.C[9]? = some (.int .i64 s.failed) := by
  obtain ⟨t, b, m, st, f⟩ := s
  match st, h with
  | [x0, x1, x2, x3, x4, x5], _ => rfl
theorem JK.s9 {s : JK} (h : s.starts.length = 6) (v : Int) : s.C.setIfInBounds 9 (.int .i64 v) = { s with failed := v }.C := by
  obtain ⟨t, b, m, st, f⟩ := s
  match st, h with
  | [x0, x1, x2, x3, x4, x5], _ => rfl
theorem JK.size {s : JK} (h : s.starts.length = 6) : s.C.size = 10 := by
  obtain ⟨t, b, m, st, f⟩ := s
  match st, h with
  | [x0, x1, x2, x3, x4, x5], _ => rfl
instance JK.one (s : JK) : Ones s.C := ⟨by
  intro v hv
  unfold JK.C JK.L at hv
  simp only [List.mem_toArray, List.mem_cons, List.mem_append, List.mem_map, List.not_mem_nil, or_false] at hv
  rcases hv with rfl | rfl | rfl | ⟨x, _, rfl⟩ | rfl <;> rfl⟩
theorem padZ_len {l : List Int} (h : l.length ≤ 6) : (padZ l).length = 6 := by unfold padZ; rw [List.length_append, List.length_replicate]; omega
section
variable {P : Program} {N Be : Nat} {Q : Post} {e : Env} {w0 : World} {H : Heap} {ops : Array Oper} {rest : List Oper} {ty : TypeId} {pos : String} {after : Array Edge} {d : Nat}
theorem spl_copyZn {dT sT el sz : TypeId} {x y : Operand} {g off n c c2 m : Nat} {A : Option Addr} [ht : TSlice P dT el] [hz : TSize P el sz] (hm : m = 0) (hN : Nat.blt d N = true) (hx : Ev true e x (.slice (some ⟨g, off, none⟩) n c)) (hy : Ev true e y (.slice A m c2))
    (k : Spl P N Be ops Q rest ((d, true, .int .i64 0) :: e) w0 H) :
    Spl P N Be ops Q (⟨some d, .call ⟨.builtin .copy, #[x, y], #[dT, sT]⟩, ty, pos, after, none⟩ :: rest) e w0 H := by
  subst hm
  exact spl_copyZ hN hx hy k
end
attribute [local irreducible] Calls thenQ blockQ retQ jumpQ Spc Spl Spq Ex Ev Evs Gd Upd ESub HKeep Res Res1 wlk effQ Rem SrcAt Split JK.C maskN
def posY : Array Value := #[.int .i64 0, .int .i64 0, .int .i64 0, .int .i64 0, .int .i64 0, .int .i64 0, .int .i64 0, .int .i64 0, .int .i64 0, .int .i64 0]
set_option maxRecDepth 100000 in
set_option maxHeartbeats 8000000 in
theorem sit_c {w : World} {p : PosR} (h : RdPos w w.heap.size p) : Calls Try.prog 52 #[.agg p.C] w (Ret w (.tuple #[.agg (sitJ p).C, .bool (sitOk p)])) := by
  obtain ⟨turn, ⟨A, n, c⟩, starts, ⟨A', n', c'⟩, failed, budget, choice, bound⟩ := p
  obtain ⟨hst, hfl⟩ := h
  dsimp only at hst hfl
  have hlen := hst.len
  have hbd := hst.bound
  have hbd2 := hfl.bound
  have hpc : #[.int .i64 turn, .int .i64 budget, .int .i64 (n : Int), .int .i64 0, .int .i64 0, .int .i64 0, .int .i64 0, .int .i64 0, .int .i64 0, .int .i64 0] = (j0 turn budget n [] 0).C := by unfold JK.C; rfl
  have hz0 : (j0 turn budget n [] 0).C.size = 10 := JK.size rfl
  have hc2 : (j0 turn budget n [] 0).C[2]? = some (.int .i64 (n : Int)) := by unfold JK.C; rfl
  show Calls _ _ #[.agg #[.int .i64 turn, .slice A n c, .slice A' n' c', .int .i64 budget, .int .i64 choice, .int .i64 bound]] _ _
  refine sp_enter (vs := [_]) Try.func52 rfl Try.ntmps52 rfl ?_
  cases hok : sitOk ⟨turn, ⟨A, n, c⟩, starts, ⟨A', n', c'⟩, failed, budget, choice, bound⟩ with
  | false =>
    have hJ : sitJ ⟨turn, ⟨A, n, c⟩, starts, ⟨A', n', c'⟩, failed, budget, choice, bound⟩ = j0 turn budget n [] 0 := by unfold sitJ; rw [hok]; rfl
    rw [hJ]
    have hcond : (decide ((6 : Int) < (n : Int)) || !decide ((n' : Int) = (n : Int))) = true := by
      have hq := hok
      unfold sitOk at hq
      rw [Bool.not_eq_false'] at hq
      exact hq
    repeat (first|(apply sp_cond_t;(·exact eT rfl);(·exact hcond))|apply then_n|apply sp_seq|apply sp_region|apply spl_nil|apply then_r|apply sp_ret|((first|apply spl_pure rfl|(apply spl_pure_g rfl;(·exact Gd.tf rfl rfl)));(·(first|(apply ex_buildE (r:=(j0 turn budget n [] 0).C);(·(repeat (first|exact eN|(apply eS;(·exact eT rfl)))));(·rfl);(·exact hpc))|((first|apply ex_move|apply ex_assign|apply ex_fieldAddr'|apply ex_gtr|apply ex_sneq|apply ex_len)<;>(first|exact eT rfl|exact eC|exact eG rfl))|((first|apply ex_neq|apply ex_orT)<;>(first|exact eT rfl|exact eG rfl))|((apply ex_loadown)<;>(first|exact eT rfl|exact eG rfl|exact Bk.own InH.mem|rfl|assumption))|((apply ex_loadowns)<;>(first|exact eT rfl|exact Bk.own InH.mem|(assumption))))))|(apply spl_box;(·exact eT rfl);(·rfl);intro _ _)|(apply spl_alloc rfl;intro _ _)|(apply spl_stores;(·exact eT rfl);(·exact eT rfl);(·(repeat (first|exact Upd.here|apply Upd.there)));(·(rfl));(·(assumption));(·exact Ones.one)))
    (apply ret_ok rfl;(·((apply Res.ofTwo<;>(first|(apply Res1.tmp;(·rfl))|(apply Res1.cell;(·rfl);(·exact InH.mem);(·(assumption)))))))); rfl
  | true =>
    have hJ : sitJ ⟨turn, ⟨A, n, c⟩, starts, ⟨A', n', c'⟩, failed, budget, choice, bound⟩ = j0 turn budget n starts (maskN failed n') := by unfold sitJ; rw [hok]; rfl
    rw [hJ]
    have hcond : (decide ((6 : Int) < (n : Int)) || !decide ((n' : Int) = (n : Int))) = false := by
      have hq := hok
      unfold sitOk at hq
      rw [Bool.not_eq_true'] at hq
      exact hq
    have h2 := hcond
    rw [Bool.or_eq_false_iff, decide_eq_false_iff_not, Bool.not_eq_false', decide_eq_true_iff] at h2
    have hn6 : n ≤ 6 := by omega
    obtain rfl : n' = n := by omega
    have hcp := copy_jk turn budget n' starts (by omega)
    have hpl : (padZ starts).length = 6 := padZ_len (by omega)
    have hfl2 : starts.flatMap (fun x => (intC x).toList) = starts.map zv := by
      clear hcp hpl hlen hst hok hJ
      induction starts with
      | nil => rfl
      | cons x r ih => rw [List.flatMap_cons, ih]; rfl
    have hsrc := fun (H : Heap) (w' : World) (hh : Hp w.heap.size w H w') => hfl2 ▸ CellsAt.rd (hst.hp' hh)
    have hon : ∀ v ∈ starts.map zv, v.oneCell' = true := fun v hv => by obtain ⟨b, _, rfl⟩ := List.mem_map.1 hv; rfl
    have hvl : (starts.map zv).length = Nat.min n' 6 := by rw [List.length_map, hlen]; exact (Nat.min_eq_left hn6).symm
    have hfit : 0 + 3 + (starts.map zv).length ≤ (j0 turn budget n' [] 0).C.size := by rw [List.length_map, hz0]; omega
    have hm0 : maskN failed 0 = 0 := by unfold maskN; rfl
    by_cases hn0 : n' = 0
    · have hnil : starts = [] := List.eq_nil_of_length_eq_zero (by omega)
      have hbeg : j0 turn budget n' starts 0 = j0 turn budget n' [] 0 := by rw [hnil]
      repeat (first|(refine sp_drawn (id := 4) [(0, true), (1, true), (2, true), (3, true), (4, false)] 4 _ mixed ?_ HKeep.refl ?_;(·kernel_rfl))|(apply sp_cond_f;(·exact eT rfl);(·exact hcond))|(apply spl_copyZn hn0 rfl;(·exact eT rfl);(·exact eT rfl))|apply then_n|apply sp_seq|apply sp_region|apply spl_nil|apply sp_skip|apply sp_block|((first|apply spl_pure rfl|(apply spl_pure_g rfl;(·exact Gd.tf rfl rfl))|apply wlk_read rfl rfl);(·(first|(apply ex_buildE (r:=(j0 turn budget n' [] 0).C);(·(repeat (first|exact eN|(apply eS;(·exact eT rfl)))));(·rfl);(·exact hpc))|(apply ex_sliceArr;(·exact eT rfl))|((first|apply ex_move|apply ex_assign|apply ex_fieldAddr'|apply ex_gtr|apply ex_sneq|apply ex_len)<;>(first|exact eT rfl|exact eC|exact eG rfl))|((first|apply ex_neq|apply ex_orT)<;>(first|exact eT rfl|exact eG rfl))|((apply ex_loadown)<;>(first|exact eT rfl|exact eG rfl|exact Bk.own InH.mem|rfl|assumption)))))|(apply spl_box;(·exact eT rfl);(·rfl);intro _ _)|(apply spl_alloc rfl;intro _ _)|(apply spl_stores;(·exact eT rfl);(·exact eT rfl);(·(repeat (exact Upd.here)));(·(rfl));(·(assumption));(·exact Ones.one))|(apply effq;(·(intro h_;((exact absurd h_ (by decide))))))|apply wlk_nil|apply wlk_eff rfl)
      rename_i g1 hg1 g2 hg2 g4 hg4
      refine sp_loop (X := Nat) (fun i => [(35, true, .int .i64 (i : Int)), (34, true, .int .i64 (n' : Int)), (33, true, .slice A' n' c'), (4, true, .pointer (some ⟨g4, 0, none⟩)), (2, true, .pointer (some ⟨g2, 0, none⟩))]) (fun _ => w) (fun i => [(g4, .cells (j0 turn budget n' starts (maskN failed i)).C 102 (0, 0)), (g2, .cells posY 102 (0, 0))]) (fun i => i ≤ n') (fun i => n' - i) 0 (Nat.zero_le _) (by (repeat (first|exact ESub.nil|apply ESub.cons rfl))) rfl (by rw [hm0, hbeg]; unfold posY; (repeat (first|exact HKeep.refl|apply HKeep.keep|apply HKeep.drop (by first|assumption|omega)))) ?_
      intro i hi
      have hm6 : maskN failed i < 64 := mask_64 failed (by omega)
      by_cases hlt : i < n'
      · obtain ⟨ad, b, hA, hb, hx, hsz, hc⟩ := hfl.at_ hlt
        have hi6 : i < 6 := by omega
        have hgt := gt_of hx
        cases b with
        | false =>
          have hsn : maskN failed (i + 1) = maskN failed i := by rw [maskN_succ, hgt]; rfl
          repeat (first|(apply sp_cond_f;(·exact eT rfl);(·rfl))|apply then_n|apply block_n|apply sp_seq|apply sp_region|apply spl_nil|((apply sp_cond_t);(·exact eT rfl);(·(exact decide_eq_true (by omega))))|apply sp_skip|apply sp_block|((apply spl_pure rfl);(·(first|(apply ex_loadfield (ad:=ad) (i:=i) (k:=0);(·exact eT rfl);(·exact hfl);(·exact hA);(·exact hx);(·rfl))|((first|apply ex_move|apply ex_assign|apply ex_lss)<;>(exact eT rfl))|((apply ex_addn)<;>(first|exact eT rfl|exact eC|(constructor<;>omega)))|((apply ex_indexAddr)<;>(first|exact eT rfl|assumption))))))
          exact ⟨i + 1, hlt, by (show n' - (i + 1) < n' - i; omega), (by (repeat (first|exact ESub.nil|apply ESub.cons rfl))), rfl, (by rw [hsn]; (repeat (exact HKeep.refl)))⟩
        | true =>
          have hsn : maskN failed (i + 1) = maskN failed i ||| 2 ^ i := by rw [maskN_succ, hgt]; rfl
          have hget : (j0 turn budget n' starts (maskN failed i)).C[9]? = some (.int .i64 ((maskN failed i : Nat) : Int)) := JK.c9 hpl
          have hset : (j0 turn budget n' starts (maskN failed i)).C.setIfInBounds 9 (.int .i64 ((maskN failed i ||| 2 ^ i : Nat) : Int)) = (j0 turn budget n' starts (maskN failed i ||| 2 ^ i)).C := JK.s9 hpl _
          have hs9 : 9 < (j0 turn budget n' starts (maskN failed i)).C.size := by rw [JK.size hpl]; decide
          repeat (first|(refine sp_drawn (id := 9) [(0, true), (1, true), (2, true), (3, true), (4, true), (5, true), (6, false)] 6 _ mixed ?_ HKeep.refl ?_;(·kernel_rfl))|(apply sp_cond_t;(·exact eT rfl);(·rfl))|(apply spl_store1E hset;(·exact eT rfl);(·exact eT rfl);(·rfl);(·(repeat (exact Upd.here)));(·exact hs9))|apply then_n|apply block_n|apply sp_seq|apply sp_region|apply spl_nil|((apply sp_cond_t);(·exact eT rfl);(·(exact decide_eq_true (by omega))))|apply sp_skip|apply sp_block|((first|apply spl_pure rfl|apply wlk_read rfl rfl);(·(first|(apply ex_loadfield (ad:=ad) (i:=i) (k:=0);(·exact eT rfl);(·exact hfl);(·exact hA);(·exact hx);(·rfl))|(apply ex_shl1 hi6;(·exact eC);(·exact eT rfl))|(apply ex_orM hm6 hi6;(·exact eT rfl);(·exact eT rfl))|((first|apply ex_move|apply ex_assign|apply ex_fieldAddr'|apply ex_lss)<;>(exact eT rfl))|((apply ex_addn)<;>(first|exact eT rfl|exact eC|(constructor<;>omega)))|((first|apply ex_loadown|apply ex_indexAddr)<;>(first|exact eT rfl|exact Bk.own InH.mem|assumption)))))|(apply effq;(·(intro h_;((exact absurd h_ (by decide))))))|apply wlk_nil|apply wlk_eff rfl)
          exact ⟨i + 1, hlt, by (show n' - (i + 1) < n' - i; omega), (by (repeat (first|exact ESub.nil|apply ESub.cons rfl))), rfl, (by rw [hsn]; (repeat (exact HKeep.refl)))⟩
      · have hin : i = n' := by omega
        rw [hin]
        have hszn : (j0 turn budget n' starts (maskN failed n')).C.size = 10 := JK.size hpl
        repeat (first|apply then_n|apply sp_seq|apply sp_region|apply spl_nil|apply then_e|apply block_here|(apply sp_cond_f;(·exact eT rfl);(·(exact decide_eq_false (by omega))))|apply sp_ret|apply sp_exit|((apply spl_pure rfl);(·(first|((first|apply ex_assign|apply ex_lss)<;>(first|exact eT rfl|exact eC))|((apply ex_loadowns)<;>(first|exact eT rfl|exact Bk.own InH.mem|(assumption))))))|(apply spl_stores;(·exact eT rfl);(·exact eT rfl);(·(repeat (first|exact Upd.here|apply Upd.there)));(·(rfl));(·(assumption));(·exact Ones.one)))
        (apply ret_ok rfl;(·((apply Res.ofTwo<;>(first|(apply Res1.tmp;(·rfl))|(apply Res1.cell;(·rfl);(·exact InH.mem);(·(assumption)))))))); rfl
    · have hpos : 0 < (starts.map zv).length := by rw [List.length_map]; omega
      have hbeg : j0 turn budget n' starts 0 = j0 turn budget n' starts 0 := rfl
      repeat (first|(refine sp_drawn (id := 4) [(0, true), (1, true), (2, true), (3, true), (4, false)] 4 _ mixed ?_ HKeep.refl ?_;(·kernel_rfl))|(apply sp_cond_f;(·exact eT rfl);(·exact hcond))|(apply spl_copyC (cs':=(j0 turn budget n' starts 0).C) (vs:=starts.map zv) rfl;(·exact eT rfl);(·exact eT rfl);(·exact fun w' hh => hsrc _ w' hh);(·exact hvl);(·exact hpos);(·exact hon);(·exact hcp);(·(repeat (exact Upd.here)));(·exact hfit))|apply then_n|apply sp_seq|apply sp_region|apply spl_nil|apply sp_skip|apply sp_block|((first|apply spl_pure rfl|(apply spl_pure_g rfl;(·exact Gd.tf rfl rfl))|apply wlk_read rfl rfl);(·(first|(apply ex_buildE (r:=(j0 turn budget n' [] 0).C);(·(repeat (first|exact eN|(apply eS;(·exact eT rfl)))));(·rfl);(·exact hpc))|(apply ex_sliceArr;(·exact eT rfl))|((first|apply ex_move|apply ex_assign|apply ex_fieldAddr'|apply ex_gtr|apply ex_sneq|apply ex_len)<;>(first|exact eT rfl|exact eC|exact eG rfl))|((first|apply ex_neq|apply ex_orT)<;>(first|exact eT rfl|exact eG rfl))|((apply ex_loadown)<;>(first|exact eT rfl|exact eG rfl|exact Bk.own InH.mem|rfl|assumption)))))|(apply spl_box;(·exact eT rfl);(·rfl);intro _ _)|(apply spl_alloc rfl;intro _ _)|(apply spl_stores;(·exact eT rfl);(·exact eT rfl);(·(repeat (exact Upd.here)));(·(rfl));(·(assumption));(·exact Ones.one))|(apply effq;(·(intro h_;((exact absurd h_ (by decide))))))|apply wlk_nil|apply wlk_eff rfl)
      rename_i g1 hg1 g2 hg2 g4 hg4
      refine sp_loop (X := Nat) (fun i => [(35, true, .int .i64 (i : Int)), (34, true, .int .i64 (n' : Int)), (33, true, .slice A' n' c'), (4, true, .pointer (some ⟨g4, 0, none⟩)), (2, true, .pointer (some ⟨g2, 0, none⟩))]) (fun _ => w) (fun i => [(g4, .cells (j0 turn budget n' starts (maskN failed i)).C 102 (0, 0)), (g2, .cells posY 102 (0, 0))]) (fun i => i ≤ n') (fun i => n' - i) 0 (Nat.zero_le _) (by (repeat (first|exact ESub.nil|apply ESub.cons rfl))) rfl (by rw [hm0, hbeg]; unfold posY; (repeat (first|exact HKeep.refl|apply HKeep.keep|apply HKeep.drop (by first|assumption|omega)))) ?_
      intro i hi
      have hm6 : maskN failed i < 64 := mask_64 failed (by omega)
      by_cases hlt : i < n'
      · obtain ⟨ad, b, hA, hb, hx, hsz, hc⟩ := hfl.at_ hlt
        have hi6 : i < 6 := by omega
        have hgt := gt_of hx
        cases b with
        | false =>
          have hsn : maskN failed (i + 1) = maskN failed i := by rw [maskN_succ, hgt]; rfl
          repeat (first|(apply sp_cond_f;(·exact eT rfl);(·rfl))|apply then_n|apply block_n|apply sp_seq|apply sp_region|apply spl_nil|((apply sp_cond_t);(·exact eT rfl);(·(exact decide_eq_true (by omega))))|apply sp_skip|apply sp_block|((apply spl_pure rfl);(·(first|(apply ex_loadfield (ad:=ad) (i:=i) (k:=0);(·exact eT rfl);(·exact hfl);(·exact hA);(·exact hx);(·rfl))|((first|apply ex_move|apply ex_assign|apply ex_lss)<;>(exact eT rfl))|((apply ex_addn)<;>(first|exact eT rfl|exact eC|(constructor<;>omega)))|((apply ex_indexAddr)<;>(first|exact eT rfl|assumption))))))
          exact ⟨i + 1, hlt, by (show n' - (i + 1) < n' - i; omega), (by (repeat (first|exact ESub.nil|apply ESub.cons rfl))), rfl, (by rw [hsn]; (repeat (exact HKeep.refl)))⟩
        | true =>
          have hsn : maskN failed (i + 1) = maskN failed i ||| 2 ^ i := by rw [maskN_succ, hgt]; rfl
          have hget : (j0 turn budget n' starts (maskN failed i)).C[9]? = some (.int .i64 ((maskN failed i : Nat) : Int)) := JK.c9 hpl
          have hset : (j0 turn budget n' starts (maskN failed i)).C.setIfInBounds 9 (.int .i64 ((maskN failed i ||| 2 ^ i : Nat) : Int)) = (j0 turn budget n' starts (maskN failed i ||| 2 ^ i)).C := JK.s9 hpl _
          have hs9 : 9 < (j0 turn budget n' starts (maskN failed i)).C.size := by rw [JK.size hpl]; decide
          repeat (first|(refine sp_drawn (id := 9) [(0, true), (1, true), (2, true), (3, true), (4, true), (5, true), (6, false)] 6 _ mixed ?_ HKeep.refl ?_;(·kernel_rfl))|(apply sp_cond_t;(·exact eT rfl);(·rfl))|(apply spl_store1E hset;(·exact eT rfl);(·exact eT rfl);(·rfl);(·(repeat (exact Upd.here)));(·exact hs9))|apply then_n|apply block_n|apply sp_seq|apply sp_region|apply spl_nil|((apply sp_cond_t);(·exact eT rfl);(·(exact decide_eq_true (by omega))))|apply sp_skip|apply sp_block|((first|apply spl_pure rfl|apply wlk_read rfl rfl);(·(first|(apply ex_loadfield (ad:=ad) (i:=i) (k:=0);(·exact eT rfl);(·exact hfl);(·exact hA);(·exact hx);(·rfl))|(apply ex_shl1 hi6;(·exact eC);(·exact eT rfl))|(apply ex_orM hm6 hi6;(·exact eT rfl);(·exact eT rfl))|((first|apply ex_move|apply ex_assign|apply ex_fieldAddr'|apply ex_lss)<;>(exact eT rfl))|((apply ex_addn)<;>(first|exact eT rfl|exact eC|(constructor<;>omega)))|((first|apply ex_loadown|apply ex_indexAddr)<;>(first|exact eT rfl|exact Bk.own InH.mem|assumption)))))|(apply effq;(·(intro h_;((exact absurd h_ (by decide))))))|apply wlk_nil|apply wlk_eff rfl)
          exact ⟨i + 1, hlt, by (show n' - (i + 1) < n' - i; omega), (by (repeat (first|exact ESub.nil|apply ESub.cons rfl))), rfl, (by rw [hsn]; (repeat (exact HKeep.refl)))⟩
      · have hin : i = n' := by omega
        rw [hin]
        have hszn : (j0 turn budget n' starts (maskN failed n')).C.size = 10 := JK.size hpl
        repeat (first|apply then_n|apply sp_seq|apply sp_region|apply spl_nil|apply then_e|apply block_here|(apply sp_cond_f;(·exact eT rfl);(·(exact decide_eq_false (by omega))))|apply sp_ret|apply sp_exit|((apply spl_pure rfl);(·(first|((first|apply ex_assign|apply ex_lss)<;>(first|exact eT rfl|exact eC))|((apply ex_loadowns)<;>(first|exact eT rfl|exact Bk.own InH.mem|(assumption))))))|(apply spl_stores;(·exact eT rfl);(·exact eT rfl);(·(repeat (first|exact Upd.here|apply Upd.there)));(·(rfl));(·(assumption));(·exact Ones.one)))
        (apply ret_ok rfl;(·((apply Res.ofTwo<;>(first|(apply Res1.tmp;(·rfl))|(apply Res1.cell;(·rfl);(·exact InH.mem);(·(assumption)))))))); rfl
end Go.Proofs.Ytoogicafefennaa
/-
  Contracts: what failures make of a situation.
-/
namespace Go.Proofs.Ytoogicafefennaa
set_option linter.unusedVariables false
open Go.RowKit Go.Sy
set_option linter.unusedVariables false
set_option linter.unusedSimpArgs false
def jL (m : Nat) (l : List GS) : List Value := l.flatMap fun x => (jOf m x).C.toList
theorem jL_snoc (m : Nat) (l : List GS) (x : GS) : jL m (l ++ [x]) = jL m l ++ (jOf m x).C.toList := by unfold jL; rw [List.flatMap_append]; simp
/-- The moves so far. -/
def madeN (m : Nat) (s : GS) (v : Nat) : List GS := s :: ((List.range v).filter fun i => !gt s.failed i).map (failS s)
theorem madeN_t {m v : Nat} {s : GS} (h : gt s.failed v = false) : madeN m s (v + 1) = madeN m s v ++ [failS s v] := by
  unfold madeN
  rw [filter_snoc_t (p := fun i => !gt s.failed i) (by rw [h]; rfl), List.map_append]; rfl
theorem madeN_f {m v : Nat} {s : GS} (h : gt s.failed v = true) : madeN m s (v + 1) = madeN m s v := by
  unfold madeN
  rw [filter_snoc_f (p := fun i => !gt s.failed i) (by rw [h]; rfl)]
theorem made_none {m : Nat} {s : GS} (h : s.budget = 0) : movesL m s = madeN m s 0 := by unfold movesL madeN; rw [if_pos h]; rfl
theorem made_all {m : Nat} {s : GS} (h : s.budget ≠ 0) : movesL m s = madeN m s m := by unfold movesL madeN; rw [if_neg h]
theorem madeN_len (m : Nat) (s : GS) (v : Nat) : (madeN m s v).length ≤ v + 1 := by
  unfold madeN
  rw [List.length_cons, List.length_map]
  have := filter_len (fun i => !gt s.failed i) v
  omega
theorem jOf_c1 {m : Nat} {s : GS} : (jOf m s).C[1]? = some (.int .i64 (s.budget : Int)) := rfl
theorem jOf_c2 {m : Nat} {s : GS} : (jOf m s).C[2]? = some (.int .i64 (m : Int)) := rfl
theorem jOf_c9 {m : Nat} {s : GS} (h : s.Ok) : (jOf m s).C[9]? = some (.int .i64 ((maskN s.failed 6 : Nat) : Int)) := JK.c9 (by show (s.starts.map _).length = 6; rw [List.length_map]; exact h.l1)
theorem jOf_size {m : Nat} {s : GS} (h : s.Ok) : (jOf m s).C.size = 10 := JK.size (by show (s.starts.map _).length = 6; rw [List.length_map]; exact h.l1)
theorem jOf_s1 {m n : Nat} {s : GS} : (jOf m s).C.setIfInBounds 1 (.int .i64 (n : Int)) = (jOf m { s with budget := n }).C := rfl
theorem jOf_s9 {m v : Nat} {s : GS} (h : s.Ok) (hv : v < 6) : (jOf m s).C.setIfInBounds 9 (.int .i64 ((maskN s.failed 6 ||| 2 ^ v : Nat) : Int)) = (jOf m { s with failed := s.failed.set v true }).C := by
  have h2 := (mask6 h.l2 hv).2
  rw [JK.s9 (by show (s.starts.map _).length = 6; rw [List.length_map]; exact h.l1)]
  unfold jOf
  rw [h2]
attribute [local irreducible] Calls thenQ blockQ retQ jumpQ Spc Spl Spq Ex Ev Evs Gd Upd ESub HKeep Res Res1 wlk effQ Rem SrcAt Split JK.C maskN jOf jL madeN movesL
set_option maxRecDepth 100000 in
set_option maxHeartbeats 8000000 in
theorem made_c {w : World} {m : Nat} {s : GS} (hm : m ≤ 6) (h : s.Ok) : Calls Try.prog 54 #[.agg (jOf m s).C] w
    (RetH w (fun r : RowS => r.val (movesL m s).length) (fun r => r.hp (jL m (movesL m s)) 102) (fun r => r.ok 10 (movesL m s).length (jL m (movesL m s)))) := by
  have hb := h.b
  have hc1 : (jOf m s).C[1]? = some (.int .i64 (s.budget : Int)) := jOf_c1
  have hc2 : (jOf m s).C[2]? = some (.int .i64 (m : Int)) := jOf_c2
  have hc9 := jOf_c9 (m := m) h
  have hz := jOf_size (m := m) h
  have hst0 : jL m (madeN m s 0) = (jOf m s).C.toList := by unfold jL madeN; simp
  have hl0 : (madeN m s 0).length = 1 := by unfold madeN; rfl
  have hx0 : (jL m (madeN m s 0)).length = 10 := by rw [hst0, Array.length_toList, hz]
  refine sp_enter (vs := [_]) Try.func54 rfl Try.ntmps54 rfl ?_
  repeat (first|(apply spl_buildSlice (d := 7) rfl;(·rfl);(·(repeat (first|exact eN|(apply eS;(·exact eT rfl)))));(·rfl);(·(show (Nat.beq (jOf m s).C.size 10 && true) = true;rw [hz];rfl));(·rfl);intro ga hga)|apply then_n|apply sp_seq|apply sp_region|apply spl_nil|apply sp_block|((apply spl_pure rfl);(·(first|((apply ex_assign)<;>(first|exact eT rfl|exact eC))|(apply ex_loadowns<;>(first|exact eT rfl|exact Bk.own InH.mem|(assumption))))))|(apply spl_box;(·exact eT rfl);(·rfl);intro _ _))
  rename_i g1 hg1
  refine sp_loop (X := Nat × RowS) (fun y => [(4, true, .int .i64 (y.1 : Int)), (3, true, y.2.val (madeN m s y.1).length), (1, true, .pointer (some ⟨g1, 0, none⟩))]) (fun _ => w) (fun y => y.2.hp (jL m (madeN m s y.1)) 102 ++ [(g1, .cells (jOf m s).C 102 (0, 0))])
    (fun y => y.1 ≤ m ∧ (s.budget = 0 → y.1 = 0) ∧ y.2.ok 10 (madeN m s y.1).length (jL m (madeN m s y.1)) ∧ y.2.fresh w.heap.size) (fun y => m - y.1) (0, ⟨some ga, 1, []⟩) ⟨Nat.zero_le _, fun _ => rfl, ?_, ?_⟩ ?_ rfl ?_ ?_
  · show (madeN m s 0).length ≤ 1 ∧ (jL m (madeN m s 0) ++ []).length = 1 * 10 ∧ (jL m (madeN m s 0)).length = (madeN m s 0).length * 10
    rw [hl0, List.append_nil, hx0]
    exact ⟨Nat.le_refl _, rfl, rfl⟩
  · intro p hp
    cases hp
    exact hga
  · dsimp only
    rw [hl0]
    show ESub [(4, true, .int .i64 ((0 : Nat) : Int)), (3, true, .slice (some ⟨ga, 0, none⟩) 1 1), (1, true, .pointer (some ⟨g1, 0, none⟩))] _
    (repeat (first|exact ESub.nil|apply ESub.cons rfl))
  · dsimp only
    show HKeep w ((ga, .cells (jL m (madeN m s 0) ++ []).toArray 102 (0, 0)) :: [(g1, .cells (jOf m s).C 102 (0, 0))]) _
    rw [hst0]
    (repeat (exact HKeep.refl))
  rintro ⟨v, r⟩ ⟨hv, hv0, hr, hfr⟩
  replace hv : v ≤ m := hv
  replace hr : r.ok 10 (madeN m s v).length (jL m (madeN m s v)) := hr
  replace hfr : r.fresh w.heap.size := hfr
  replace hv0 : s.budget = 0 → v = 0 := hv0
  dsimp only
  have hrow := RowS.drop (xs := jL m (madeN m s v)) (T := 102) hfr
  have hml := madeN_len m s v
  by_cases hb0 : s.budget = 0
  · have hvz := hv0 hb0
    have hfin := made_none (m := m) hb0
    subst hvz
    have hbg : ¬ (0 : Int) < (s.budget : Int) := by omega
    rw [hfin]
    by_cases hlt : 0 < m
    · have hlt' : ((0 : Nat) : Int) < (m : Int) := by omega
      repeat (first|(apply sp_cond_f;(·exact eT rfl);(·rfl))|apply then_n|apply sp_seq|apply sp_region|apply spl_nil|apply then_e|apply block_here|apply sp_ret|apply sp_exit|((first|apply spl_pure rfl|(apply spl_pure_g rfl;(·exact Gd.tt rfl rfl)));(·(first|(apply ex_lssT hlt';(·exact eT rfl);(·exact eT rfl))|(apply ex_gtrF hbg;(·exact eT rfl);(·exact eC))|((first|apply ex_move|apply ex_assign|apply ex_fieldAddr'|apply ex_andT)<;>(exact eT rfl))|(apply ex_loadown<;>(first|exact eT rfl|exact Bk.own InH.mem|assumption))))))
      (apply retH_ok rfl;(·((apply Res.ofOne;((apply Res1.tmp;(·rfl)))))))
      exact ⟨r, rfl, hr, hkeep_tail fun p hp => by rw [List.mem_singleton.1 hp]; exact hg1⟩
    · have hlt' : ¬ ((0 : Nat) : Int) < (m : Int) := by omega
      repeat (first|(apply sp_cond_f;(·exact eT rfl);(·rfl))|apply then_n|apply sp_seq|apply sp_region|apply spl_nil|apply then_e|apply block_here|apply sp_ret|apply sp_exit|((first|apply spl_pure rfl|(apply spl_pure_g rfl;(·exact Gd.tt rfl rfl)));(·(first|(exact ex_off rfl)|(apply ex_lssF hlt';(·exact eT rfl);(·exact eT rfl))|((first|apply ex_move|apply ex_assign|apply ex_fieldAddr'|apply ex_andT)<;>(first|exact eT rfl|exact eG rfl))|(apply ex_loadown<;>(first|exact eT rfl|exact Bk.own InH.mem|assumption))))))
      (apply retH_ok rfl;(·((apply Res.ofOne;((apply Res1.tmp;(·rfl)))))))
      exact ⟨r, rfl, hr, hkeep_tail fun p hp => by rw [List.mem_singleton.1 hp]; exact hg1⟩
  · have hbg : (0 : Int) < (s.budget : Int) := by omega
    by_cases hlt : v < m
    · have hlt' : (v : Int) < (m : Int) := by omega
      have hv6 : v < 6 := by omega
      have hmk := mask_64 s.failed (k := 6) (Nat.le_refl _)
      have hmd : maskN s.failed 6 / 2 ^ v < 64 := Nat.lt_of_le_of_lt (Nat.div_le_self _ _) hmk
      have hbit := (mask6 h.l2 hv6).1
      cases hf : gt s.failed v with
      | true =>
        have h1 := hbit.2 hf
        have hne : ((maskN s.failed 6 / 2 ^ v % 2 : Nat) : Int) ≠ 0 := by omega
        have hmn := madeN_f (m := m) hf
        repeat (first|(apply sp_cond_f;(·exact eT rfl);(·rfl))|(apply sp_cond_t;(·exact eT rfl);(·rfl))|apply then_n|apply block_n|apply sp_seq|apply sp_region|apply spl_nil|apply sp_skip|apply sp_block|((first|apply spl_pure rfl|(apply spl_pure_g rfl;(·exact Gd.tt rfl rfl)));(·(first|(apply ex_lssT hlt';(·exact eT rfl);(·exact eT rfl))|(apply ex_gtrT hbg;(·exact eT rfl);(·exact eC))|(apply ex_shrM hv6;(·exact eT rfl);(·exact eT rfl))|(apply ex_and1 hmd;(·exact eT rfl);(·exact eC))|(apply ex_eqlF hne;(·exact eT rfl);(·exact eC))|((first|apply ex_move|apply ex_assign|apply ex_fieldAddr'|apply ex_andT)<;>(exact eT rfl))|((apply ex_addn)<;>(first|exact eT rfl|exact eC|(constructor<;>omega)))|(apply ex_loadown<;>(first|exact eT rfl|exact Bk.own InH.mem|assumption))|(apply ex_loadowns<;>(first|exact eT rfl|exact Bk.own InH.mem|(assumption))))))|(apply spl_alloc rfl;intro _ _)|(apply spl_stores;(·exact eT rfl);(·exact eT rfl);(·(repeat (exact Upd.here)));(·(rfl));(·(assumption));(·exact Ones.one)))
        exact ⟨(v + 1, r), ⟨hlt, fun q => absurd q hb0, by rw [hmn]; exact hr, hfr⟩, by (show m - (v + 1) < m - v; omega), (by dsimp only; rw [hmn]; (repeat (first|exact ESub.nil|apply ESub.cons rfl))), rfl, (by dsimp only; rw [hmn]; (repeat (first|exact HKeep.refl|(apply HKeep.app;(·(repeat (first|exact Split.here|apply Split.cons))))|(apply HKeep.pick;(·(repeat (first|exact Rem.here|apply Rem.there))))|apply HKeep.drop (by first|assumption|omega))))⟩
      | false =>
        have h1 : maskN s.failed 6 / 2 ^ v % 2 ≠ 1 := fun q => by rw [hbit.1 q] at hf; cases hf
        have hz0 : ((maskN s.failed 6 / 2 ^ v % 2 : Nat) : Int) = 0 := by omega
        have hmn := madeN_t (m := m) hf
        obtain ⟨s1, hs1⟩ : ∃ s1 : GS, s1 = { s with budget := s.budget - 1 } := ⟨_, rfl⟩
        have hok1 : s1.Ok := by rw [hs1]; exact ⟨h.t, by show s.budget - 1 < _; omega, h.l1, h.l2, h.sb⟩
        have hst1 : (jOf m s).C.setIfInBounds 1 (.int .i64 ((s.budget - 1 : Nat) : Int)) = (jOf m s1).C := by rw [hs1]; exact jOf_s1
        have hsub : (s.budget : Int) - 1 = ((s.budget - 1 : Nat) : Int) := by omega
        have hfl1 : s1.failed = s.failed := by rw [hs1]
        have hc91 := jOf_c9 (m := m) hok1
        have hst9 := jOf_s9 (m := m) hok1 hv6
        rw [hfl1] at hc91 hst9
        have hfs : { s1 with failed := s.failed.set v true } = failS s v := by rw [hs1]; rfl
        rw [hfs] at hst9
        have hz1 := jOf_size (m := m) hok1
        have hzf := jOf_size (m := m) (failS_ok h v)
        have hl1 : 1 < (jOf m s).C.size := by omega
        have hl9 : 9 < (jOf m s1).C.size := by omega
        have hnl : (jOf m (failS s v)).C.toList.length = 1 * 10 := by rw [Array.length_toList, hzf]
        repeat (first|(refine sp_drawn (id := 8) [(0, true), (1, true), (2, true), (3, true), (4, true), (5, true), (6, false)] 6 _ mixed ?_ HKeep.refl ?_;(·kernel_rfl))|(apply sp_cond_t;(·exact eT rfl);(·rfl))|(apply spl_alloc rfl;intro g5 hg5)|(apply spl_store1E hst1;(·exact eT rfl);(·exact eT rfl);(·rfl);(·(repeat (exact Upd.here)));(·exact hl1))|(apply spl_store1E hst9;(·exact eT rfl);(·exact eT rfl);(·rfl);(·(repeat (exact Upd.here)));(·exact hl9))|(apply spl_buildSlice (d := 38) rfl;(·rfl);(·(repeat (first|exact eN|(apply eS;(·exact eT rfl)))));(·rfl);(·(show (Nat.beq (jOf m (failS s v)).C.size 10 && true) = true;rw [hzf];rfl));(·rfl);intro gn hgn)|apply then_n|apply block_n|apply sp_seq|apply sp_region|apply spl_nil|apply sp_skip|apply sp_block|((first|apply spl_pure rfl|(apply spl_pure_g rfl;(·exact Gd.tt rfl rfl))|apply wlk_read rfl rfl);(·(first|(apply ex_lssT hlt';(·exact eT rfl);(·exact eT rfl))|(apply ex_gtrT hbg;(·exact eT rfl);(·exact eC))|(apply ex_shrM hv6;(·exact eT rfl);(·exact eT rfl))|(apply ex_and1 hmd;(·exact eT rfl);(·exact eC))|(apply ex_eqlT hz0;(·exact eT rfl);(·exact eC))|(apply ex_subE hsub;(·exact eT rfl);(·exact eC);(·(constructor<;>omega)))|(apply ex_shl1 hv6;(·exact eC);(·exact eT rfl))|(apply ex_orM hmk hv6;(·exact eT rfl);(·exact eT rfl))|((first|apply ex_move|apply ex_assign|apply ex_fieldAddr'|apply ex_andT)<;>(exact eT rfl))|((apply ex_addn)<;>(first|exact eT rfl|exact eC|(constructor<;>omega)))|(apply ex_loadown<;>(first|exact eT rfl|exact Bk.own InH.mem|assumption))|(apply ex_loadowns<;>(first|exact eT rfl|exact Bk.own InH.mem|(assumption))))))|(apply spl_stores;(·exact eT rfl);(·exact eT rfl);(·(repeat (exact Upd.here)));(·(rfl));(·(assumption));(·exact Ones.one))|(apply effq;(·(intro h_;((exact absurd h_ (by decide))))))|apply wlk_nil|apply wlk_eff rfl|(refine spl_append_row (r := r) (n := (madeN m s v).length) (xs := jL m (madeN m s v)) (news := (jOf m (failS s v)).C.toList) (m := 1) (by (exact eT rfl)) (by (exact eT rfl)) (by (repeat (first|exact Split.here|apply Split.cons))) hr hfr (by omega) (fun w' hh => SrcAt.slice (CellsAt.own hh.ownI (fun j u hj => by rw [List.getElem?_toArray]; simpa [Value.cells] using hj)) hnl rfl (fun q hq => Ones.one q (Array.mem_toList_iff.1 hq))) hnl (by omega) rfl rfl rfl rfl ?_;intro r2 hr2 hfr2;have hrow2 := RowS.drop (xs := jL m (madeN m s v) ++ (jOf m (failS s v)).C.toList) (T := 102) hfr2))
        rw [← jL_snoc, ← hmn] at hr2 hrow2 ⊢
        have hlen2 : (madeN m s v).length + 1 = (madeN m s (v + 1)).length := by rw [hmn, List.length_append]; rfl
        rw [hlen2] at hr2 ⊢
        exact ⟨(v + 1, r2), ⟨hlt, fun q => absurd q hb0, hr2, hfr2⟩, by (show m - (v + 1) < m - v; omega), (by (repeat (first|exact ESub.nil|apply ESub.cons rfl))), rfl, (by (repeat (first|exact HKeep.refl|(apply HKeep.app;(·(repeat (exact Split.here))))|(apply HKeep.pick;(·(repeat (first|exact Rem.here|apply Rem.there))))|apply HKeep.drop (by first|assumption|omega))))⟩
    · have hvm : v = m := by omega
      have hlt' : ¬ (v : Int) < (m : Int) := by omega
      have hfin := made_all (m := m) hb0
      rw [hfin]
      rw [hvm] at hr hrow ⊢
      rw [hvm] at hlt'
      repeat (first|(apply sp_cond_f;(·exact eT rfl);(·rfl))|apply then_n|apply sp_seq|apply sp_region|apply spl_nil|apply then_e|apply block_here|apply sp_ret|apply sp_exit|((first|apply spl_pure rfl|(apply spl_pure_g rfl;(·exact Gd.tt rfl rfl)));(·(first|(exact ex_off rfl)|(apply ex_lssF hlt';(·exact eT rfl);(·exact eT rfl))|((first|apply ex_move|apply ex_assign|apply ex_fieldAddr'|apply ex_andT)<;>(first|exact eT rfl|exact eG rfl))|(apply ex_loadown<;>(first|exact eT rfl|exact Bk.own InH.mem|assumption))))))
      (apply retH_ok rfl;(·((apply Res.ofOne;((apply Res1.tmp;(·rfl)))))))
      exact ⟨r, rfl, hr, hkeep_tail fun p hp => by rw [List.mem_singleton.1 hp]; exact hg1⟩
end Go.Proofs.Ytoogicafefennaa
/-
  Contracts: slices.Contains of whole numbers.
-/
namespace Go.Proofs.Ytoogicafefennaa
set_option linter.unusedVariables false
open Go.RowKit Go.Sy
set_option linter.unusedVariables false
set_option linter.unusedSimpArgs false
attribute [local irreducible] Calls thenQ blockQ retQ jumpQ Spc Spl Spq Ex Ev Evs Gd Upd ESub HKeep Res Res1 wlk effQ Rem SrcAt Split
set_option maxRecDepth 100000 in
set_option maxHeartbeats 4000000 in
theorem indexI_c {w : World} {A : Option Addr} {n c : Nat} {xs : List Int} {v : Int} (h : RdS w w.heap.size 1 intC A n xs) :
    Calls Try.prog 91 #[.slice A n c, .int .i64 v] w (Ret w (.int .i64 (idx xs fun k => decide (v = k)))) := by
  have hbd := h.bound
  refine sp_enter (vs := [_, _]) Try.func91 rfl Try.ntmps91 rfl ?_
  repeat (first|apply then_n|apply sp_seq|apply sp_region|apply spl_nil|apply sp_block|((apply spl_pure rfl);(·(((first|apply ex_move|apply ex_assign|apply ex_len)<;>(first|exact eT rfl|exact eC))))))
  refine sp_loop (X := Nat) (fun k => [(8, true, .int .i64 (k : Int)), (7, true, .int .i64 (n : Int)), (0, true, .slice A n c), (1, true, .int .i64 v)]) (fun _ => w) (fun _ => []) (fun k => k ≤ n ∧ (xs.take k).any (fun k => decide (v = k)) = false) (fun k => n - k) 0 ⟨Nat.zero_le _, rfl⟩ (by (repeat (first|exact ESub.nil|apply ESub.cons rfl))) rfl (by (repeat (exact HKeep.refl))) ?_
  rintro k ⟨hk, hno⟩
  by_cases hlt : k < n
  · obtain ⟨ad, x, hA, hb, hx, hsz, hc⟩ := h.at_ hlt
    cases hp : decide (v = x) with
    | true =>
      repeat (first|(apply sp_cond_t;(·exact eT rfl);(·exact hp))|apply then_n|apply sp_seq|apply sp_region|apply spl_nil|apply then_r|apply block_r|((apply sp_cond_t);(·exact eT rfl);(·(exact decide_eq_true (by omega))))|apply sp_skip|apply sp_ret|apply sp_block|((apply spl_pure rfl);(·(first|(apply ex_indexAddr;(·exact eT rfl);(·exact eT rfl);(·exact hA);(·exact hlt))|(apply ex_loadfield (ad:=ad) (i:=k) (k:=0);(·exact eT rfl);(·exact h);(·exact hA);(·exact hx);(·rfl))|((first|apply ex_move|apply ex_assign|apply ex_lss|apply ex_seql)<;>(exact eT rfl))|((apply ex_eql)<;>(exact eT rfl))))))
      (apply ret_ok rfl;(·((apply Res.ofOne;((apply Res1.tmp;(·rfl))))))); rw [idx_hit hno hx hp]
    | false =>
      repeat (first|(apply sp_cond_f;(·exact eT rfl);(·exact hp))|apply then_n|apply block_n|apply sp_seq|apply sp_region|apply spl_nil|((apply sp_cond_t);(·exact eT rfl);(·(exact decide_eq_true (by omega))))|apply sp_skip|apply sp_block|((apply spl_pure rfl);(·(first|(apply ex_indexAddr;(·exact eT rfl);(·exact eT rfl);(·exact hA);(·exact hlt))|(apply ex_loadfield (ad:=ad) (i:=k) (k:=0);(·exact eT rfl);(·exact h);(·exact hA);(·exact hx);(·rfl))|((first|apply ex_move|apply ex_assign|apply ex_lss|apply ex_seql)<;>(exact eT rfl))|((apply ex_eql)<;>(exact eT rfl))|(apply ex_addn<;>(first|exact eT rfl|exact eC|(constructor<;>omega)))))))
      exact ⟨k + 1, ⟨hlt, any_miss hno hx hp⟩, by (show n - (k + 1) < n - k; omega), (by (repeat (first|exact ESub.nil|apply ESub.cons rfl))), rfl, (by (repeat (exact HKeep.refl)))⟩
  ·
    repeat (first|apply then_n|apply sp_seq|apply sp_region|apply spl_nil|apply then_e|apply block_here|(apply sp_cond_f;(·exact eT rfl);(·(exact decide_eq_false (by omega))))|apply sp_ret|apply sp_exit|((apply spl_pure rfl);(·(((first|apply ex_assign|apply ex_lss)<;>(first|exact eT rfl|exact eC))))))
    (apply ret_ok rfl;(·((apply Res.ofOne;((apply Res1.tmp;(·rfl))))))); rw [idx_none hno (by rw [h.len]; omega)]
set_option maxRecDepth 100000 in
set_option maxHeartbeats 4000000 in
theorem containsI_c {w : World} {A : Option Addr} {n c : Nat} {xs : List Int} {v : Int} (h : RdS w w.heap.size 1 intC A n xs) :
    Calls Try.prog 55 #[.slice A n c, .int .i64 v] w (Ret w (.bool (xs.any fun k => decide (v = k)))) := by
  refine sp_enter (vs := [_, _]) Try.func55 rfl Try.ntmps55 rfl ?_
  repeat (first|(apply spl_callp rfl;(·(repeat (first|exact eN|(apply eS;(·exact eT rfl)))));(·exact fun w' hh => indexI_c (h.hp' hh)))|apply then_n|apply sp_seq|apply sp_region|apply spl_nil|apply sp_ret|((apply spl_pure rfl);(·(((first|apply ex_move|apply ex_assign|apply ex_geq)<;>(first|exact eT rfl|exact eC))))))
  (apply ret_ok rfl;(·((apply Res.ofOne;((apply Res1.tmp;(·rfl))))))); rw [← idx_nonneg]
end Go.Proofs.Ytoogicafefennaa
/-
  Iterators with two values.
-/
namespace Go.Proofs.Ytoogicafefennaa
set_option linter.unusedVariables false
open Go.RowKit Go.Sy
set_option linter.unusedVariables false
set_option linter.unusedSimpArgs false
section
variable {P : Program} {N Be : Nat} {Q : Post} {e : Env} {w0 : World} {H : Heap} {ops : Array Oper} {rest : List Oper} {ty : TypeId} {pos : String} {after : Array Edge} {d : Nat} {v u : Value}
/-- A call of yield with two values. -/
theorem spi_yield2 {c x y : Operand} {ts : Array TypeId} {l : Nat} {X : Type} {V : X → Value} {HH : X → Heap} {I : X → Prop} (hN : Nat.blt d N = true) (hcv : Ev true e c (.func (.yield l) #[] #[])) (hx : Ev true e x v) (hx2 : Ev true e y u)
    (hy : ∀ w, Hp Be w0 H w → YieldAt Fence.wide 0 P l #[v, u] w (RetX Be w0 V HH I)) (hnd : noDefer rest = true) [NoOut Q] (k : ∀ y, I y → Spl P N Be ops Q rest ((d, true, V y) :: e) w0 (HH y)) :
    SplI P N Be ops Q (⟨some d, .call ⟨.value c, #[x, y], ts⟩, ty, pos, after, none⟩ :: rest) e w0 H := by
  intro a w hf hh
  have hd : d < N := by simpa [Nat.blt_eq] using hN
  refine wpListIn_plain rfl fun K hK => ⟨fun _ _ => trivial, ?_⟩
  obtain ⟨fn, tmps, assign, body, hrun, hr⟩ := hy w hh
  have hex : (execOp a.eval ⟨some d, .call ⟨.value c, #[x, y], ts⟩, ty, pos, after, none⟩).run P w = .ok (.round l fn tmps assign body) w := by
    simp only [execOp, resolve, Deferred.ofValue, hcv N a hf rfl, hx N a hf rfl, hx2 N a hf rfl, Sem.run_bind, Sem.run_pure, Result.andThen_ok, List.map_toArray, List.map_cons, List.map_nil]
    have : (invoke (.fn (.yield l) #[]) (#[] ++ #[v, u])) = Instr.yield l #[v, u] := rfl
    rw [this]
    exact hrun
  rw [Oper.semAt_eq _ _ _ (by intro c hc; cases hc), hex, Oper.uponIn_round]
  refine ⟨fun h => (by cases h), hr.mono ?_⟩
  rintro en w' ⟨y, rfl, hI, hp⟩
  exact hK _ _ (spi_of_spl hnd (k y hI) _ _ (hf.puttrue hd) hp)
end
section
variable {P : Program} {N Be : Nat} {e : Env} {w0 : World} {v u : Value}
theorem yield_round2 {l p q : Nat} {rec : Loop} {R : Heap} {X : Type} {VB : X → Bool} {HH : X → Heap} {I : X → Prop} (hst : rec.state = .ready) (hps : rec.params = #[p, q]) (hfr : Fr N e { tmps := rec.tmps, defers := [] }) (hp : Nat.blt p N = true) (hq : Nat.blt q N = true)
    (h : SpcM (some l) [] P N Be rec.assign (asgQ P N Be l rec w0 VB HH I) ((q, true, u) :: (p, true, v) :: e) w0 ((l, .loop rec) :: R)) (w : World) (hh : Hp Be w0 ((l, .loop rec) :: R) w) :
    YieldAt Fence.wide 0 P l #[v, u] w (RetX Be w0 (fun x => .bool (VB x)) HH I) := by
  have hl := hh.own _ (.head _)
  have hp' : p < N := by simpa [Nat.blt_eq] using hp
  have hq' : q < N := by simpa [Nat.blt_eq] using hq
  have hy := run_yield (P := P) (args := #[v, u]) hl (by rw [hps]; rfl)
  have ht : (rec.params.zip #[v, u]).foldl (fun tmps (t, a) => tmps.setIfInBounds t a) rec.tmps = (rec.tmps.setIfInBounds p v).setIfInBounds q u := by rw [hps]; simp
  rw [ht] at hy
  refine ⟨_, _, _, _, hy, roundIn_of_wpIn trivial ?_⟩
  have h1 := h { tmps := (rec.tmps.setIfInBounds p v).setIfInBounds q u, defers := [] } w ((hfr.puttrue hp').puttrue hq') hh
  rw [wd_nil] at h1
  refine wpIn_mono (F := fenceAt (some l)) h1 ?_
  rintro x a1 w1 ⟨e1, w1', H1, hf1, hh1, hqq⟩
  cases x <;> first | exact hqq.elim | skip
  obtain ⟨rfl, hD, R1, hperm, hbody⟩ := hqq
  have hh2 := hh1.perm hperm
  have hl2 := hh2.own _ (.head _)
  refine ⟨_, run_beginRound hl2 hst, ?_⟩
  have hh3 := hh2.putObj (o' := .loop { rec with state := .busy }) Upd.here
  have h2 := hbody { a1 with defers := [] } _ hf1 hh3
  have ha : wd { a1 with defers := [] } [] = a1 := by cases a1; simp_all [wd]
  rw [ha] at h2
  refine wpIn_mono (F := fenceAt (some l)) h2 ?_
  rintro x a2 w2 ⟨e2, w2', H2, hf2, hh4, hqq⟩
  cases x <;> first | exact hqq.elim | skip
  · obtain ⟨rfl, y, R2, hperm2, hI, hV, hk⟩ := hqq
    have hh5 := hh4.perm hperm2
    have hl3 := hh5.own _ (.head _)
    refine ⟨_, _, run_endRound none hl3, y, (by show _ = Ending.returned (.bool (VB y)); rw [hV]; rfl), hI, ?_⟩
    exact (hh5.putObj (o' := .loop { rec with state := .ready, pending := none }) Upd.here).sub hk
  · obtain ⟨rfl, y, R2, hperm2, hI, hV, hk⟩ := hqq
    have hh5 := hh4.perm hperm2
    have hl3 := hh5.own _ (.head _)
    refine ⟨_, _, run_endRound (some .ret) hl3, y, (by show _ = Ending.returned (.bool (VB y)); rw [hV]; rfl), hI, ?_⟩
    exact (hh5.putObj (o' := .loop { rec with state := .done, pending := some .ret }) Upd.here).sub hk
end
end Go.Proofs.Ytoogicafefennaa
/-
  Contracts: slices.Backward of positions.
-/
namespace Go.Proofs.Ytoogicafefennaa
set_option linter.unusedVariables false
open Go.RowKit Go.Sy
set_option linter.unusedVariables false
set_option linter.unusedSimpArgs false
/-- A plan in memory. -/
structure RdPlan (w : World) (Be : Nat) (A : Option Addr) (n : Nat) (ps : List PosR) : Prop where
  rows : RdS w Be 6 PosR.C A n ps
  pos : ∀ p ∈ ps, RdPos w Be p
theorem RdPlan.hp {w0 w : World} {Be n : Nat} {A : Option Addr} {ps : List PosR} {H : Heap} (h : RdPlan w0 Be A n ps) (hh : Hp Be w0 H w) : RdPlan w w.heap.size A n ps := ⟨h.rows.hp' hh, fun p hp => (h.pos p hp).hp hh⟩
attribute [local irreducible] Calls thenQ blockQ retQ jumpQ Spc Spl Spq Ex Ev Evs Gd Upd ESub HKeep Res Res1 wlk effQ Rem SrcAt Split SplI YieldAt
set_option maxRecDepth 100000 in
set_option maxHeartbeats 4000000 in
theorem backward_c {w : World} {A : Option Addr} {n c : Nat} : Calls Try.prog 51 #[.slice A n c] w
    (RetH w (fun g : Nat => .func (.func 90) #[] #[.pointer (some ⟨g, 0, none⟩)]) (fun g => [(g, .cells #[.slice A n c] 48 (0, 0))]) (fun _ => True)) := by
  refine sp_enter (vs := [_]) Try.func51 rfl Try.ntmps51 rfl ?_
  repeat (first|apply then_n|apply sp_seq|apply sp_region|apply spl_nil|apply sp_ret|((apply spl_pure rfl);(·(first|(apply ex_assign<;>(first|exact eT rfl|exact eC))|(apply ex_makeFunc<;>(((repeat (first|exact eN|(apply eS;(·exact eT rfl))));done))))))|(apply spl_box;(·exact eT rfl);(·rfl);intro _ _))
  rename_i g1 hg1
  (apply retH_ok rfl;(·((apply Res.ofOne;((apply Res1.tmp;(·rfl)))))))
  exact ⟨g1, rfl, trivial, by (repeat (exact HKeep.refl))⟩
set_option maxRecDepth 100000 in
set_option maxHeartbeats 8000000 in
theorem iterB_c {w0 : World} {l : Nat} {A : Option Addr} {n c g1 : Nat} {ps : List PosR} {J : Nat → Heap → Prop} (hps : RdPlan w0 w0.heap.size A n ps)
    (hY : ∀ k p H R, J k H → k < n → ps[n - 1 - k]? = some p → ∀ w, Hp w0.heap.size w0 (H ++ R) w → YieldAt Fence.wide 0 Try.prog l #[.int .i64 ((n : Int) - 1 - (k : Int)), .agg p.C] w (RetX w0.heap.size w0 (fun _ : Heap => .bool true) (fun y => y ++ R) (fun y => J (k + 1) y)))
    {H : Heap} (hJ : J 0 H) {w : World} (hh : Hp w0.heap.size w0 (H ++ [(g1, .cells #[.slice A n c] 48 (0, 0))]) w) :
    Calls Try.prog 90 #[.func (.yield l) #[] #[], .pointer (some ⟨g1, 0, none⟩)] w (RetX w0.heap.size w0 (fun _ : Heap => .tuple #[]) (fun x => x ++ [(g1, .cells #[.slice A n c] 48 (0, 0))]) (fun x => J n x)) := by
  have hbd := hps.rows.bound
  have hsub0 : (n : Int) - 1 = (n : Int) - 1 := rfl
  refine sp_enterM (vs := [_, _]) Try.func90 rfl Try.ntmps90 rfl hh ?_
  repeat (first|apply then_n|apply sp_seq|apply sp_region|apply spl_nil|apply sp_block|((apply spl_pure rfl);(·(first|(apply ex_subE hsub0;(·exact eT rfl);(·exact eC);(·(constructor<;>omega)))|((first|apply ex_assign|apply ex_len)<;>(exact eT rfl))|((apply ex_loadown)<;>(first|exact eT rfl|exact Bk.own InH.mem|rfl))))))
  refine sp_loop (X := Nat × Heap) (fun y => [(3, true, .int .i64 ((n : Int) - 1 - (y.1 : Int))), (0, true, .func (.yield l) #[] #[]), (1, true, .pointer (some ⟨g1, 0, none⟩))]) (fun _ => w0)
    (fun y => y.2 ++ [(g1, .cells #[.slice A n c] 48 (0, 0))]) (fun y => y.1 ≤ n ∧ J y.1 y.2) (fun y => n - y.1) (0, H) ⟨Nat.zero_le _, hJ⟩ (by dsimp only; rw [show (n : Int) - 1 - ((0 : Nat) : Int) = (n : Int) - 1 by omega]; (repeat (first|exact ESub.nil|apply ESub.cons rfl))) rfl (by (repeat (exact HKeep.refl))) ?_
  clear hJ hh
  rintro ⟨k, H2⟩ ⟨hk, hJ2⟩
  replace hk : k ≤ n := hk
  replace hJ2 : J k H2 := hJ2
  dsimp only
  by_cases hlt : k < n
  · have hge : (0 : Int) ≤ (n : Int) - 1 - (k : Int) := by omega
    have hl2 : n - 1 - k < n := by omega
    obtain ⟨ad, p, hA, hb, hp, hsz, hc⟩ := hps.rows.at_ hl2
    have hix : (n : Int) - 1 - (k : Int) = ((n - 1 - k : Nat) : Int) := by omega
    have hY2 := fun R => hY k p H2 R hJ2 hlt hp
    have hsub : (n : Int) - 1 - (k : Int) - 1 = (n : Int) - 1 - ((k + 1 : Nat) : Int) := by omega
    repeat (first|(apply sp_regionI (id:=3))|(apply spi_pure rfl;(·(first|(apply ex_indexAddr (i:=n-1-k);(·exact eT rfl);(·(rw [← hix];(exact eT rfl)));(·exact hA);(·exact hl2))|(apply ex_loadelem;(·exact eT rfl);(·exact hps.rows);(·exact hA);(·exact hp))|((apply ex_move)<;>(exact eT rfl))|((apply ex_loadown)<;>(first|exact eT rfl|exact Bk.own InH.mem|rfl))));(·rfl))|(apply spi_yield2 rfl;(·exact eT rfl);(·exact eT rfl);(·exact eT rfl);(·exact hY2 _);(·rfl);(intro H3 hJ3))|(apply sp_cond_t;(·exact eT rfl);(·rfl))|(apply sp_cond_f;(·exact eT rfl);(·rfl))|apply then_n|apply block_n|apply sp_seq|apply sp_region|apply spl_nil|apply sp_skip|apply sp_block|((apply spl_pure rfl);(·(first|(apply ex_geqT hge;(·exact eT rfl);(·exact eC))|(apply ex_subE hsub;(·exact eT rfl);(·exact eC);(·(constructor<;>omega)))|((first|apply ex_move|apply ex_assign|apply ex_not)<;>(exact eT rfl))))))
    exact ⟨(k + 1, H3), ⟨hlt, hJ3⟩, by (show n - (k + 1) < n - k; omega), (by (repeat (first|exact ESub.nil|apply ESub.cons rfl))), rfl, (by (repeat (exact HKeep.refl)))⟩
  · have hkn : k = n := by omega
    rw [hkn] at hJ2 ⊢
    have hge : ¬ (0 : Int) ≤ (n : Int) - 1 - (n : Int) := by omega
    repeat (first|(apply sp_cond_f;(·exact eT rfl);(·rfl))|apply then_n|apply sp_seq|apply sp_region|apply spl_nil|apply then_e|apply block_here|apply sp_exit|((apply spl_pure rfl);(·(first|(apply ex_geqF hge;(·exact eT rfl);(·exact eC))|((apply ex_move)<;>(exact eT rfl))))))
    (apply endX_ok rfl;(·exact Res.none_))
    exact ⟨H2, rfl, hJ2, by (repeat (exact HKeep.refl))⟩
end Go.Proofs.Ytoogicafefennaa
/-
  Games in plain terms: the value is least for the planner, greatest for the adversary.
-/
namespace Go.Proofs.Ytoogicafefennaa
set_option linter.unusedVariables false
open Go.RowKit Go.Sy
set_option linter.unusedVariables false
set_option linter.unusedSimpArgs false
theorem take_min {f : Nat → Nat} : ∀ (l : List Nat) (out : Option Nat × Nat), (l.foldl (takeB f) out).2 ≤ out.2 ∧ ∀ v ∈ l, (l.foldl (takeB f) out).2 ≤ f v
  | [], out => ⟨Nat.le_refl _, fun v hv => by cases hv⟩
  | x :: r, out => by
    rw [List.foldl_cons]
    obtain ⟨h1, h2⟩ := take_min (f := f) r (takeB f out x)
    have h3 : (takeB f out x).2 ≤ out.2 ∧ (takeB f out x).2 ≤ f x := by
      unfold takeB
      split
      · rename_i hq
        refine ⟨?_, Nat.le_refl _⟩
        show f x ≤ out.2
        omega
      · rename_i hq
        exact ⟨Nat.le_refl _, by omega⟩
    refine ⟨by omega, fun v hv => ?_⟩
    rcases List.mem_cons.1 hv with rfl | hv
    · omega
    · exact h2 v hv
theorem best_wait (G : GP) (d : Nat) (x : GS) : (bestF G d x).2 ≤ 1 + worstF G d (waitS x) := (take_min _ _).1
theorem best_step (G : GP) (d : Nat) {x : GS} {v : Nat} (h : v ∈ G.at_ x.turn) (hc : canS x v = true) : (bestF G d x).2 ≤ worstF G d (stepS x v) := (take_min _ _).2 v (List.mem_filter.2 ⟨h, hc⟩)
theorem worst_max {G : GP} {d b : Nat} {s : GS} (h : ∀ x ∈ movesL G.m s, (bestF G d x).2 ≤ b) : worstF G (d + 1) s ≤ b := by
  rw [worstF_succ]
  exact fold_le _ _ (Nat.zero_le _) fun m hm x hx => by
    have := h x hx
    omega
theorem fold_ge {α : Type} {g : α → Nat} : ∀ (l : List α) (a : Nat), a ≤ l.foldl (fun m x => max m (g x)) a ∧ ∀ x ∈ l, g x ≤ l.foldl (fun m x => max m (g x)) a
  | [], a => ⟨Nat.le_refl _, fun x hx => by cases hx⟩
  | y :: r, a => by
    rw [List.foldl_cons]
    obtain ⟨h1, h2⟩ := fold_ge (g := g) r (max a (g y))
    refine ⟨by omega, fun x hx => ?_⟩
    rcases List.mem_cons.1 hx with rfl | hx
    · omega
    · exact h2 x hx
/-- Some move makes the value. -/
theorem worst_at {G : GP} {d : Nat} {s : GS} : ∃ x ∈ movesL G.m s, worstF G (d + 1) s = (bestF G d x).2 ∨ worstF G (d + 1) s = 0 := by
  rw [worstF_succ]
  have key : ∀ (l : List GS) (a : Nat), l.foldl (fun most x => max most (bestF G d x).2) a = a ∨ ∃ x ∈ l, l.foldl (fun most x => max most (bestF G d x).2) a = (bestF G d x).2 := by
    intro l
    induction l with
    | nil => intro a; exact .inl rfl
    | cons y r ih =>
      intro a
      rw [List.foldl_cons]
      rcases ih (max a (bestF G d y).2) with q | ⟨x, hx, q⟩
      · rw [q]
        rcases Nat.le_total a (bestF G d y).2 with z | z
        · exact .inr ⟨y, .head _, by omega⟩
        · exact .inl (by omega)
      · exact .inr ⟨x, .tail _ hx, q⟩
  rcases key (movesL G.m s) 0 with q | ⟨x, hx, q⟩
  · exact ⟨s, by unfold movesL; exact .head _, .inr q⟩
  · exact ⟨x, hx, .inl q⟩
end Go.Proofs.Ytoogicafefennaa
/-
  The plain law of judges: what is accepted is no less than the value.
-/
namespace Go.Proofs.Ytoogicafefennaa
set_option linter.unusedVariables false
open Go.RowKit Go.Sy
set_option linter.unusedVariables false
set_option linter.unusedSimpArgs false
def lookP (plan : List PosR) (k : JK) : Option PosR := plan.find? fun p => sitOk p && decide (sitJ p = k)
def nextS (s : GS) (p : PosR) : GS := if p.choice = -1 then waitS s else stepS s p.choice.toNat
def lostN (p : PosR) : Int := if p.choice = -1 then 1 else 0
def okCh (G : GP) (s : GS) (p : PosR) : Prop := p.choice = -1 ∨ ∃ v : Nat, p.choice = (v : Int) ∧ v ∈ G.at_ s.turn ∧ canS s v = true
def passP (G : GP) (look : GS → Option PosR) (b : Int) (s : GS) : Prop := ∀ x ∈ movesL G.m s, ∃ p, look x = some p ∧ 0 ≤ p.bound ∧ p.bound ≤ b
inductive Reach (G : GP) (look : GS → Option PosR) (s0 : GS) : GS → Prop
  | base {x : GS} : x ∈ movesL G.m s0 → Reach G look s0 x
  | step {s x : GS} {p : PosR} : Reach G look s0 s → look s = some p → (nextS s p).turn < G.deps.length → x ∈ movesL G.m (nextS s p) → Reach G look s0 x
def okP (G : GP) (look : GS → Option PosR) (s : GS) : Prop := ∃ p, look s = some p ∧ okCh G s p ∧ (if (nextS s p).turn = G.deps.length then lostN p ≤ p.bound else passP G look (p.bound - lostN p) (nextS s p))
theorem nextS_turn (s : GS) (p : PosR) : (nextS s p).turn = s.turn + 1 := by unfold nextS; split <;> rfl
theorem moves_turn {m : Nat} {s x : GS} (hx : x ∈ movesL m s) : x.turn = s.turn := by
  unfold movesL at hx
  rcases List.mem_cons.1 hx with rfl | hx
  · rfl
  · split at hx
    · cases hx
    · obtain ⟨i, _, rfl⟩ := List.mem_map.1 hx
      rfl
theorem best_next {G : GP} {d : Nat} {s : GS} {p : PosR} (h : okCh G s p) : ((bestF G d s).2 : Int) ≤ lostN p + (worstF G d (nextS s p) : Nat) := by
  unfold lostN nextS
  rcases h with h | ⟨v, hv, h1, h2⟩
  · rw [if_pos h, if_pos h]
    have := best_wait G d s
    omega
  · have hne : ¬ p.choice = -1 := by omega
    rw [if_neg hne, if_neg hne, hv, Int.toNat_natCast]
    have := best_step G d h1 h2
    omega
theorem sound_at {G : GP} {look : GS → Option PosR} {s0 : GS} (hall : ∀ s, Reach G look s0 s → okP G look s) : ∀ (d : Nat) (s : GS), Reach G look s0 s → s.turn + d + 1 = G.deps.length → ∀ p, look s = some p → ((bestF G d s).2 : Int) ≤ p.bound := by
  intro d
  induction d with
  | zero =>
    intro s hr ht p hp
    obtain ⟨p', hp', hc, hb⟩ := hall s hr
    rw [hp] at hp'
    cases hp'
    rw [if_pos (by rw [nextS_turn]; omega)] at hb
    have := best_next (d := 0) hc
    have h0 : worstF G 0 (nextS s p) = 0 := by unfold worstF; rfl
    rw [h0] at this
    omega
  | succ d ih =>
    intro s hr ht p hp
    obtain ⟨p', hp', hc, hb⟩ := hall s hr
    rw [hp] at hp'
    cases hp'
    have hnt := nextS_turn s p
    rw [if_neg (by omega)] at hb
    have hw : worstF G (d + 1) (nextS s p) ≤ (p.bound - lostN p).toNat := worst_max fun x hx => by
      obtain ⟨px, h1, h2, h3⟩ := hb x hx
      have hxt := moves_turn hx
      have := ih x (.step hr hp (by omega) hx) (by omega) px h1
      omega
    have h0 : 0 ≤ p.bound - lostN p := by
      obtain ⟨px, h1, h2, h3⟩ := hb (nextS s p) (by unfold movesL; exact .head _)
      omega
    have := best_next (d := d + 1) hc
    omega
/-- What passes is no less than the value. -/
theorem sound_all {G : GP} {look : GS → Option PosR} {s0 : GS} {b : Int} {d : Nat} (ht : s0.turn + (d + 1) = G.deps.length) (hp : passP G look b s0) (hall : ∀ s, Reach G look s0 s → okP G look s) : ((worstF G (d + 1) s0 : Nat) : Int) ≤ b := by
  have h0 : 0 ≤ b := by
    obtain ⟨px, h1, h2, h3⟩ := hp s0 (by unfold movesL; exact .head _)
    omega
  have hw : worstF G (d + 1) s0 ≤ b.toNat := worst_max fun x hx => by
    obtain ⟨px, h1, h2, h3⟩ := hp x hx
    have hxt := moves_turn hx
    have := sound_at hall d x (.base hx) (by omega) px h1
    omega
  omega
end Go.Proofs.Ytoogicafefennaa
/-
  What a judge keeps: what is done, what is to do.
-/
namespace Go.Proofs.Ytoogicafefennaa
set_option linter.unusedVariables false
open Go.RowKit Go.Sy
set_option linter.unusedVariables false
set_option linter.unusedSimpArgs false
/-- A state's key. -/
def jkOf {m : Nat} (hm : m ≤ 6) {s : GS} (h : s.Ok) : JKs := ⟨jOf m s, jOf_ok hm h⟩
/-- The map of what is done. -/
def DoneM (m : Nat) (hm : m ≤ 6) (es : List (JKs × Value × Nat)) (D : List GS) : Prop := ∀ (x : GS) (h : x.Ok), getL (jkOf hm h) es = if x ∈ D then some (.bool true) else none
theorem DoneM.nil {m : Nat} {hm : m ≤ 6} : DoneM m hm [] [] := fun x h => rfl
theorem DoneM.put {m c : Nat} {hm : m ≤ 6} {es : List (JKs × Value × Nat)} {D : List GS} {x : GS} (h : DoneM m hm es D) (hx : x.Ok) : DoneM m hm (putL (jkOf hm hx) (.bool true) c es) (D ++ [x]) := fun y hy => by
  rw [getL_put]
  by_cases he : jkOf hm hy = jkOf hm hx
  · have hxy : y = x := jOf_inj hy hx (congrArg Subtype.val he)
    rw [if_pos he, if_pos (by rw [hxy]; simp)]
  · have hxy : y ≠ x := fun q => he (by subst q; rfl)
    rw [if_neg he, h y hy]
    simp [hxy]
def stepDT (p : List GS × List GS) (x : GS) : List GS × List GS := if x ∈ p.1 then p else (p.1 ++ [x], p.2 ++ [x])
def stepsDT (l : List GS) (i : Nat) (p : List GS × List GS) : List GS × List GS := (l.take i).foldl stepDT p
theorem stepsDT_succ {l : List GS} {i : Nat} {x : GS} {p : List GS × List GS} (h : l[i]? = some x) : stepsDT l (i + 1) p = stepDT (stepsDT l i p) x := by
  unfold stepsDT
  rw [take_succ h, List.foldl_append]; rfl
theorem stepDT_mem {p : List GS × List GS} {x y : GS} : y ∈ (stepDT p x).1 ↔ y ∈ p.1 ∨ y = x := by
  unfold stepDT
  split
  · rename_i h
    constructor
    · exact .inl
    · rintro (q | q)
      · exact q
      · rw [q]; exact h
  · simp
theorem stepDT_todo {p : List GS × List GS} {x y : GS} (h : y ∈ (stepDT p x).2) : y ∈ p.2 ∨ y = x := by
  unfold stepDT at h
  split at h
  · exact .inl h
  · simpa using h
theorem fold_mem : ∀ (l : List GS) (p : List GS × List GS) (y : GS), (y ∈ (l.foldl stepDT p).1 ↔ y ∈ p.1 ∨ y ∈ l) ∧ (y ∈ (l.foldl stepDT p).2 → y ∈ p.2 ∨ y ∈ l)
  | [], p, y => by simp
  | x :: r, p, y => by
    rw [List.foldl_cons]
    obtain ⟨h1, h2⟩ := fold_mem r (stepDT p x) y
    constructor
    · rw [h1, stepDT_mem]
      simp only [List.mem_cons]
      constructor
      · rintro ((q | q) | q)
        · exact .inl q
        · exact .inr (.inl q)
        · exact .inr (.inr q)
      · rintro (q | q | q)
        · exact .inl (.inl q)
        · exact .inl (.inr q)
        · exact .inr q
    · intro hq
      rcases h2 hq with q | q
      · rcases stepDT_todo q with z | z
        · exact .inl z
        · exact .inr (by rw [z]; exact .head _)
      · exact .inr (.tail _ q)
end Go.Proofs.Ytoogicafefennaa
/-
  Contracts: what a judge reaches (the closure of Accept).
-/
namespace Go.Proofs.Ytoogicafefennaa
set_option linter.unusedVariables false
open Go.RowKit Go.Sy
set_option linter.unusedVariables false
set_option linter.unusedSimpArgs false
/-- Where a judge keeps what it keeps. -/
structure JR where
  g2 : Nat
  gp : Nat
  g3 : Nat
  gd : Nat
  g4 : Nat
/-- The positions that a judge knows. -/
def PosM (m : Nat) (hm : m ≤ 6) (pes : List (JKs × Value × Nat)) (look : GS → Option PosR) : Prop := ∀ (x : GS) (h : x.Ok), getL (jkOf hm h) pes = (look x).map fun p => .agg p.C
/-- What changes: the map and the row. -/
structure JS where
  des : List (JKs × Value × Nat)
  dc : Nat
  r : RowS
  D : List GS
  T : List GS
structure JS.Ok (m : Nat) (hm : m ≤ 6) (b : Nat) (x : JS) : Prop where
  dn : DoneM m hm x.des x.D
  row : x.r.ok 10 x.T.length (jL m x.T)
  fr : x.r.fresh b
def passX (look : GS → Option PosR) (b : Int) (x : GS) : Prop := ∃ p, look x = some p ∧ 0 ≤ p.bound ∧ p.bound ≤ b
theorem ex_loadJ {P : Program} {Be : Nat} {w0 : World} {H : Heap} {G : Bool} {e : Env} {ty t : TypeId} {x : Operand} {g i m : Nat} {ad : Addr} {xs : List GS} {y : GS} {tail : List Value} {T : TypeId} {f : Nat × Nat} (h : Ev G e x (.pointer (some (ad.add (i * 10))))) (hA : ad = ⟨g, 0, none⟩) (hm : Bk Be w0 H g (.cells (jL m xs ++ tail).toArray T f))
    (hok : ∀ x ∈ xs, x.Ok) (hy : xs[i]? = some y) [TAgg P t] [hs : TSize P t 10] : Ex P Be w0 H G e (.load t x) ty (.agg (jOf m y).C) := by
  unfold jL at hm
  exact ex_loadelemO (C := fun y => (jOf m y).C) h hA hm (fun x hx => jOf_size (hok x hx)) hy
theorem stepDT_t {p : List GS × List GS} {x : GS} (h : x ∈ p.1) : stepDT p x = p := by unfold stepDT; rw [if_pos h]
theorem stepDT_f {p : List GS × List GS} {x : GS} (h : ¬ x ∈ p.1) : stepDT p x = (p.1 ++ [x], p.2 ++ [x]) := by unfold stepDT; rw [if_neg h]
theorem moves_le {G : GP} (hG : G.Ok) (s : GS) : (movesL G.m s).length ≤ 7 := by
  have hm := hG.m
  by_cases h : s.budget = 0
  · rw [made_none h]
    have := madeN_len G.m s 0
    omega
  · rw [made_all h]
    have := madeN_len G.m s G.m
    omega
theorem made_c2 {w : World} {m : Nat} {s : GS} (hm : m ≤ 6) (h : s.Ok) : Calls Try.prog 54 #[.agg (jOf m s).C] w
    (RetH w (fun x : Nat × Nat × List Value => .slice (some ⟨x.1, 0, none⟩) (movesL m s).length x.2.1) (fun x => [(x.1, .cells (jL m (movesL m s) ++ x.2.2).toArray 102 (0, 0))]) (fun _ => True)) :=
  (made_c hm h).mono (by
    rintro en w' ⟨r, rfl, hI, hp⟩
    obtain ⟨g, cap, tl, rfl⟩ := RowS.some_of hI (by unfold movesL; simp)
    exact ⟨(g, cap, tl), rfl, trivial, hp⟩)
/-- How far the closure is. -/
structure JI (G : GP) (hm : G.m ≤ 6) (look : GS → Option PosR) (bound : Int) (s : GS) (X : JS) (b i : Nat) (x : JS) : Prop where
  le : i ≤ (movesL G.m s).length
  ok : x.Ok G.m hm b
  st : (x.D, x.T) = stepsDT (movesL G.m s) i (X.D, X.T)
  len : x.T.length ≤ X.T.length + i
  ps : ∀ y ∈ (movesL G.m s).take i, passX look bound y
attribute [local irreducible] Calls thenQ blockQ retQ jumpQ Spc Spl Spq Ex Ev Evs Gd Upd ESub HKeep Res Res1 wlk effQ Rem SrcAt Split JK.C maskN jOf jL madeN movesL mobj PosR.C
set_option maxRecDepth 100000 in
set_option maxHeartbeats 16000000 in
theorem reach_c {w0 : World} {G : GP} {J : JR} {s : GS} {bound : Int} {pes : List (JKs × Value × Nat)} {pc : Nat} {look : GS → Option PosR} {X : JS} {R : Heap} (hG : G.Ok) (hm : G.m ≤ 6) (hs : s.In G) (hP : PosM G.m hm pes look) (hX : X.Ok G.m hm w0.heap.size) (hT : X.T.length ≤ 1000000000000)
    {w : World} (hh : Hp w0.heap.size w0 ((J.g2, .cells #[.map (some J.gp)] 95 (0, 0)) :: (J.gp, mobj jkV pes pc) :: (J.g3, .cells #[.map (some J.gd)] 105 (0, 0)) :: (J.gd, mobj jkV X.des X.dc) :: (J.g4, .cells #[X.r.val X.T.length] 106 (0, 0)) :: (X.r.hp (jL G.m X.T) 102 ++ R)) w) :
    Calls Try.prog 53 #[.agg (jOf G.m s).C, .int .i64 bound, .pointer (some ⟨J.g2, 0, none⟩), .pointer (some ⟨J.g3, 0, none⟩), .pointer (some ⟨J.g4, 0, none⟩)] w
      (RetX w0.heap.size w0 (fun x : Bool × JS => .bool x.1) (fun x => (J.g2, .cells #[.map (some J.gp)] 95 (0, 0)) :: (J.gp, mobj jkV pes pc) :: (J.g3, .cells #[.map (some J.gd)] 105 (0, 0)) :: (J.gd, mobj jkV x.2.des x.2.dc) :: (J.g4, .cells #[x.2.r.val x.2.T.length] 106 (0, 0)) :: (x.2.r.hp (jL G.m x.2.T) 102 ++ R))
        (fun x => x.2.Ok G.m hm w0.heap.size ∧ (x.1 = true → (x.2.D, x.2.T) = stepsDT (movesL G.m s) (movesL G.m s).length (X.D, X.T)) ∧ (x.1 = true ↔ passP G look bound s))) := by
  have hmi := fun (x : GS) (hx : x ∈ movesL G.m s) => (moves_in hs hx).1
  have hmok := fun (x : GS) (hx : x ∈ movesL G.m s) => (hmi x hx).ok
  have hml := moves_le hG s
  have hzs := jOf_size (m := G.m) hs.ok
  refine sp_enterM (vs := [_, _, _, _, _]) Try.func53 rfl Try.ntmps53 rfl hh ?_
  repeat (first|(apply spl_callh (X:=Nat × Nat × List Value) (V:=fun x => .slice (some ⟨x.1, 0, none⟩) (movesL G.m s).length x.2.1) (HH:=fun x => [(x.1, .cells (jL G.m (movesL G.m s) ++ x.2.2).toArray 102 (0, 0))]) (I:=fun _ => True) rfl;(·(repeat (first|exact eN|(apply eS;(·exact eT rfl)))));(·exact fun w' hh => made_c2 hm hs.ok);(rintro ⟨g13, cap0, tl0⟩ _ hf0;have hg13 : w0.heap.size ≤ g13 := hf0 _ (.head _);simp only [List.cons_append, List.nil_append]))|apply then_n|apply sp_seq|apply sp_region|apply spl_nil|apply sp_block|((apply spl_pure rfl);(·(first|((first|apply ex_move|apply ex_assign|apply ex_len)<;>(first|exact eT rfl|exact eC))|((apply ex_loadowns)<;>(first|exact eT rfl|exact Bk.own InH.mem|(assumption))))))|(apply spl_box;(·exact eT rfl);(·rfl);intro _ _))
  refine sp_loop (X := Nat × JS) (fun y => [(15, true, .int .i64 (y.1 : Int)), (14, true, .int .i64 (((movesL G.m s).length : Nat) : Int)), (13, true, .slice (some ⟨g13, 0, none⟩) (movesL G.m s).length cap0), (1, true, .int .i64 bound), (2, true, .pointer (some ⟨J.g2, 0, none⟩)), (3, true, .pointer (some ⟨J.g3, 0, none⟩)), (4, true, .pointer (some ⟨J.g4, 0, none⟩))]) (fun _ => w0)
    (fun y => (g13, .cells (jL G.m (movesL G.m s) ++ tl0).toArray 102 (0, 0)) :: (J.g2, .cells #[.map (some J.gp)] 95 (0, 0)) :: (J.gp, mobj jkV pes pc) :: (J.g3, .cells #[.map (some J.gd)] 105 (0, 0)) :: (J.gd, mobj jkV y.2.des y.2.dc) :: (J.g4, .cells #[y.2.r.val y.2.T.length] 106 (0, 0)) :: (y.2.r.hp (jL G.m y.2.T) 102 ++ R))
    (fun y => JI G hm look bound s X w0.heap.size y.1 y.2) (fun y => (movesL G.m s).length - y.1) (0, X) ⟨Nat.zero_le _, hX, rfl, Nat.le_refl _, fun y hy => by simp at hy⟩ (by (repeat (first|exact ESub.nil|apply ESub.cons rfl))) rfl (by (repeat (first|exact HKeep.refl|apply HKeep.keep|(apply HKeep.app;(·(repeat (first|exact Split.here|apply Split.cons))))|(apply HKeep.pick;(·(repeat (first|exact Rem.here|apply Rem.there))))|apply HKeep.drop (by first|assumption|omega)))) ?_
  rintro ⟨i, Y⟩ hI
  dsimp only at hI ⊢
  obtain ⟨hi, hY, hst, hlen, hps⟩ := hI
  have hrow := RowS.drop (xs := jL G.m Y.T) (T := 102) hY.fr
  by_cases hlt : i < (movesL G.m s).length
  · have hlt' : (i : Int) < (((movesL G.m s).length : Nat) : Int) := by omega
    obtain ⟨x, hx⟩ : ∃ x, (movesL G.m s)[i]? = some x := ⟨_, List.getElem?_eq_getElem hlt⟩
    have hxm := List.mem_of_getElem? hx
    have hxo := hmok x hxm
    have hzx := jOf_size (m := G.m) hxo
    have hpx := hP x hxo
    cases hlk : look x with
    | none =>
      rw [hlk] at hpx
      have hv1 : ∀ z, (getL (jkOf hm hxo) pes).getD z = z := fun z => by rw [hpx]; rfl
      have hv2 : (getL (jkOf hm hxo) pes).isSome = false := by rw [hpx]; rfl
      repeat (first|(apply sp_cond_t;(·exact eT rfl);(·rfl))|apply then_n|apply sp_seq|apply sp_region|apply spl_nil|apply then_r|apply block_r|apply sp_skip|apply sp_ret|apply sp_block|((first|apply spl_pure rfl|(apply spl_pure_g rfl;(·exact Gd.tf rfl rfl)));(·(first|(apply ex_lssT hlt';(·exact eT rfl);(·exact eT rfl))|(apply ex_loadJ (i:=i) (y:=x) (xs:=movesL G.m s) (tail:=tl0);(·exact eT rfl);(·rfl);(·exact Bk.own InH.mem);(·exact hmok);(·exact hx))|(exact ex_off rfl)|(refine ex_lookupOk (k:=jkOf hm hxo) (kv:=jkV) (g:=J.gp) (c:=pc) (hv1 _) hv2 ?_ ?_ ?_;(·exact eT rfl);(·exact eT rfl);(·exact Bk.own InH.mem))|((first|apply ex_move|apply ex_assign|apply ex_not)<;>(first|exact eT rfl|exact eC))|((apply ex_orT)<;>(first|exact eT rfl|exact eG rfl))|((first|apply ex_loadown|apply ex_extract|apply ex_indexAddr)<;>(first|exact eT rfl|exact Bk.own InH.mem|rfl|assumption))|((apply ex_loadowns)<;>(first|exact eT rfl|exact Bk.own InH.mem|(assumption))))))|(apply spl_alloc rfl;intro _ _)|(apply spl_stores;(·exact eT rfl);(·exact eT rfl);(·(repeat (exact Upd.here)));(·(rfl));(·(first|rfl|assumption));(·(first|exact Ones.one|exact ones_of_all rfl))))
      (apply retX_ok rfl;(·((apply Res.ofOne;((apply Res1.tmp;(·rfl)))))))
      exact ⟨(false, Y), rfl, ⟨hY, fun q => (by cases q), fun q => (by cases q), fun q => (by
        obtain ⟨p, h1, _⟩ := q x hxm
        rw [hlk] at h1; cases h1)⟩, by (repeat (first|exact HKeep.refl|(apply HKeep.app;(·(repeat (first|exact Split.here|apply Split.cons))))|(apply HKeep.pick;(·(repeat (first|exact Rem.here|apply Rem.there))))|apply HKeep.drop (by first|assumption|omega)))⟩
    | some p =>
      rw [hlk] at hpx
      have hv1 : ∀ z, (getL (jkOf hm hxo) pes).getD z = .agg p.C := fun z => by rw [hpx]; rfl
      have hv2 : (getL (jkOf hm hxo) pes).isSome = true := by rw [hpx]; rfl
      have hc5 : p.C[5]? = some (.int .i64 p.bound) := by unfold PosR.C; rfl
      have hz6 : p.C.size = 6 := by unfold PosR.C; rfl
      by_cases hb0 : p.bound < 0
      · skip
        repeat (first|(apply sp_cond_t;(·exact eT rfl);(·rfl))|apply then_n|apply sp_seq|apply sp_region|apply spl_nil|apply then_r|apply block_r|apply sp_skip|apply sp_ret|apply sp_block|((first|apply spl_pure rfl|(apply spl_pure_g rfl;(·exact Gd.tf rfl rfl)));(·(first|(apply ex_lssT hlt';(·exact eT rfl);(·exact eT rfl))|(apply ex_loadJ (i:=i) (y:=x) (xs:=movesL G.m s) (tail:=tl0);(·exact eT rfl);(·rfl);(·exact Bk.own InH.mem);(·exact hmok);(·exact hx))|(exact ex_off rfl)|(refine ex_lookupOk (k:=jkOf hm hxo) (kv:=jkV) (g:=J.gp) (c:=pc) (hv1 _) hv2 ?_ ?_ ?_;(·exact eT rfl);(·exact eT rfl);(·exact Bk.own InH.mem))|(apply ex_lssT hb0;(·exact eT rfl);(·exact eC))|((first|apply ex_move|apply ex_assign|apply ex_fieldAddr'|apply ex_not)<;>(first|exact eT rfl|exact eC))|((apply ex_orT)<;>(first|exact eT rfl|exact eG rfl))|((first|apply ex_loadown|apply ex_extract|apply ex_indexAddr)<;>(first|exact eT rfl|exact Bk.own InH.mem|rfl|assumption))|((apply ex_loadowns)<;>(first|exact eT rfl|exact Bk.own InH.mem|(assumption))))))|(apply spl_alloc rfl;intro _ _)|(apply spl_stores;(·exact eT rfl);(·exact eT rfl);(·(repeat (exact Upd.here)));(·(rfl));(·(assumption));(·exact Ones.one)))
        (apply retX_ok rfl;(·((apply Res.ofOne;((apply Res1.tmp;(·rfl)))))))
        exact ⟨(false, Y), rfl, ⟨hY, fun q => (by cases q), fun q => (by cases q), fun q => (by
          obtain ⟨p', h1, h2, h3⟩ := q x hxm
          rw [hlk] at h1; cases h1; omega)⟩, by (repeat (first|exact HKeep.refl|(apply HKeep.app;(·(repeat (first|exact Split.here|apply Split.cons))))|(apply HKeep.pick;(·(repeat (first|exact Rem.here|apply Rem.there))))|apply HKeep.drop (by first|assumption|omega)))⟩
      · by_cases hb1 : p.bound > bound
        · skip
          repeat (first|(apply sp_cond_t;(·exact eT rfl);(·rfl))|apply then_n|apply sp_seq|apply sp_region|apply spl_nil|apply then_r|apply block_r|apply sp_skip|apply sp_ret|apply sp_block|((first|apply spl_pure rfl|(apply spl_pure_g rfl;(·exact Gd.tf rfl rfl)));(·(first|(apply ex_lssT hlt';(·exact eT rfl);(·exact eT rfl))|(apply ex_loadJ (i:=i) (y:=x) (xs:=movesL G.m s) (tail:=tl0);(·exact eT rfl);(·rfl);(·exact Bk.own InH.mem);(·exact hmok);(·exact hx))|(refine ex_lookupOk (k:=jkOf hm hxo) (kv:=jkV) (g:=J.gp) (c:=pc) (hv1 _) hv2 ?_ ?_ ?_;(·exact eT rfl);(·exact eT rfl);(·exact Bk.own InH.mem))|(apply ex_lssF hb0;(·exact eT rfl);(·exact eC))|(apply ex_gtrT hb1;(·exact eT rfl);(·exact eT rfl))|((first|apply ex_move|apply ex_assign|apply ex_fieldAddr'|apply ex_not)<;>(first|exact eT rfl|exact eC))|((apply ex_orT)<;>(exact eT rfl))|((first|apply ex_loadown|apply ex_extract|apply ex_indexAddr)<;>(first|exact eT rfl|exact Bk.own InH.mem|rfl|assumption))|((apply ex_loadowns)<;>(first|exact eT rfl|exact Bk.own InH.mem|(assumption))))))|(apply spl_alloc rfl;intro _ _)|(apply spl_stores;(·exact eT rfl);(·exact eT rfl);(·(repeat (exact Upd.here)));(·(rfl));(·(assumption));(·exact Ones.one)))
          (apply retX_ok rfl;(·((apply Res.ofOne;((apply Res1.tmp;(·rfl)))))))
          exact ⟨(false, Y), rfl, ⟨hY, fun q => (by cases q), fun q => (by cases q), fun q => (by
            obtain ⟨p', h1, h2, h3⟩ := q x hxm
            rw [hlk] at h1; cases h1; omega)⟩, by (repeat (first|exact HKeep.refl|(apply HKeep.app;(·(repeat (first|exact Split.here|apply Split.cons))))|(apply HKeep.pick;(·(repeat (first|exact Rem.here|apply Rem.there))))|apply HKeep.drop (by first|assumption|omega)))⟩
        · have hpass : passX look bound x := ⟨p, hlk, by omega, by omega⟩
          have hps2 : ∀ y ∈ (movesL G.m s).take (i + 1), passX look bound y := fun y hy => by
            rw [take_succ hx] at hy
            rcases List.mem_append.1 hy with q | q
            · exact hps y q
            · rw [List.mem_singleton.1 q]; exact hpass
          have hdn := hY.dn x hxo
          have hsucc := stepsDT_succ (p := (X.D, X.T)) hx
          rw [← hst] at hsucc
          by_cases hmem : x ∈ Y.D
          · rw [if_pos hmem] at hdn
            have hv3 : ∀ z, (getL (jkOf hm hxo) Y.des).getD z = .bool true := fun z => by rw [hdn]; rfl
            rw [stepDT_t (p := (Y.D, Y.T)) hmem] at hsucc
            repeat (first|(apply sp_cond_f;(·exact eT rfl);(·rfl))|apply then_n|apply block_n|apply sp_seq|apply sp_region|apply spl_nil|((apply sp_cond_t);(·exact eT rfl);(·(rfl)))|apply sp_skip|apply sp_block|((first|apply spl_pure rfl|(apply spl_pure_g rfl;(·exact Gd.tf rfl rfl)));(·(first|(apply ex_lssT hlt';(·exact eT rfl);(·exact eT rfl))|(apply ex_loadJ (i:=i) (y:=x) (xs:=movesL G.m s) (tail:=tl0);(·exact eT rfl);(·rfl);(·exact Bk.own InH.mem);(·exact hmok);(·exact hx))|(refine ex_lookupOk (k:=jkOf hm hxo) (kv:=jkV) (g:=J.gp) (c:=pc) (hv1 _) hv2 ?_ ?_ ?_;(·exact eT rfl);(·exact eT rfl);(·exact Bk.own InH.mem))|(refine ex_lookup (k:=jkOf hm hxo) (kv:=jkV) (g:=J.gd) (c:=Y.dc) (hv3 _) ?_ ?_ ?_;(·exact eT rfl);(·exact eT rfl);(·exact Bk.own InH.mem))|(apply ex_lssF hb0;(·exact eT rfl);(·exact eC))|(apply ex_gtrF hb1;(·exact eT rfl);(·exact eT rfl))|((first|apply ex_move|apply ex_assign|apply ex_fieldAddr'|apply ex_not)<;>(exact eT rfl))|((apply ex_orT)<;>(exact eT rfl))|(apply ex_addn<;>(first|exact eT rfl|exact eC|(constructor<;>omega)))|((first|apply ex_loadown|apply ex_extract|apply ex_indexAddr)<;>(first|exact eT rfl|exact Bk.own InH.mem|rfl|assumption))|((apply ex_loadowns)<;>(first|exact eT rfl|exact Bk.own InH.mem|(assumption))))))|(apply spl_alloc rfl;intro _ _)|(apply spl_stores;(·exact eT rfl);(·exact eT rfl);(·(repeat (exact Upd.here)));(·(rfl));(·(assumption));(·exact Ones.one)))
            exact ⟨(i + 1, Y), ⟨hlt, hY, hsucc.symm, (by show Y.T.length ≤ X.T.length + (i + 1); omega), hps2⟩, by (show (movesL G.m s).length - (i + 1) < (movesL G.m s).length - i; omega), (by (repeat (first|exact ESub.nil|apply ESub.cons rfl))), rfl, (by (repeat (first|exact HKeep.refl|(apply HKeep.app;(·(repeat (first|exact Split.here|apply Split.cons))))|(apply HKeep.pick;(·(repeat (first|exact Rem.here|apply Rem.there))))|apply HKeep.drop (by first|assumption|omega))))⟩
          · rw [if_neg hmem] at hdn
            have hv3 : ∀ z, (getL (jkOf hm hxo) Y.des).getD z = z := fun z => by rw [hdn]; rfl
            rw [stepDT_f (p := (Y.D, Y.T)) hmem] at hsucc
            have hnl : (jOf G.m x).C.toList.length = 1 * 10 := by rw [Array.length_toList, hzx]
            repeat (first|(refine sp_drawn (id := 8) [(0, true), (1, true), (2, true), (3, true), (4, false), (5, false), (6, false), (7, false)] 6 _ mixed ?_ (HKeep.keep (HKeep.keep (HKeep.keep (HKeep.keep (HKeep.keep (HKeep.keep (HKeep.keep (HKeep.keep (HKeep.dropA hrow HKeep.refl))))))))) ?_;(·kernel_rfl))|(apply sp_cond_t;(·exact eT rfl);(·rfl))|(apply spl_buildSlice (d := 46) rfl;(·rfl);(·(repeat (first|exact eN|(apply eS;(·exact eT rfl)))));(·rfl);(·(show (Nat.beq (jOf G.m x).C.size 10 && true) = true;rw [hzx];rfl));(·rfl);intro gn hgn)|(refine spl_mapUpdate (k:=jkOf hm hxo) (kv:=jkV) (g:=J.gd) (c:=Y.dc) (es:=Y.des) (v:=.bool true) (by (exact eT rfl)) (by (exact eT rfl)) (by (exact eC)) (by (repeat (first|exact Upd.here|apply Upd.there|apply Upd.app))) ?_)|apply then_n|apply block_n|apply sp_seq|apply sp_region|apply spl_nil|(apply sp_cond_f;(·exact eT rfl);(·(rfl)))|apply sp_skip|apply sp_block|((first|apply spl_pure rfl|(apply spl_pure_g rfl;(·exact Gd.tf rfl rfl))|apply wlk_read rfl rfl);(·(first|(apply ex_lssT hlt';(·exact eT rfl);(·exact eT rfl))|(apply ex_loadJ (i:=i) (y:=x) (xs:=movesL G.m s) (tail:=tl0);(·exact eT rfl);(·rfl);(·exact Bk.own InH.mem);(·exact hmok);(·exact hx))|(refine ex_lookupOk (k:=jkOf hm hxo) (kv:=jkV) (g:=J.gp) (c:=pc) (hv1 _) hv2 ?_ ?_ ?_;(·exact eT rfl);(·exact eT rfl);(·exact Bk.own InH.mem))|(refine ex_lookup (k:=jkOf hm hxo) (kv:=jkV) (g:=J.gd) (c:=Y.dc) (hv3 _) ?_ ?_ ?_;(·exact eT rfl);(·exact eT rfl);(·exact Bk.own InH.mem))|(apply ex_lssF hb0;(·exact eT rfl);(·exact eC))|(apply ex_gtrF hb1;(·exact eT rfl);(·exact eT rfl))|((first|apply ex_move|apply ex_assign|apply ex_fieldAddr'|apply ex_not)<;>(exact eT rfl))|((apply ex_orT)<;>(exact eT rfl))|(apply ex_addn<;>(first|exact eT rfl|exact eC|(constructor<;>omega)))|((first|apply ex_loadown|apply ex_extract|apply ex_indexAddr)<;>(first|exact eT rfl|exact Bk.own InH.mem|rfl|assumption))|((apply ex_loadowns)<;>(first|exact eT rfl|exact Bk.own InH.mem|(assumption))))))|(apply spl_alloc rfl;intro _ _)|(apply spl_store1;(·exact eT rfl);(·exact eT rfl);(·rfl);(·(repeat (first|exact Upd.here|apply Upd.there|apply Upd.app)));(·rfl))|(apply spl_stores;(·exact eT rfl);(·exact eT rfl);(·(repeat (exact Upd.here)));(·(rfl));(·(assumption));(·exact Ones.one))|(apply effq;(·(intro h_;(first|(exact absurd h_ (by decide))|(repeat (first|exact HKeep.refl|(apply HKeep.pick;(·(repeat (first|exact Rem.here|apply Rem.there|apply Rem.app))))|apply HKeep.drop (by first|assumption|omega)|apply HKeep.dropA (by assumption)))))))|apply wlk_nil|apply wlk_eff rfl|(refine spl_append_row (r := Y.r) (n := Y.T.length) (xs := jL G.m Y.T) (news := (jOf G.m x).C.toList) (m := 1) (by (exact eT rfl)) (by (exact eT rfl)) (by (repeat (first|exact Split.here|apply Split.cons))) hY.row hY.fr (by omega) (fun w' hh => SrcAt.slice (CellsAt.own hh.ownI (fun j u hj => by rw [List.getElem?_toArray]; simpa [Value.cells] using hj)) hnl rfl (fun q hq => Ones.one q (Array.mem_toList_iff.1 hq))) hnl (by omega) rfl rfl rfl rfl ?_;intro r2 hr2 hfr2;have hrow2 := RowS.drop (xs := jL G.m Y.T ++ (jOf G.m x).C.toList) (T := 102) hfr2))
            rw [← jL_snoc] at hr2 hrow2 ⊢
            have hlen2 : Y.T.length + 1 = (Y.T ++ [x]).length := by rw [List.length_append]; rfl
            rw [hlen2] at hr2 ⊢
            exact ⟨(i + 1, ⟨putL (jkOf hm hxo) (.bool true) Y.dc Y.des, tick (jkOf hm hxo) Y.dc Y.des, r2, Y.D ++ [x], Y.T ++ [x]⟩), ⟨hlt, ⟨hY.dn.put hxo, hr2, hfr2⟩, hsucc.symm, (by show (Y.T ++ [x]).length ≤ X.T.length + (i + 1); omega), hps2⟩, by (show (movesL G.m s).length - (i + 1) < (movesL G.m s).length - i; omega), (by (repeat (first|exact ESub.nil|apply ESub.cons rfl))), rfl, (by (repeat (first|exact HKeep.refl|(apply HKeep.app;(·(repeat (exact Split.here))))|(apply HKeep.pick;(·(repeat (first|exact Rem.here|apply Rem.there|apply Rem.app))))|apply HKeep.drop (by first|assumption|omega))))⟩
  · have hin : i = (movesL G.m s).length := by omega
    have hlt' : ¬ (i : Int) < (((movesL G.m s).length : Nat) : Int) := by omega
    repeat (first|(apply sp_cond_f;(·exact eT rfl);(·rfl))|apply then_n|apply sp_seq|apply sp_region|apply spl_nil|apply then_e|apply block_here|apply sp_ret|apply sp_exit|((apply spl_pure rfl);(·(first|(apply ex_lssF hlt';(·exact eT rfl);(·exact eT rfl))|((apply ex_assign)<;>(exact eC))))))
    (apply retX_ok rfl;(·((apply Res.ofOne;((apply Res1.tmp;(·rfl)))))))
    refine ⟨(true, Y), rfl, ⟨hY, fun _ => by rw [hin] at hst; exact hst, fun _ => ?_, fun _ => rfl⟩, by (repeat (first|exact HKeep.refl|(apply HKeep.app;(·(repeat (first|exact Split.here|apply Split.cons))))|(apply HKeep.pick;(·(repeat (first|exact Rem.here|apply Rem.there))))|apply HKeep.drop (by first|assumption|omega)))⟩
    rw [hin, List.take_length] at hps
    exact hps
end Go.Proofs.Ytoogicafefennaa
/-
  What a judge builds and keeps: the map of positions, the law of its loop; loops in functions that leave with a mark.
-/
namespace Go.Sy
set_option linter.unusedVariables false
open Go.RowKit
set_option linter.unusedVariables false
set_option linter.unusedSimpArgs false
section
variable {P : Program} {r : Option Nat} {D : List Deferred} {N Be : Nat} {Q : PostM} {e : Env} {w0 : World} {H : Heap}
/-- A loop in code that may have marks. -/
theorem spm_loop {c : Code} {X : Type} (E : X → Env) (W : X → World) (HH : X → Heap) (I : X → Prop) (m : X → Nat) (x0 : X) (h0 : I x0) (he : ESub (E x0) e) (hw : W x0 = w0) (hH : HKeep w0 (HH x0) H)
    (round : ∀ x, I x → SpcM r D P N Be c (fun D' => thenQ (fun e' w' H' => D' = D ∧ ∃ x', I x' ∧ m x' < m x ∧ ESub (E x') e' ∧ W x' = w' ∧ HKeep w' (HH x') H') (Q D')) (E x) (W x) (HH x)) : SpcM r D P N Be (.loop c) Q e w0 H := by
  intro a w hf hh
  subst hw
  refine wpIn_loop (fun a w => ∃ n a0, a = wd a0 D ∧ ∃ x, m x = n ∧ I x ∧ Fr N (E x) a0 ∧ Hp Be (W x) (HH x) w) (fun a w => leastOf fun n => ∃ a0, a = wd a0 D ∧ ∃ x, m x = n ∧ I x ∧ Fr N (E x) a0 ∧ Hp Be (W x) (HH x) w) ⟨m x0, a, rfl, x0, rfl, h0, hf.sub he, hh.sub hH⟩ ?_
  intro a w hI
  obtain ⟨a0, rfl, x, hm, hIx, hf, hh⟩ := (leastOf_spec hI).1
  refine wpIn_mono (round x hIx a0 w hf hh) ?_
  rintro ex a' w' ⟨e', w0', H', h1, h2, h3⟩
  cases ex <;> first | exact ⟨e', w0', H', h1, h2, h3⟩ | skip
  obtain ⟨hD, x', hI', hlt, hs, hW, hH'⟩ := h3
  subst hW
  have hG : ∃ a0, a' = wd a0 D ∧ ∃ y, m y = m x' ∧ I y ∧ Fr N (E y) a0 ∧ Hp Be (W y) (HH y) w' := ⟨{ a' with defers := [] }, by rw [← hD, wd_back], x', rfl, hI', h1.sub hs, h2.sub hH'⟩
  exact ⟨⟨_, hG⟩, Nat.lt_of_le_of_lt ((leastOf_spec ⟨_, hG⟩).2 _ hG) (hm ▸ hlt)⟩
end
end Go.Sy
namespace Go.Proofs.Ytoogicafefennaa
set_option linter.unusedVariables false
open Go.RowKit Go.Sy
section
variable {P : Program} {N Be : Nat} {Q : Post} {e : Env} {w0 : World} {H : Heap} {ops : Array Oper} {rest : List Oper} {ty : TypeId} {pos : String} {after : Array Edge} {d : Nat}
/-- A copy, of nothing too. -/
theorem spl_copyA {dT sT el : TypeId} {x y : Operand} {g off n c m c2 : Nat} {A : Option Addr} {cs cs' : Array Value} {T : TypeId} {vs : List Value} {H' : Heap} [ht : TSlice P dT el] [hz : TSize P el 1] (hN : Nat.blt d N = true) (hx : Ev true e x (.slice (some ⟨g, off, none⟩) n c)) (hy : Ev true e y (.slice A m c2))
    (hsrc : ∀ w, Hp Be w0 H w → CellsAt w A vs) (hl : vs.length = m) (hm : m ≤ n) (h1 : ∀ v ∈ vs, v.oneCell' = true) (hcs : setL cs off vs = cs') (hu : Upd H g (.cells cs T (0, 0)) (.cells cs' T (0, 0)) H') (hfit : off + vs.length ≤ cs.size)
    (k : Spl P N Be ops Q rest ((d, true, .int .i64 vs.length) :: e) w0 H') :
    Spl P N Be ops Q (⟨some d, .call ⟨.builtin .copy, #[x, y], #[dT, sT]⟩, ty, pos, after, none⟩ :: rest) e w0 H := by
  by_cases h0 : 0 < vs.length
  · exact spl_copyC hN hx hy hsrc (by rw [hl]; exact (Nat.min_eq_left hm).symm) h0 h1 hcs hu hfit k
  · have hv : vs = [] := List.eq_nil_of_length_eq_zero (by omega)
    subst hv
    have hm0 : m = 0 := hl.symm
    subst hm0
    have hc : cs = cs' := hcs
    subst hc
    obtain ⟨a, b, e1, e2⟩ := hu
    have hH : H' = H := by rw [e1, e2]
    subst hH
    exact spl_copyZ hN hx hy k
end
/-! The positions of a plan. -/
structure PosW (p : PosR) : Prop where
  t : W64 p.turn
  b : W64 p.budget
  s : ∀ x ∈ p.starts, W64 x
  n : p.sl.n = p.starts.length
  bd : W64 p.bound
  f : p.fl.n = p.failed.length
theorem sit_ok {p : PosR} (hw : PosW p) (h : sitOk p = true) : (sitJ p).Ok := by
  have h2 := h
  unfold sitOk at h2
  rw [Bool.not_eq_true', Bool.or_eq_false_iff, decide_eq_false_iff_not] at h2
  have hn := hw.n
  have hl : p.starts.length ≤ 6 := by omega
  have hf : p.fl.n ≤ 6 := by
    have := h2.2
    simp only [Bool.not_eq_false', decide_eq_true_eq] at this
    omega
  unfold sitJ
  rw [if_pos h]
  have hk := mask_64 p.failed hf
  refine ⟨hw.t, hw.b, W64.of (by show _ ≤ (p.sl.n : Int); omega) (by show (p.sl.n : Int) < _; omega), padZ_len hl, fun x hx => ?_, W64.of (by show _ ≤ ((maskN p.failed p.fl.n : Nat) : Int); omega) (by show ((maskN p.failed p.fl.n : Nat) : Int) < _; omega)⟩
  have hx' : x ∈ padZ p.starts := hx
  unfold padZ at hx'
  rcases List.mem_append.1 hx' with q | q
  · exact hw.s x q
  · rw [(List.mem_replicate.1 q).2]
    exact W64.of (by omega) (by omega)
theorem lookP_t {p : PosR} {r : List PosR} {k : JK} (h : sitOk p = true) (he : sitJ p = k) : lookP (p :: r) k = some p := by
  unfold lookP
  rw [List.find?_cons, h, decide_eq_true he]; rfl
theorem lookP_f {p : PosR} {r : List PosR} {k : JK} (h : ¬ (sitOk p = true ∧ sitJ p = k)) : lookP (p :: r) k = lookP r k := by
  unfold lookP
  have : (sitOk p && decide (sitJ p = k)) = false := by
    cases h1 : sitOk p with
    | false => rfl
    | true => rw [decide_eq_false fun q => h ⟨h1, q⟩]; rfl
  rw [List.find?_cons, this]
def psKey {p : PosR} (hw : PosW p) (h : sitOk p = true) : JKs := ⟨sitJ p, sit_ok hw h⟩
def PMap (ps : List PosR) (pes : List (JKs × Value × Nat)) : Prop := ∀ k : JKs, getL k pes = (lookP ps k.1).map fun p => .agg p.C
theorem PMap.nil : PMap [] [] := fun k => rfl
theorem PMap.put {p : PosR} {r : List PosR} {pes : List (JKs × Value × Nat)} {c : Nat} (h : PMap r pes) (hw : PosW p) (ho : sitOk p = true) : PMap (p :: r) (putL (psKey hw ho) (.agg p.C) c pes) := fun k => by
  rw [getL_put]
  by_cases he : k = (psKey hw ho)
  · rw [if_pos he, lookP_t ho (by rw [he]; rfl)]; rfl
  · rw [if_neg he, lookP_f (fun q => he (Subtype.ext q.2.symm)), h k]
theorem PMap.skip {p : PosR} {r : List PosR} {pes : List (JKs × Value × Nat)} (h : PMap r pes) (ho : sitOk p = false) : PMap (p :: r) pes := fun k => by
  rw [lookP_f (fun q => by rw [ho] at q; cases q.1), h k]
theorem PMap.posM {ps : List PosR} {pes : List (JKs × Value × Nat)} {m : Nat} {hm : m ≤ 6} (h : PMap ps pes) : PosM m hm pes (fun x => lookP ps (jOf m x)) := fun x hx => h (jkOf hm hx)
/-! How much there is to do. -/
def wT (n : Nat) (T : List GS) : Nat := (T.map fun x => 8 ^ (n - x.turn)).sum
theorem wT_append {n : Nat} {T : List GS} {x : GS} : wT n (T ++ [x]) = wT n T + 8 ^ (n - x.turn) := by unfold wT; simp
theorem fold_wT {n t : Nat} : ∀ (l : List GS) (p : List GS × List GS), (∀ x ∈ l, x.turn = t) → wT n (l.foldl stepDT p).2 ≤ wT n p.2 + l.length * 8 ^ (n - t)
  | [], p, _ => by simp
  | x :: r, p, h => by
    rw [List.foldl_cons]
    have h1 := fold_wT (n := n) (t := t) r (stepDT p x) fun y hy => h y (.tail _ hy)
    have h2 : wT n (stepDT p x).2 ≤ wT n p.2 + 8 ^ (n - t) := by
      unfold stepDT
      split
      · exact Nat.le_add_right _ _
      · show wT n (p.2 ++ [x]) ≤ _
        rw [wT_append, h x (.head _)]
        exact Nat.le_refl _
    rw [List.length_cons, Nat.add_mul, Nat.one_mul]
    omega
theorem len_wT {n : Nat} : ∀ T : List GS, T.length ≤ wT n T
  | [] => Nat.zero_le _
  | x :: r => by
    have := len_wT (n := n) r
    have h2 : 0 < 8 ^ (n - x.turn) := Nat.pow_pos (by decide)
    unfold wT at this ⊢
    rw [List.map_cons, List.sum_cons, List.length_cons]
    omega
theorem fold_new : ∀ (l : List GS) (p : List GS × List GS) (y : GS), (y ∈ p.2 → y ∈ (l.foldl stepDT p).2) ∧ (y ∈ l → y ∈ p.1 ∨ y ∈ (l.foldl stepDT p).2)
  | [], p, y => ⟨fun h => h, fun h => by cases h⟩
  | x :: r, p, y => by
    rw [List.foldl_cons]
    obtain ⟨h1, h2⟩ := fold_new r (stepDT p x) y
    constructor
    · intro hy
      refine h1 ?_
      unfold stepDT
      split
      · exact hy
      · exact List.mem_append.2 (.inl hy)
    · intro hy
      rcases List.mem_cons.1 hy with rfl | hy
      · by_cases hq : y ∈ p.1
        · exact .inl hq
        · refine .inr (h1 ?_)
          rw [stepDT_f hq]
          simp
      · rcases h2 hy with q | q
        · rcases stepDT_mem.1 q with q | q
          · exact .inl q
          · by_cases hq : y ∈ p.1
            · exact .inl hq
            · refine .inr (h1 ?_)
              rw [q] at hq ⊢
              rw [stepDT_f hq]
              simp
        · exact .inr q
/-! The law of the loop. -/
def acceptP (G : GP) (look : GS → Option PosR) (b : Int) (s0 : GS) : Prop := passP G look b s0 ∧ ∀ s, Reach G look s0 s → okP G look s
structure AInv (G : GP) (look : GS → Option PosR) (b : Int) (s0 : GS) (D T : List GS) : Prop where
  reach : ∀ x ∈ D, Reach G look s0 x ∧ x.In G ∧ x.turn < G.deps.length ∧ ∃ p, look x = some p ∧ 0 ≤ p.bound
  sub : ∀ x ∈ T, x ∈ D
  pass : passP G look b s0
  first : ∀ x ∈ movesL G.m s0, x ∈ D
  done : ∀ x ∈ D, x ∈ T ∨ (okP G look x ∧ ∀ p, look x = some p → (nextS x p).turn < G.deps.length → ∀ y ∈ movesL G.m (nextS x p), y ∈ D)
  size : wT G.deps.length T ≤ 7 * 8 ^ G.deps.length
theorem next_in {G : GP} {x : GS} {p : PosR} (hG : G.Ok) (h : x.In G) (ht : x.turn < G.deps.length) (hc : okCh G x p) : (nextS x p).In G := by
  unfold nextS
  rcases hc with hc | ⟨v, hc, hv, _⟩
  · rw [if_pos hc]; exact waitS_in hG h ht
  · have hm := hG.m
    have := hG.v _ _ hv
    rw [if_neg (by omega), hc, Int.toNat_natCast]
    exact stepS_in hG h ht (by omega)
theorem AInv.init {G : GP} {look : GS → Option PosR} {b : Int} {s0 : GS} {D T : List GS} (hG : G.Ok) (h0 : s0.In G) (ht : s0.turn = 0) (hn : 0 < G.deps.length) (hp : passP G look b s0) (hd : (D, T) = stepsDT (movesL G.m s0) (movesL G.m s0).length ([], [])) : AInv G look b s0 D T := by
  unfold stepsDT at hd
  rw [List.take_length] at hd
  have hm := fun y => fold_mem (movesL G.m s0) ([], []) y
  have hw := fun y => fold_new (movesL G.m s0) ([], []) y
  have hs := fold_wT (n := G.deps.length) (t := 0) (movesL G.m s0) ([], []) fun x hx => by rw [moves_turn hx, ht]
  rw [← hd] at hm hw hs
  have hl := moves_le hG s0
  refine ⟨fun x hx => ?_, fun x hx => ?_, hp, fun x hx => (hm x).1.2 (.inr hx), fun x hx => ?_, ?_⟩
  · rcases (hm x).1.1 hx with q | q
    · cases q
    · obtain ⟨p, h1, h2, _⟩ := hp x q
      exact ⟨.base q, (moves_in h0 q).1, by rw [moves_turn q]; omega, p, h1, h2⟩
  · rcases (hm x).2 hx with q | q
    · cases q
    · exact (hm x).1.2 (.inr q)
  · rcases (hm x).1.1 hx with q | q
    · cases q
    · rcases (hw x).2 q with q | q
      · cases q
      · exact .inl q
  · have h2 : (movesL G.m s0).length * 8 ^ (G.deps.length - 0) ≤ 7 * 8 ^ G.deps.length := Nat.mul_le_mul_right _ hl
    have h3 : wT G.deps.length ([] : List GS) = 0 := rfl
    dsimp only at hs
    omega
theorem AInv.last {G : GP} {look : GS → Option PosR} {b : Int} {s0 x : GS} {D T : List GS} {p : PosR} (h : AInv G look b s0 D (T ++ [x])) (hl : look x = some p) (hc : okCh G x p) (ht : (nextS x p).turn = G.deps.length) (hb : lostN p ≤ p.bound) : AInv G look b s0 D T ∧ wT G.deps.length T < wT G.deps.length (T ++ [x]) := by
  have hpos : 0 < 8 ^ (G.deps.length - x.turn) := Nat.pow_pos (by decide)
  have hsz := h.size
  rw [wT_append] at hsz
  refine ⟨⟨h.reach, fun y hy => h.sub y (List.mem_append.2 (.inl hy)), h.pass, h.first, fun y hy => ?_, by omega⟩, by rw [wT_append]; omega⟩
  rcases h.done y hy with q | q
  · rcases List.mem_append.1 q with q | q
    · exact .inl q
    · rw [List.mem_singleton.1 q]
      refine .inr ⟨⟨p, hl, hc, by rw [if_pos ht]; exact hb⟩, fun p' hp' hlt => ?_⟩
      rw [hl] at hp'
      cases hp'
      omega
  · exact .inr q
theorem AInv.more {G : GP} {look : GS → Option PosR} {b : Int} {s0 x : GS} {D T D' T' : List GS} {p : PosR} (hG : G.Ok) (h : AInv G look b s0 D (T ++ [x])) (hl : look x = some p) (hc : okCh G x p) (ht : (nextS x p).turn < G.deps.length) (hb : passP G look (p.bound - lostN p) (nextS x p))
    (hd : (D', T') = stepsDT (movesL G.m (nextS x p)) (movesL G.m (nextS x p)).length (D, T)) : AInv G look b s0 D' T' ∧ wT G.deps.length T' < wT G.deps.length (T ++ [x]) := by
  obtain ⟨hr, hin, hxt, -⟩ := h.reach x (h.sub x (by simp))
  have hni := next_in hG hin hxt hc
  have htn := nextS_turn x p
  unfold stepsDT at hd
  rw [List.take_length] at hd
  have hm := fun y => fold_mem (movesL G.m (nextS x p)) (D, T) y
  have hw := fun y => fold_new (movesL G.m (nextS x p)) (D, T) y
  have hs := fold_wT (n := G.deps.length) (t := x.turn + 1) (movesL G.m (nextS x p)) (D, T) fun y hy => by rw [moves_turn hy, htn]
  rw [← hd] at hm hw hs
  dsimp only at hm hw hs
  have hlm := moves_le hG (nextS x p)
  have h2 : (movesL G.m (nextS x p)).length * 8 ^ (G.deps.length - (x.turn + 1)) ≤ 7 * 8 ^ (G.deps.length - (x.turn + 1)) := Nat.mul_le_mul_right _ hlm
  have h3 : 8 ^ (G.deps.length - x.turn) = 8 * 8 ^ (G.deps.length - (x.turn + 1)) := by
    rw [show G.deps.length - x.turn = (G.deps.length - (x.turn + 1)) + 1 by omega, Nat.pow_succ, Nat.mul_comm]
  have hpos : 0 < 8 ^ (G.deps.length - (x.turn + 1)) := Nat.pow_pos (by decide)
  have hsz := h.size
  have hlt : wT G.deps.length T' < wT G.deps.length (T ++ [x]) := by
    rw [wT_append, h3]
    omega
  have hsub : ∀ y ∈ T, y ∈ D := fun y hy => h.sub y (List.mem_append.2 (.inl hy))
  refine ⟨⟨fun y hy => ?_, fun y hy => ?_, h.pass, fun y hy => (hm y).1.2 (.inl (h.first y hy)), fun y hy => ?_, by omega⟩, hlt⟩
  · rcases (hm y).1.1 hy with q | q
    · exact h.reach y q
    · obtain ⟨py, h1, h2, _⟩ := hb y q
      exact ⟨.step hr hl ht q, (moves_in hni q).1, by rw [moves_turn q]; exact ht, py, h1, h2⟩
  · rcases (hm y).2 hy with q | q
    · exact (hm y).1.2 (.inl (hsub y q))
    · exact (hm y).1.2 (.inr q)
  · by_cases hyD : y ∈ D
    · rcases h.done y hyD with q | ⟨q1, q2⟩
      · rcases List.mem_append.1 q with q | q
        · exact .inl ((hw y).1 q)
        · rw [List.mem_singleton.1 q]
          refine .inr ⟨⟨p, hl, hc, by rw [if_neg (by omega)]; exact hb⟩, fun p' hp' hlt' z hz => ?_⟩
          rw [hl] at hp'
          cases hp'
          exact (hm z).1.2 (.inr hz)
      · exact .inr ⟨q1, fun p' hp' hlt' z hz => (hm z).1.2 (.inl (q2 p' hp' hlt' z hz))⟩
    · rcases (hm y).1.1 hy with q | q
      · exact absurd q hyD
      · rcases (hw y).2 q with q | q
        · exact absurd q hyD
        · exact .inl q
theorem AInv.all {G : GP} {look : GS → Option PosR} {b : Int} {s0 : GS} {D : List GS} (h : AInv G look b s0 D []) : acceptP G look b s0 := by
  have key : ∀ s, Reach G look s0 s → s ∈ D := by
    intro s hs
    induction hs with
    | base hx => exact h.first _ hx
    | step hr hl ht hx ih =>
      rcases h.done _ ih with q | ⟨_, q⟩
      · cases q
      · exact q _ hl ht _ hx
  refine ⟨h.pass, fun s hs => ?_⟩
  rcases h.done s (key s hs) with q | ⟨q, _⟩
  · cases q
  · exact q
theorem AInv.not {G : GP} {look : GS → Option PosR} {b : Int} {s0 x : GS} {D T : List GS} {p : PosR} (h : AInv G look b s0 D (T ++ [x])) (hl : look x = some p) (hn : ¬ (okCh G x p ∧ (if (nextS x p).turn = G.deps.length then lostN p ≤ p.bound else passP G look (p.bound - lostN p) (nextS x p)))) : ¬ acceptP G look b s0 := by
  rintro ⟨-, ha⟩
  obtain ⟨hr, -⟩ := h.reach x (h.sub x (by simp))
  obtain ⟨p', hp', q⟩ := ha x hr
  rw [hl] at hp'
  cases hp'
  exact hn q
/-! The first state as a judge sees it. -/
theorem j0_gs0 {ns : List Nat} {B : Nat} : j0 0 (B : Int) ns.length (ns.map fun n : Nat => (n : Int)) 0 = jOf ns.length (gs0 ns B) := by
  unfold j0 jOf gs0 padZ padS
  simp only [List.map_append, List.map_replicate, List.length_map]
  rfl
theorem sitJ_len {p : PosR} (hw : PosW p) : (sitJ p).starts.length = 6 := by
  unfold sitJ
  by_cases h : sitOk p = true
  · have h2 := h
    unfold sitOk at h2
    rw [Bool.not_eq_true', Bool.or_eq_false_iff, decide_eq_false_iff_not] at h2
    have hn := hw.n
    rw [if_pos h]
    exact padZ_len (by omega)
  · rw [if_neg h]; rfl
/-! The cells of a state as a judge sees it. -/
theorem jOf_c0 {m : Nat} {s : GS} : (jOf m s).C[0]? = some (.int .i64 (s.turn : Int)) := rfl
theorem jOf_c3 {m v : Nat} {s : GS} (h : s.Ok) (hv : v < 6) : (jOf m s).C[3 + v]? = some (.int .i64 ((sAt s v : Nat) : Int)) := by
  unfold JK.C JK.L jOf sAt
  have hl : (List.map zv (List.map (fun n : Nat => (n : Int)) s.starts)).length = 6 := by rw [List.length_map, List.length_map]; exact h.l1
  rw [List.getElem?_toArray, Nat.add_comm 3 v, List.getElem?_cons_succ, List.getElem?_cons_succ, List.getElem?_cons_succ, List.getElem?_append_left (by rw [hl]; exact hv), List.getElem?_map, List.getElem?_map, List.getD_eq_getElem?_getD, List.getElem?_eq_getElem (by rw [h.l1]; exact hv)]
  all_goals rfl
theorem jOf_s0 {m : Nat} {s : GS} : (jOf m s).C.setIfInBounds 0 (.int .i64 ((s.turn + 1 : Nat) : Int)) = (jOf m (waitS s)).C := rfl
theorem jOf_s3 {m v : Nat} {s : GS} (h : s.Ok) (hv : v < 6) : (jOf m (waitS s)).C.setIfInBounds (3 + v) (.int .i64 ((sAt s v - 1 : Nat) : Int)) = (jOf m (stepS s v)).C := by
  apply Array.ext'
  unfold JK.C JK.L jOf waitS stepS
  have hl : (List.map zv (List.map (fun n : Nat => (n : Int)) s.starts)).length = 6 := by rw [List.length_map, List.length_map]; exact h.l1
  rw [Array.toList_setIfInBounds, Nat.add_comm 3 v, List.set_cons_succ, List.set_cons_succ, List.set_cons_succ, List.set_append_left _ _ (by rw [hl]; exact hv), List.map_set, List.map_set]
  all_goals rfl
theorem Plain.row_at {g : GaR} {ns : List Nat} {ds : List (Sl × List Nat)} {B t : Nat} {y : Sl × List Int} (hp : Plain g ns ds B) (hy : g.deps[t]? = some y) : y.2 = ((gpOf ns ds).at_ t).map fun n : Nat => (n : Int) := by
  rw [hp.ds, List.getElem?_map] at hy
  unfold GP.at_ gpOf
  rw [List.getD_eq_getElem?_getD, List.getElem?_map]
  cases hx : ds[t]? with
  | none => rw [hx] at hy; cases hy
  | some x =>
    rw [hx] at hy
    cases hy
    rfl
theorem any_cho {l : List Nat} {c : Int} : ((l.map fun n : Nat => (n : Int)).any fun k => decide (c = k)) = true ↔ ∃ v : Nat, c = v ∧ v ∈ l := by
  rw [List.any_eq_true]
  constructor
  · rintro ⟨x, hx, h⟩
    obtain ⟨v, hv, rfl⟩ := List.mem_map.1 hx
    exact ⟨v, of_decide_eq_true h, hv⟩
  · rintro ⟨v, rfl, hv⟩
    exact ⟨(v : Int), List.mem_map.2 ⟨v, hv, rfl⟩, decide_eq_true rfl⟩
theorem lookP_mem {ps : List PosR} {k : JK} {p : PosR} (h : lookP ps k = some p) : p ∈ ps := List.mem_of_find?_eq_some h
end Go.Proofs.Ytoogicafefennaa
/-
  The frame of the law TopNoBetter: the game and the plan that are handed in.
-/
namespace Go.Proofs.Ytoogicafefennaa
set_option linter.unusedVariables false
open Go.RowKit Go.Sy
set_option linter.unusedVariables false
theorem one_eq {a b : Value} (h : [a] = [b]) : a = b := (List.cons.inj h).1
theorem fo_int {w : World} {cs : List Value} (h : Fo Try.prog w 3 cs) : ∃ x : Int, cs = (intC x).toList ∧ W64 x := by
  obtain ⟨m, h0, hw⟩ := h.int Try.underlying3
  exact ⟨m, h0, hw⟩
theorem fo_bool {w : World} {cs : List Value} (h : Fo Try.prog w 4 cs) : ∃ x : Bool, cs = (boolC x).toList ∧ True := by
  obtain ⟨b, h0⟩ := h.bool Try.underlying4
  exact ⟨b, h0, trivial⟩
theorem fo_ints {w : World} {cs : List Value} (h : Fo Try.prog w 25 cs) : ∃ x : Sl × List Int, cs = (slI x).toList ∧ RdS w w.heap.size 1 intC x.1.a x.1.n x.2 := by
  obtain ⟨A, n, c, xs, h0, le, lm, rd, q⟩ := h.slice (sz := 1) (C := intC) Try.underlying25 (by kernel_rfl) rfl (fun _ q => fo_int q)
  exact ⟨(⟨A, n, c⟩, xs), h0, rd⟩
theorem fo_game {w : World} {cs : List Value} (h : Fo Try.prog w 47 cs) : ∃ x : GaR, cs = x.C.toList ∧ RdGa w w.heap.size x := by
  obtain ⟨hl, hf⟩ := h.struct Try.underlying47
  have hl' : cs.length = 3 := hl.trans (by kernel_rfl)
  match cs, hl' with
  | [c0, c1, c2], _ =>
    obtain ⟨A0, n0, k0, xs0, h0, le0, lm0, rd0, q0⟩ := (hf 0 _ rfl 1 (by kernel_rfl)).slice (sz := 1) (C := intC) Try.underlying25 (by kernel_rfl) rfl (fun _ q => fo_int q)
    obtain rfl : c0 = .slice A0 n0 k0 := one_eq h0
    obtain ⟨A1, n1, k1, xs1, h1, le1, lm1, rd1, q1⟩ := (hf 1 _ rfl 1 (by kernel_rfl)).slice (sz := 1) (C := slI) Try.underlying45 (by kernel_rfl) rfl (fun _ q => fo_ints q)
    obtain rfl : c1 = .slice A1 n1 k1 := one_eq h1
    obtain ⟨m2, h2, hw2⟩ := (hf 2 _ rfl 1 (by kernel_rfl)).int Try.underlying3
    obtain rfl : c2 = .int .i64 m2 := one_eq h2
    exact ⟨⟨⟨A0, n0, k0⟩, xs0, ⟨A1, n1, k1⟩, xs1, m2⟩, rfl, ⟨rd0, rd1, q1⟩⟩
theorem fo_position {w : World} {cs : List Value} (h : Fo Try.prog w 100 cs) : ∃ x : PosR, cs = x.C.toList ∧ (RdPos w w.heap.size x ∧ PosW x) := by
  obtain ⟨hl, hf⟩ := h.struct Try.underlying100
  have hl' : cs.length = 6 := hl.trans (by kernel_rfl)
  match cs, hl' with
  | [c0, c1, c2, c3, c4, c5], _ =>
    obtain ⟨m0, h0, hw0⟩ := (hf 0 _ rfl 1 (by kernel_rfl)).int Try.underlying3
    obtain rfl : c0 = .int .i64 m0 := one_eq h0
    obtain ⟨A1, n1, k1, xs1, h1, le1, lm1, rd1, q1⟩ := (hf 1 _ rfl 1 (by kernel_rfl)).slice (sz := 1) (C := intC) Try.underlying25 (by kernel_rfl) rfl (fun _ q => fo_int q)
    obtain rfl : c1 = .slice A1 n1 k1 := one_eq h1
    obtain ⟨A2, n2, k2, xs2, h2, le2, lm2, rd2, q2⟩ := (hf 2 _ rfl 1 (by kernel_rfl)).slice (sz := 1) (C := boolC) Try.underlying29 (by kernel_rfl) rfl (fun _ q => fo_bool q)
    obtain rfl : c2 = .slice A2 n2 k2 := one_eq h2
    obtain ⟨m3, h3, hw3⟩ := (hf 3 _ rfl 1 (by kernel_rfl)).int Try.underlying3
    obtain rfl : c3 = .int .i64 m3 := one_eq h3
    obtain ⟨m4, h4, hw4⟩ := (hf 4 _ rfl 1 (by kernel_rfl)).int Try.underlying3
    obtain rfl : c4 = .int .i64 m4 := one_eq h4
    obtain ⟨m5, h5, hw5⟩ := (hf 5 _ rfl 1 (by kernel_rfl)).int Try.underlying3
    obtain rfl : c5 = .int .i64 m5 := one_eq h5
    exact ⟨⟨m0, ⟨A1, n1, k1⟩, xs1, ⟨A2, n2, k2⟩, xs2, m3, m4, m5⟩, rfl, ⟨rd1, rd2⟩, ⟨hw0, hw3, q1, rd1.len.symm, hw5, rd2.len.symm⟩⟩
theorem fo_positions {w : World} {cs : List Value} (h : Fo Try.prog w 48 cs) : ∃ (A : Option Addr) (n c : Nat) (ps : List PosR), cs = [.slice A n c] ∧ RdPlan w w.heap.size A n ps ∧ ∀ p ∈ ps, PosW p := by
  obtain ⟨A, n, c, xs, h0, le, lm, rd, q⟩ := h.slice (sz := 6) (C := PosR.C) Try.underlying48 (by kernel_rfl) rfl (fun _ q => fo_position q)
  exact ⟨A, n, c, xs, h0, ⟨rd, fun p hp => (q p hp).1⟩, fun p hp => (q p hp).2⟩
end Go.Proofs.Ytoogicafefennaa
/-
  Numbers that are handed in.
-/
namespace Go.Proofs.Ytoogicafefennaa
set_option linter.unusedVariables false
open Go.RowKit Go.Sy
theorem wf8 {n : Int} (h : (Lit.int .u8 n).wf = true) : ∃ r : Nat, n = r ∧ r < 256 := by
  simp [Lit.wf, IntKind.min, IntKind.max, IntKind.signed, IntKind.bits] at h
  exact ⟨n.toNat, by omega, by omega⟩
theorem wf16 {n : Int} (h : (Lit.int .u16 n).wf = true) : ∃ r : Nat, n = r ∧ r < 65536 := by
  simp [Lit.wf, IntKind.min, IntKind.max, IntKind.signed, IntKind.bits] at h
  exact ⟨n.toNat, by omega, by omega⟩
theorem wf64 {n : Int} (h : (Lit.int .u64 n).wf = true) : ∃ r : Nat, n = r ∧ r < 18446744073709551616 := by
  simp [Lit.wf, IntKind.min, IntKind.max, IntKind.signed, IntKind.bits] at h
  exact ⟨n.toNat, by omega, by omega⟩
end Go.Proofs.Ytoogicafefennaa
/-
  Contracts: play.of.
-/
namespace Go.Proofs.Ytoogicafefennaa
set_option linter.unusedVariables false
open Go.RowKit Go.Sy
set_option linter.unusedVariables false
set_option linter.unusedSimpArgs false
def padB (l : List Bool) : List Bool := l ++ List.replicate (6 - l.length) false
def q0 (t b : Int) (m : Nat) (l : List Int) (f : List Bool) : PK := ⟨t, (m : Int), b, padZ l, padB f⟩
def sitP (p : PosR) : PK := if sitOk p then q0 p.turn p.budget p.sl.n p.starts p.failed else q0 0 0 0 [] []
theorem copy_p1 (t b : Int) (m : Nat) : ∀ l : List Int, l.length ≤ 6 → setL (q0 t b m [] []).C 3 (l.map zv) = (q0 t b m l []).C
  | [], _ => rfl
  | [x0], _ => rfl
  | [x0, x1], _ => rfl
  | [x0, x1, x2], _ => rfl
  | [x0, x1, x2, x3], _ => rfl
  | [x0, x1, x2, x3, x4], _ => rfl
  | [x0, x1, x2, x3, x4, x5], _ => rfl
  | x0 :: x1 :: x2 :: x3 :: x4 :: x5 :: x6 :: r, h => by simp at h
theorem copy_p2 (t b s : Int) {st : List Int} (hs : st.length = 6) : ∀ f : List Bool, f.length ≤ 6 → setL (PK.C ⟨t, s, b, st, padB []⟩) 9 (f.map bv) = PK.C ⟨t, s, b, st, padB f⟩ := by
  match st, hs with
  | [a0, a1, a2, a3, a4, a5], _ =>
    intro f hf
    match f, hf with
    | [], _ => rfl
    | [x0], _ => rfl
    | [x0, x1], _ => rfl
    | [x0, x1, x2], _ => rfl
    | [x0, x1, x2, x3], _ => rfl
    | [x0, x1, x2, x3, x4], _ => rfl
    | [x0, x1, x2, x3, x4, x5], _ => rfl
    | x0 :: x1 :: x2 :: x3 :: x4 :: x5 :: x6 :: r, h => simp at h
theorem padB_len {l : List Bool} (h : l.length ≤ 6) : (padB l).length = 6 := by unfold padB; rw [List.length_append, List.length_replicate]; omega
theorem PK.size {s : PK} (h : s.starts.length = 6) (h2 : s.failed.length = 6) : s.C.size = 15 := by
  unfold PK.C PK.L
  simp [h, h2]
instance PK.one (s : PK) : Ones s.C := ⟨by
  intro v hv
  unfold PK.C PK.L at hv
  simp only [List.mem_toArray, List.mem_cons, List.mem_append, List.mem_map, List.not_mem_nil, or_false] at hv
  rcases hv with rfl | rfl | rfl | ⟨x, _, rfl⟩ | ⟨x, _, rfl⟩ <;> rfl⟩
end Go.Proofs.Ytoogicafefennaa
/-
  Contracts: play.of, walked.
-/
namespace Go.Proofs.Ytoogicafefennaa
set_option linter.unusedVariables false
open Go.RowKit Go.Sy
set_option linter.unusedVariables false
set_option linter.unusedSimpArgs false
attribute [local irreducible] Calls thenQ blockQ retQ jumpQ Spc Spl Spq Ex Ev Evs Gd Upd ESub HKeep Res Res1 wlk effQ Rem SrcAt Split PK.C
set_option maxRecDepth 100000 in
set_option maxHeartbeats 8000000 in
theorem of_c {w : World} {p : PosR} (h : RdPos w w.heap.size p) : Calls Try.prog 85 #[.agg p.C] w (Ret w (.tuple #[.agg (sitP p).C, .bool (sitOk p)])) := by
  obtain ⟨turn, ⟨A, n, c⟩, starts, ⟨A', n', c'⟩, failed, budget, choice, bound⟩ := p
  obtain ⟨hst, hfl⟩ := h
  dsimp only at hst hfl
  have hlen := hst.len
  have hlen2 := hfl.len
  have hz1 : #[.int .i64 0, .int .i64 0, .int .i64 0, .int .i64 0, .int .i64 0, .int .i64 0, .int .i64 0, .int .i64 0, .int .i64 0, .bool false, .bool false, .bool false, .bool false, .bool false, .bool false] = (q0 0 0 0 [] []).C := by unfold PK.C; rfl
  have hpc : #[.int .i64 turn, .int .i64 (n : Int), .int .i64 budget, .int .i64 0, .int .i64 0, .int .i64 0, .int .i64 0, .int .i64 0, .int .i64 0, .bool false, .bool false, .bool false, .bool false, .bool false, .bool false] = (q0 turn budget n [] []).C := by unfold PK.C; rfl
  have hs0 : (q0 0 0 0 [] []).C.size = 15 := PK.size rfl rfl
  have hs1 : (q0 turn budget n [] []).C.size = 15 := PK.size rfl rfl
  show Calls _ _ #[.agg #[.int .i64 turn, .slice A n c, .slice A' n' c', .int .i64 budget, .int .i64 choice, .int .i64 bound]] _ _
  refine sp_enter (vs := [_]) Try.func85 rfl Try.ntmps85 rfl ?_
  cases hok : sitOk ⟨turn, ⟨A, n, c⟩, starts, ⟨A', n', c'⟩, failed, budget, choice, bound⟩ with
  | false =>
    have hJ : sitP ⟨turn, ⟨A, n, c⟩, starts, ⟨A', n', c'⟩, failed, budget, choice, bound⟩ = q0 0 0 0 [] [] := by unfold sitP; rw [hok]; rfl
    rw [hJ]
    have hcond : (decide ((6 : Int) < (n : Int)) || !decide ((n' : Int) = (n : Int))) = true := by
      have hq := hok
      unfold sitOk at hq
      rw [Bool.not_eq_false'] at hq
      exact hq
    repeat (first|(apply sp_cond_t;(·exact eT rfl);(·exact hcond))|apply then_n|apply sp_seq|apply sp_region|apply spl_nil|apply then_r|apply sp_ret|((first|apply spl_pure rfl|(apply spl_pure_g rfl;(·exact Gd.tf rfl rfl)));(·(first|(apply ex_buildE (r:=(q0 0 0 0 [] []).C);(·(repeat (exact eN)));(·rfl);(·exact hz1))|((first|apply ex_move|apply ex_assign|apply ex_fieldAddr'|apply ex_gtr|apply ex_sneq|apply ex_len)<;>(first|exact eT rfl|exact eC|exact eG rfl))|((first|apply ex_neq|apply ex_orT)<;>(first|exact eT rfl|exact eG rfl))|(apply ex_loadown<;>(first|exact eT rfl|exact eG rfl|exact Bk.own InH.mem|rfl)))))|(apply spl_box;(·exact eT rfl);(·rfl);intro _ _)|(apply spl_alloc rfl;intro _ _)|(apply spl_stores;(·exact eT rfl);(·exact eT rfl);(·(repeat (exact Upd.here)));(·(rfl));(·(assumption));(·exact Ones.one)))
    (apply ret_ok rfl;(·((apply Res.ofTwo<;>(first|(apply Res1.tmp;(·rfl))|(apply Res1.cell;(·rfl);(·exact InH.mem);(·(assumption)))))))); rfl
  | true =>
    have hJ : sitP ⟨turn, ⟨A, n, c⟩, starts, ⟨A', n', c'⟩, failed, budget, choice, bound⟩ = q0 turn budget n starts failed := by unfold sitP; rw [hok]; rfl
    rw [hJ]
    have hcond : (decide ((6 : Int) < (n : Int)) || !decide ((n' : Int) = (n : Int))) = false := by
      have hq := hok
      unfold sitOk at hq
      rw [Bool.not_eq_true'] at hq
      exact hq
    have h2 := hcond
    rw [Bool.or_eq_false_iff, decide_eq_false_iff_not, Bool.not_eq_false', decide_eq_true_iff] at h2
    have hn6 : n ≤ 6 := by omega
    obtain rfl : n' = n := by omega
    have hpl : (padZ starts).length = 6 := padZ_len (by omega)
    have hpf : (padB failed).length = 6 := padB_len (by omega)
    have hcp := copy_p1 turn budget n' starts (by omega)
    have hcp2 : setL (q0 turn budget n' starts []).C 9 (failed.map bv) = (q0 turn budget n' starts failed).C := copy_p2 turn budget (n' : Int) hpl failed (by omega)
    have hs2 : (q0 turn budget n' starts []).C.size = 15 := PK.size hpl rfl
    have hs3 : (q0 turn budget n' starts failed).C.size = 15 := PK.size hpl hpf
    have hfz : starts.flatMap (fun x => (intC x).toList) = starts.map zv := by
      clear hcp hpl hlen hst hok hJ hcp2 hs2 hs3
      induction starts with
      | nil => rfl
      | cons x r ih => rw [List.flatMap_cons, ih]; rfl
    have hsrc := fun (H : Heap) (w' : World) (hh : Hp w.heap.size w H w') => hfz ▸ CellsAt.rd (hst.hp' hh)
    have hsrc2 := fun (H : Heap) (w' : World) (hh : Hp w.heap.size w H w') => mk_flatL failed ▸ CellsAt.rd (hfl.hp' hh)
    have hon : ∀ v ∈ starts.map zv, v.oneCell' = true := fun v hv => by obtain ⟨b, _, rfl⟩ := List.mem_map.1 hv; rfl
    have hon2 : ∀ v ∈ failed.map bv, v.oneCell' = true := fun v hv => by obtain ⟨b, _, rfl⟩ := List.mem_map.1 hv; rfl
    have hvl : (starts.map zv).length = Nat.min n' 6 := by rw [List.length_map, hlen]; exact (Nat.min_eq_left hn6).symm
    have hvl2 : (failed.map bv).length = Nat.min n' 6 := by rw [List.length_map, hlen2]; exact (Nat.min_eq_left hn6).symm
    have hfit : 0 + 3 + (starts.map zv).length ≤ (q0 turn budget n' [] []).C.size := by rw [List.length_map, hs1]; omega
    have hfit2 : 0 + 9 + (failed.map bv).length ≤ (q0 turn budget n' starts []).C.size := by rw [List.length_map, hs2]; omega
    by_cases hn0 : n' = 0
    · have hnil : starts = [] := List.eq_nil_of_length_eq_zero (by omega)
      have hnil2 : failed = [] := List.eq_nil_of_length_eq_zero (by omega)
      rw [hnil, hnil2]
      repeat (first|(refine sp_drawn (id := 4) [(0, true), (1, true), (2, true), (3, true), (4, false)] 4 _ mixed ?_ HKeep.refl ?_;(·kernel_rfl))|(refine sp_drawn (id := 5) [(0, true), (1, true), (2, true), (3, true), (4, false)] 4 _ mixed ?_ HKeep.refl ?_;(·kernel_rfl))|(apply sp_cond_f;(·exact eT rfl);(·exact hcond))|(apply spl_copyZn hn0 rfl;(·exact eT rfl);(·exact eT rfl))|apply then_n|apply sp_seq|apply sp_region|apply spl_nil|apply sp_skip|apply sp_ret|((first|apply spl_pure rfl|(apply spl_pure_g rfl;(·exact Gd.tf rfl rfl))|apply wlk_read rfl rfl);(·(first|(apply ex_buildE (r:=(q0 turn budget n' [] []).C);(·(repeat (first|exact eN|(apply eS;(·exact eT rfl)))));(·rfl);(·exact hpc))|(apply ex_sliceArr;(·exact eT rfl))|((first|apply ex_move|apply ex_assign|apply ex_fieldAddr'|apply ex_gtr|apply ex_sneq|apply ex_len)<;>(first|exact eT rfl|exact eC|exact eG rfl))|((first|apply ex_neq|apply ex_orT)<;>(first|exact eT rfl|exact eG rfl))|(apply ex_loadown<;>(first|exact eT rfl|exact eG rfl|exact Bk.own InH.mem|rfl))|(apply ex_loadowns<;>(first|exact eT rfl|exact Bk.own InH.mem|(assumption))))))|(apply spl_box;(·exact eT rfl);(·rfl);intro _ _)|(apply spl_alloc rfl;intro _ _)|(apply spl_stores;(·exact eT rfl);(·exact eT rfl);(·(repeat (first|exact Upd.here|apply Upd.there)));(·(rfl));(·(assumption));(·exact Ones.one))|(apply effq;(·(intro h_;((exact absurd h_ (by decide))))))|apply wlk_nil|apply wlk_eff rfl)
      (apply ret_ok rfl;(·((apply Res.ofTwo<;>(first|(apply Res1.tmp;(·rfl))|(apply Res1.cell;(·rfl);(·exact InH.mem);(·(assumption)))))))); rfl
    · have hpos : 0 < (starts.map zv).length := by rw [List.length_map]; omega
      have hpos2 : 0 < (failed.map bv).length := by rw [List.length_map]; omega
      repeat (first|(refine sp_drawn (id := 4) [(0, true), (1, true), (2, true), (3, true), (4, false)] 4 _ mixed ?_ HKeep.refl ?_;(·kernel_rfl))|(refine sp_drawn (id := 5) [(0, true), (1, true), (2, true), (3, true), (4, false)] 4 _ mixed ?_ HKeep.refl ?_;(·kernel_rfl))|(apply sp_cond_f;(·exact eT rfl);(·exact hcond))|(apply spl_copyC (d := 31) (cs':=(q0 turn budget n' starts []).C) (vs:=starts.map zv) rfl;(·exact eT rfl);(·exact eT rfl);(·exact fun w' hh => hsrc _ w' hh);(·exact hvl);(·exact hpos);(·exact hon);(·exact hcp);(·(repeat (exact Upd.here)));(·exact hfit))|(apply spl_copyC (d := 36) (cs':=(q0 turn budget n' starts failed).C) (vs:=failed.map bv) rfl;(·exact eT rfl);(·exact eT rfl);(·exact fun w' hh => hsrc2 _ w' hh);(·exact hvl2);(·exact hpos2);(·exact hon2);(·exact hcp2);(·(repeat (exact Upd.here)));(·exact hfit2))|apply then_n|apply sp_seq|apply sp_region|apply spl_nil|apply sp_skip|apply sp_ret|((first|apply spl_pure rfl|(apply spl_pure_g rfl;(·exact Gd.tf rfl rfl))|apply wlk_read rfl rfl);(·(first|(apply ex_buildE (r:=(q0 turn budget n' [] []).C);(·(repeat (first|exact eN|(apply eS;(·exact eT rfl)))));(·rfl);(·exact hpc))|(apply ex_sliceArr;(·exact eT rfl))|((first|apply ex_move|apply ex_assign|apply ex_fieldAddr'|apply ex_gtr|apply ex_sneq|apply ex_len)<;>(first|exact eT rfl|exact eC|exact eG rfl))|((first|apply ex_neq|apply ex_orT)<;>(first|exact eT rfl|exact eG rfl))|(apply ex_loadown<;>(first|exact eT rfl|exact eG rfl|exact Bk.own InH.mem|rfl))|(apply ex_loadowns<;>(first|exact eT rfl|exact Bk.own InH.mem|(assumption))))))|(apply spl_box;(·exact eT rfl);(·rfl);intro _ _)|(apply spl_alloc rfl;intro _ _)|(apply spl_stores;(·exact eT rfl);(·exact eT rfl);(·(repeat (first|exact Upd.here|apply Upd.there)));(·(rfl));(·(assumption));(·exact Ones.one))|(apply effq;(·(intro h_;((exact absurd h_ (by decide))))))|apply wlk_nil|apply wlk_eff rfl)
      (apply ret_ok rfl;(·((apply Res.ofTwo<;>(first|(apply Res1.tmp;(·rfl))|(apply Res1.cell;(·rfl);(·exact InH.mem);(·(assumption)))))))); rfl
end Go.Proofs.Ytoogicafefennaa
