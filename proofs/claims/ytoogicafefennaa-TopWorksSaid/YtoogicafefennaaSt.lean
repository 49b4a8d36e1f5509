/-
  Regions that draw their order in which two operations that make memory come up together: both orders are walked; code that is cut between two statements.
-/
import Derived.Test.YtoogicafefennaaSr
import Derived.Test.YtoogicafefennaaSm
namespace Go.Sy
open Go.RowKit
set_option linter.unusedVariables false
set_option linter.unusedSimpArgs false
inductive Pt where
  | nil
  | rd (i : Nat) (t : Pt)
  | ef (i : Nat) (t : Pt)
  | fk (i j : Nat) (t u : Pt)
def Pt.len : Pt → Nat
  | .nil => 0
  | .rd _ t => t.len + 1
  | .ef _ t => t.len + 1
  | .fk _ _ t _ => t.len + 1
def canonT (md : Region.Mode) (ops : Array Oper) (m : Nat) : Array Bool → Bool → Pt → Bool
  | listed, _, .nil => (Region.ready md ops listed).isEmpty
  | listed, bar, .rd i r => (!bar && decide (i < m)) && (Region.ready md ops listed).contains i && Region.free md ops listed i && canonT md ops m (listed.setIfInBounds i true) bar r
  | listed, bar, .ef i r => (Region.ready md ops listed == [i]) && canonT md ops m (listed.setIfInBounds i true) (bar || decide (m ≤ i)) r
  | listed, bar, .fk i j r s => (Region.ready md ops listed == [i, j]) && (Nat.beq r.len s.len && (canonT md ops m (listed.setIfInBounds i true) (bar || decide (m ≤ i)) r && canonT md ops m (listed.setIfInBounds j true) (bar || decide (m ≤ j)) s))
def drawnT (ops : Array Oper) (m : Nat) (p : Pt) : Bool :=
  Region.noSelect ops && tailB .any ops m && decide (p.len = ops.size) && canonT .any ops m (Array.replicate ops.size false) false p
section walk
variable {P : Program} {N Be : Nat} {Q : Post} {e : Env} {w0 : World} {H H1 : Heap} {ops : Array Oper} {ty : TypeId} {pos : String} {after : Array Edge} {d i m : Nat}
def wlkT (P : Program) (N Be : Nat) (ops : Array Oper) (m : Nat) (Q : Post) (H1 : Heap) : Pt → Env → World → Heap → Prop
  | .nil, e, w0, H => Q .normal e w0 H
  | .rd i r, e, w0, H => ∃ (o : Oper) (d : Nat) (G : Bool) (v : Value), ops[i]? = some o ∧ o.dst = some d ∧ d < N ∧ Gd ops e o.guard G ∧ Ex P Be w0 H1 G e o.op o.type v ∧ wlkT P N Be ops m Q H1 r ((d, G, v) :: e) w0 H
  | .ef i r, e, w0, H => ∃ o : Oper, ops[i]? = some o ∧ Spl P N Be ops (fun x e' w0' H' => x = .normal ∧ w0' = w0 ∧ (i < m → HKeep w0 H1 H') ∧ wlkT P N Be ops m Q H1 r e' w0' H') [o] e w0 H
  | .fk i j r s, e, w0, H => (∃ o : Oper, ops[i]? = some o ∧ Spl P N Be ops (fun x e' w0' H' => x = .normal ∧ w0' = w0 ∧ (i < m → HKeep w0 H1 H') ∧ wlkT P N Be ops m Q H1 r e' w0' H') [o] e w0 H) ∧
      ∃ o : Oper, ops[j]? = some o ∧ Spl P N Be ops (fun x e' w0' H' => x = .normal ∧ w0' = w0 ∧ (j < m → HKeep w0 H1 H') ∧ wlkT P N Be ops m Q H1 s e' w0' H') [o] e w0 H
def effT (P : Program) (N Be : Nat) (ops : Array Oper) (m : Nat) (Q : Post) (H1 : Heap) (i : Nat) (r : Pt) (w0 : World) : Post := fun x e' w0' H' => x = .normal ∧ w0' = w0 ∧ (i < m → HKeep w0 H1 H') ∧ wlkT P N Be ops m Q H1 r e' w0' H'
theorem wlt_nil (h : Q .normal e w0 H) : wlkT P N Be ops m Q H1 .nil e w0 H := h
theorem wlt_read {r : Pt} {op : Op} {v : Value} (ho : ops[i]? = some ⟨some d, op, ty, pos, after, none⟩) (hN : Nat.blt d N = true) (hx : Ex P Be w0 H1 true e op ty v) (k : wlkT P N Be ops m Q H1 r ((d, true, v) :: e) w0 H) :
    wlkT P N Be ops m Q H1 (.rd i r) e w0 H := ⟨_, d, true, v, ho, rfl, by simpa [Nat.blt_eq] using hN, Gd.none, hx, k⟩
theorem wlt_read_g {r : Pt} {op : Op} {v : Value} {g : Option (Nat × Bool)} {G : Bool} (ho : ops[i]? = some ⟨some d, op, ty, pos, after, g⟩) (hN : Nat.blt d N = true) (hg : Gd ops e g G) (hx : Ex P Be w0 H1 G e op ty v) (k : wlkT P N Be ops m Q H1 r ((d, G, v) :: e) w0 H) :
    wlkT P N Be ops m Q H1 (.rd i r) e w0 H := ⟨_, d, G, v, ho, rfl, by simpa [Nat.blt_eq] using hN, hg, hx, k⟩
theorem wlt_eff {r : Pt} {dst : Option Tmp} {op : Op} {g : Option (Nat × Bool)} (ho : ops[i]? = some ⟨dst, op, ty, pos, after, g⟩) (h : Spl P N Be ops (effT P N Be ops m Q H1 i r w0) [⟨dst, op, ty, pos, after, g⟩] e w0 H) : wlkT P N Be ops m Q H1 (.ef i r) e w0 H := ⟨_, ho, h⟩
theorem wlt_fork {j : Nat} {r s : Pt} {dst dst' : Option Tmp} {op op' : Op} {g g' : Option (Nat × Bool)} {ty' : TypeId} {pos' : String} {after' : Array Edge} (ho : ops[i]? = some ⟨dst, op, ty, pos, after, g⟩) (ho' : ops[j]? = some ⟨dst', op', ty', pos', after', g'⟩)
    (h : Spl P N Be ops (effT P N Be ops m Q H1 i r w0) [⟨dst, op, ty, pos, after, g⟩] e w0 H) (h' : Spl P N Be ops (effT P N Be ops m Q H1 j s w0) [⟨dst', op', ty', pos', after', g'⟩] e w0 H) : wlkT P N Be ops m Q H1 (.fk i j r s) e w0 H := ⟨⟨_, ho, h⟩, _, ho', h'⟩
theorem efft {r : Pt} (h : i < m → HKeep w0 H1 H) (k : wlkT P N Be ops m Q H1 r e w0 H) : effT P N Be ops m Q H1 i r w0 .normal e w0 H := ⟨rfl, rfl, h, k⟩
theorem effect_sound {a : Act} {w : World} {o : Oper} {j : Nat} {R : Post} {K : Act → World → Prop} (ho : ops[j]? = some o) (hk : Spl P N Be ops R [o] e w0 H) (hR : ∀ x e w H, R x e w H → x = .normal) (hf : Fr N e a) (hh : Hp Be w0 H w) (fin : ∀ a' w', lift N Be R .normal a' w' → K a' w') : opI P ops j K a w := by
  have h1 := hk a w hf hh
  unfold opI
  simp only [ho]
  simp only [wpList] at h1
  split at h1
  · rename_i hw
    simp only [hw, if_true]
    rcases h1 with h1 | ⟨_, h1⟩
    · unfold Oper.wp at *
      generalize (execOp a.eval o).run P w = res at *
      cases res with
      | ok n w' =>
        cases n <;> simp only [Oper.upon] at h1 ⊢
        case enter f args =>
          refine h1.mono fun en w'' he => ?_
          cases en with
          | returned u => exact fin _ _ he
          | panicked c => obtain ⟨_, _, _, _, _, hx⟩ := he; cases hR _ _ _ _ hx
          | outgrown => obtain ⟨_, _, _, _, _, _, _, hx⟩ := he; cases hR _ _ _ _ hx
        case row => exact h1.mono fun _ _ he => fin _ _ he
        all_goals first | exact fin _ _ h1 | exact h1
      | halt x w' =>
        cases x <;> simp only [Oper.upon] at h1
        obtain ⟨_, _, _, _, _, hx⟩ := h1
        cases hR _ _ _ _ hx
    · obtain ⟨_, _, _, _, _, _, _, hx⟩ := h1
      cases hR _ _ _ _ hx
  · rename_i hw
    simp only [hw]
    exact fin _ _ h1
theorem wlkT_sound (hm' : tailB .any ops m = true) (hs : Region.noSelect ops = true) : ∀ (l : Pt) (listed : Array Bool) (bar : Bool) (a : Act) (w : World) (e : Env) (H : Heap), canonT .any ops m listed bar l = true →
    Cl .any ops listed → Fr N e a → Hp Be w0 H w → (bar = false → Hp Be w0 H1 w) → wlkT P N Be ops m Q H1 l e w0 H → wpI P .any ops m (Hp Be w0 H1) (fun a' w' => lift N Be Q .normal a' w') l.len listed a w := by
  intro l
  induction l with
  | nil =>
    intro listed bar a w e H hB _ hf hh _ h
    exact ⟨by simpa [canonT] using hB, e, w0, H, hf, hh, h⟩
  | rd i r ih =>
    intro listed bar a w e H hB hcl hf hh hC h
    obtain ⟨o, d, G, v, ho, hd, hdN, hg, hx, hk⟩ := h
    simp only [canonT, Bool.and_eq_true, Bool.not_eq_true', decide_eq_true_eq, List.contains_eq_mem] at hB
    obtain ⟨⟨⟨⟨hbar, him⟩, hr⟩, hfree⟩, hB'⟩ := hB
    have hgd := hg N a o hf rfl
    refine wpI_first (v := if G then v else undef) ho him hm' (Region.noSelect_spec hs) r.len listed a w (Region.free_spec ho hfree) hcl hr ?_ (hC hbar) (ih _ bar _ w _ H hB' (hcl.set hr) ?_ hh hC hk)
    · cases hG : G with
      | true => exact .inl ⟨by rw [hgd, hG], fun w' hw' => hx N a w' o rfl rfl hf hw' hG⟩
      | false => exact .inr ⟨by rw [hgd, hG], rfl⟩
    · rw [hd]
      cases hG : G with
      | true => exact hf.puttrue hdN
      | false => exact hf.put hdN
  | ef i r ih =>
    intro listed bar a w e H hB hcl hf hh hC h
    obtain ⟨o, ho, hk⟩ := h
    simp only [canonT, Bool.and_eq_true, beq_iff_eq] at hB
    obtain ⟨hr, hB'⟩ := hB
    refine ⟨fun h0 => (by rw [hr] at h0; cases h0), fun j hj => ?_⟩
    rw [hr] at hj
    simp only [List.mem_singleton] at hj
    subst hj
    have hcl' := hcl.set (show j ∈ Region.ready .any ops listed by rw [hr]; exact List.mem_singleton.2 rfl)
    refine effect_sound ho hk (fun x e w H h => h.1) hf hh ?_
    rintro a' w' ⟨e', w0', H', hf', hh', _, rfl, hkeep, hk'⟩
    refine ⟨fun hjm => hh'.sub (hkeep hjm), ih _ _ a' w' e' H' hB' hcl' hf' hh' (fun hb => ?_) hk'⟩
    simp only [Bool.or_eq_false_iff, decide_eq_false_iff_not] at hb
    exact hh'.sub (hkeep (by omega))
  | fk i j r s ih1 ih2 =>
    intro listed bar a w e H hB hcl hf hh hC h
    obtain ⟨⟨o, ho, hk⟩, o2, ho2, hk2⟩ := h
    simp only [canonT, Bool.and_eq_true, beq_iff_eq] at hB
    obtain ⟨hr, hlen, hB1, hB2⟩ := hB
    have hlen' : r.len = s.len := Nat.eq_of_beq_eq_true hlen
    refine ⟨fun h0 => (by rw [hr] at h0; cases h0), fun q hq => ?_⟩
    have hcl' := hcl.set hq
    rw [hr] at hq
    simp only [List.mem_cons, List.not_mem_nil, or_false] at hq
    rcases hq with rfl | rfl
    · refine effect_sound ho hk (fun x e w H h => h.1) hf hh ?_
      rintro a' w' ⟨e', w0', H', hf', hh', _, rfl, hkeep, hk'⟩
      refine ⟨fun hjm => hh'.sub (hkeep hjm), ih1 _ _ a' w' e' H' hB1 hcl' hf' hh' (fun hb => ?_) hk'⟩
      simp only [Bool.or_eq_false_iff, decide_eq_false_iff_not] at hb
      exact hh'.sub (hkeep (by omega))
    · refine effect_sound ho2 hk2 (fun x e w H h => h.1) hf hh ?_
      rintro a' w' ⟨e', w0', H', hf', hh', _, rfl, hkeep, hk'⟩
      refine ⟨fun hjm => hh'.sub (hkeep hjm), ?_⟩
      show wpI P .any ops m _ _ r.len _ _ _
      rw [hlen']
      refine ih2 _ _ a' w' e' H' hB2 hcl' hf' hh' (fun hb => ?_) hk'
      simp only [Bool.or_eq_false_iff, decide_eq_false_iff_not] at hb
      exact hh'.sub (hkeep (by omega))
theorem sp_drawnT {id : Nat} {l : List Oper} (p : Pt) (m : Nat) (H1 : Heap) (hm : P.follows .mixedOrders = true) (hB : drawnT l.toArray m p = true) (hk : HKeep w0 H1 H) (h : wlkT P N Be l.toArray m Q H1 p e w0 H) :
    Spc P N Be (.region id l.toArray true) Q e w0 H := by
  intro a w hf hh
  simp only [drawnT, Bool.and_eq_true, decide_eq_true_eq] at hB
  obtain ⟨⟨⟨h1, h2⟩, h3⟩, h4⟩ := hB
  refine wp_region_any hm ?_
  have := wlkT_sound h2 h1 p _ false a _ e H h4 (Cl.start rfl) hf hh.drew (fun _ => (hh.drew).sub hk) h
  rw [h3] at this
  exact wpAny_of_wpI (fun _ _ hq => hq) _ _ _ _ this
/-- A cut between two statements: what the second one may know. -/
theorem spc_cut {c1 c2 : Code} {X : Type} (E : X → Env) (HH : X → Heap) (I : X → Prop) (h1 : Spc P N Be c1 (thenQ (fun e' w' H' => ∃ x, I x ∧ ESub (E x) e' ∧ w0 = w' ∧ HKeep w' (HH x) H') Q) e w0 H)
    (h2 : ∀ x, I x → Spc P N Be c2 Q (E x) w0 (HH x)) : Spc P N Be (.seq c1 c2) Q e w0 H := by
  refine sp_seq ?_
  intro a w hf hh
  refine wp_mono (h1 a w hf hh) ?_
  rintro x a w ⟨e', w0', H', q1, q2, q3⟩
  cases x with
  | normal =>
    obtain ⟨y, hI, hs, rfl, hk⟩ := q3
    exact ⟨e', _, H', q1, q2, (h2 y hI).weaken hs hk⟩
  | ret => exact ⟨e', w0', H', q1, q2, q3⟩
  | exit _ => exact ⟨e', w0', H', q1, q2, q3⟩
  | goto _ => exact ⟨e', w0', H', q1, q2, q3⟩
  | panic _ => exact ⟨e', w0', H', q1, q2, q3⟩
  | outgrown => exact ⟨e', w0', H', q1, q2, q3⟩
end walk
end Go.Sy
