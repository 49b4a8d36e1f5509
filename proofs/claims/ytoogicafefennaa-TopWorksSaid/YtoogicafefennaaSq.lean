/-
  Regions that draw their order in which three operations that make memory come up together: all orders are walked.
-/
import Derived.Test.YtoogicafefennaaSt
namespace Go.Sy
open Go.RowKit
set_option linter.unusedVariables false
set_option linter.unusedSimpArgs false
inductive Qt where
  | nil
  | rd (i : Nat) (t : Qt)
  | ef (i : Nat) (t : Qt)
  | fk (i j : Nat) (t u : Qt)
  | f3 (i j k : Nat) (t u v : Qt)
def Qt.len : Qt → Nat
  | .nil => 0
  | .rd _ t => t.len + 1
  | .ef _ t => t.len + 1
  | .fk _ _ t _ => t.len + 1
  | .f3 _ _ _ t _ _ => t.len + 1
def canonQ (md : Region.Mode) (ops : Array Oper) (m : Nat) : Array Bool → Bool → Qt → Bool
  | listed, _, .nil => (Region.ready md ops listed).isEmpty
  | listed, bar, .rd i r => (!bar && decide (i < m)) && (Region.ready md ops listed).contains i && Region.free md ops listed i && canonQ md ops m (listed.setIfInBounds i true) bar r
  | listed, bar, .ef i r => (Region.ready md ops listed == [i]) && canonQ md ops m (listed.setIfInBounds i true) (bar || decide (m ≤ i)) r
  | listed, bar, .fk i j r s => (Region.ready md ops listed == [i, j]) && (Nat.beq r.len s.len && (canonQ md ops m (listed.setIfInBounds i true) (bar || decide (m ≤ i)) r && canonQ md ops m (listed.setIfInBounds j true) (bar || decide (m ≤ j)) s))
  | listed, bar, .f3 i j k r s u => (Region.ready md ops listed == [i, j, k]) && (Nat.beq r.len s.len && (Nat.beq r.len u.len && (canonQ md ops m (listed.setIfInBounds i true) (bar || decide (m ≤ i)) r && (canonQ md ops m (listed.setIfInBounds j true) (bar || decide (m ≤ j)) s && canonQ md ops m (listed.setIfInBounds k true) (bar || decide (m ≤ k)) u))))
def drawnQ (ops : Array Oper) (m : Nat) (p : Qt) : Bool :=
  Region.noSelect ops && tailB .any ops m && decide (p.len = ops.size) && canonQ .any ops m (Array.replicate ops.size false) false p
section walk
variable {P : Program} {N Be : Nat} {Q : Post} {e : Env} {w0 : World} {H H1 : Heap} {ops : Array Oper} {ty : TypeId} {pos : String} {after : Array Edge} {d i m : Nat}
def wlkQ (P : Program) (N Be : Nat) (ops : Array Oper) (m : Nat) (Q : Post) (H1 : Heap) : Qt → Env → World → Heap → Prop
  | .nil, e, w0, H => Q .normal e w0 H
  | .rd i r, e, w0, H => ∃ (o : Oper) (d : Nat) (G : Bool) (v : Value), ops[i]? = some o ∧ o.dst = some d ∧ d < N ∧ Gd ops e o.guard G ∧ Ex P Be w0 H1 G e o.op o.type v ∧ wlkQ P N Be ops m Q H1 r ((d, G, v) :: e) w0 H
  | .ef i r, e, w0, H => ∃ o : Oper, ops[i]? = some o ∧ Spl P N Be ops (fun x e' w0' H' => x = .normal ∧ w0' = w0 ∧ (i < m → HKeep w0 H1 H') ∧ wlkQ P N Be ops m Q H1 r e' w0' H') [o] e w0 H
  | .fk i j r s, e, w0, H => (∃ o : Oper, ops[i]? = some o ∧ Spl P N Be ops (fun x e' w0' H' => x = .normal ∧ w0' = w0 ∧ (i < m → HKeep w0 H1 H') ∧ wlkQ P N Be ops m Q H1 r e' w0' H') [o] e w0 H) ∧
      ∃ o : Oper, ops[j]? = some o ∧ Spl P N Be ops (fun x e' w0' H' => x = .normal ∧ w0' = w0 ∧ (j < m → HKeep w0 H1 H') ∧ wlkQ P N Be ops m Q H1 s e' w0' H') [o] e w0 H
  | .f3 i j k r s u, e, w0, H => (∃ o : Oper, ops[i]? = some o ∧ Spl P N Be ops (fun x e' w0' H' => x = .normal ∧ w0' = w0 ∧ (i < m → HKeep w0 H1 H') ∧ wlkQ P N Be ops m Q H1 r e' w0' H') [o] e w0 H) ∧ (∃ o : Oper, ops[j]? = some o ∧ Spl P N Be ops (fun x e' w0' H' => x = .normal ∧ w0' = w0 ∧ (j < m → HKeep w0 H1 H') ∧ wlkQ P N Be ops m Q H1 s e' w0' H') [o] e w0 H) ∧ ∃ o : Oper, ops[k]? = some o ∧ Spl P N Be ops (fun x e' w0' H' => x = .normal ∧ w0' = w0 ∧ (k < m → HKeep w0 H1 H') ∧ wlkQ P N Be ops m Q H1 u e' w0' H') [o] e w0 H
def effQt (P : Program) (N Be : Nat) (ops : Array Oper) (m : Nat) (Q : Post) (H1 : Heap) (i : Nat) (r : Qt) (w0 : World) : Post := fun x e' w0' H' => x = .normal ∧ w0' = w0 ∧ (i < m → HKeep w0 H1 H') ∧ wlkQ P N Be ops m Q H1 r e' w0' H'
theorem wlq_nil (h : Q .normal e w0 H) : wlkQ P N Be ops m Q H1 .nil e w0 H := h
theorem wlq_read {r : Qt} {op : Op} {v : Value} (ho : ops[i]? = some ⟨some d, op, ty, pos, after, none⟩) (hN : Nat.blt d N = true) (hx : Ex P Be w0 H1 true e op ty v) (k : wlkQ P N Be ops m Q H1 r ((d, true, v) :: e) w0 H) :
    wlkQ P N Be ops m Q H1 (.rd i r) e w0 H := ⟨_, d, true, v, ho, rfl, by simpa [Nat.blt_eq] using hN, Gd.none, hx, k⟩
theorem wlq_read_g {r : Qt} {op : Op} {v : Value} {g : Option (Nat × Bool)} {G : Bool} (ho : ops[i]? = some ⟨some d, op, ty, pos, after, g⟩) (hN : Nat.blt d N = true) (hg : Gd ops e g G) (hx : Ex P Be w0 H1 G e op ty v) (k : wlkQ P N Be ops m Q H1 r ((d, G, v) :: e) w0 H) :
    wlkQ P N Be ops m Q H1 (.rd i r) e w0 H := ⟨_, d, G, v, ho, rfl, by simpa [Nat.blt_eq] using hN, hg, hx, k⟩
theorem wlq_eff {r : Qt} {dst : Option Tmp} {op : Op} {g : Option (Nat × Bool)} (ho : ops[i]? = some ⟨dst, op, ty, pos, after, g⟩) (h : Spl P N Be ops (effQt P N Be ops m Q H1 i r w0) [⟨dst, op, ty, pos, after, g⟩] e w0 H) : wlkQ P N Be ops m Q H1 (.ef i r) e w0 H := ⟨_, ho, h⟩
theorem wlq_fork {j : Nat} {r s : Qt} {dst dst' : Option Tmp} {op op' : Op} {g g' : Option (Nat × Bool)} {ty' : TypeId} {pos' : String} {after' : Array Edge} (ho : ops[i]? = some ⟨dst, op, ty, pos, after, g⟩) (ho' : ops[j]? = some ⟨dst', op', ty', pos', after', g'⟩)
    (h : Spl P N Be ops (effQt P N Be ops m Q H1 i r w0) [⟨dst, op, ty, pos, after, g⟩] e w0 H) (h' : Spl P N Be ops (effQt P N Be ops m Q H1 j s w0) [⟨dst', op', ty', pos', after', g'⟩] e w0 H) : wlkQ P N Be ops m Q H1 (.fk i j r s) e w0 H := ⟨⟨_, ho, h⟩, _, ho', h'⟩
theorem wlq_fork3 {j k : Nat} {r s u : Qt} {dst dst' dst2 : Option Tmp} {op op' op2 : Op} {g g' g2 : Option (Nat × Bool)} {ty' ty2 : TypeId} {pos' pos2 : String} {after' after2 : Array Edge} (ho : ops[i]? = some ⟨dst, op, ty, pos, after, g⟩) (ho' : ops[j]? = some ⟨dst', op', ty', pos', after', g'⟩) (ho2 : ops[k]? = some ⟨dst2, op2, ty2, pos2, after2, g2⟩)
    (h : Spl P N Be ops (effQt P N Be ops m Q H1 i r w0) [⟨dst, op, ty, pos, after, g⟩] e w0 H) (h' : Spl P N Be ops (effQt P N Be ops m Q H1 j s w0) [⟨dst', op', ty', pos', after', g'⟩] e w0 H) (h2 : Spl P N Be ops (effQt P N Be ops m Q H1 k u w0) [⟨dst2, op2, ty2, pos2, after2, g2⟩] e w0 H) : wlkQ P N Be ops m Q H1 (.f3 i j k r s u) e w0 H := ⟨⟨_, ho, h⟩, ⟨_, ho', h'⟩, _, ho2, h2⟩
theorem effqt {r : Qt} (h : i < m → HKeep w0 H1 H) (k : wlkQ P N Be ops m Q H1 r e w0 H) : effQt P N Be ops m Q H1 i r w0 .normal e w0 H := ⟨rfl, rfl, h, k⟩
theorem wlkQ_sound (hm' : tailB .any ops m = true) (hs : Region.noSelect ops = true) : ∀ (l : Qt) (listed : Array Bool) (bar : Bool) (a : Act) (w : World) (e : Env) (H : Heap), canonQ .any ops m listed bar l = true →
    Cl .any ops listed → Fr N e a → Hp Be w0 H w → (bar = false → Hp Be w0 H1 w) → wlkQ P N Be ops m Q H1 l e w0 H → wpI P .any ops m (Hp Be w0 H1) (fun a' w' => lift N Be Q .normal a' w') l.len listed a w := by
  intro l
  induction l with
  | nil =>
    intro listed bar a w e H hB _ hf hh _ h
    exact ⟨by simpa [canonQ] using hB, e, w0, H, hf, hh, h⟩
  | rd i r ih =>
    intro listed bar a w e H hB hcl hf hh hC h
    obtain ⟨o, d, G, v, ho, hd, hdN, hg, hx, hk⟩ := h
    simp only [canonQ, Bool.and_eq_true, Bool.not_eq_true', decide_eq_true_eq, List.contains_eq_mem] at hB
    obtain ⟨⟨⟨⟨hbar, him⟩, hr⟩, hfree⟩, hB'⟩ := hB
    have hgd := hg N a o hf rfl
    refine wpI_first (v := if G then v else undef) ho him hm' (Region.noSelect_spec hs) r.len listed a w (Region.free_spec ho hfree) hcl hr ?_ (hC hbar) (ih _ bar _ w _ H hB' (hcl.set hr) ?_ hh hC hk)
    · cases hG : G with
      | true => exact .inl ⟨by rw [hgd, hG], fun w' hw' => hx N a w' o rfl rfl hf hw' hG⟩
      | false => exact .inr ⟨by rw [hgd, hG], rfl⟩
    · rw [hd]
      cases hG : G with
      | true => exact hf.puttrue hdN
      | false => exact hf.put hdN
  | ef i r ih =>
    intro listed bar a w e H hB hcl hf hh hC h
    obtain ⟨o, ho, hk⟩ := h
    simp only [canonQ, Bool.and_eq_true, beq_iff_eq] at hB
    obtain ⟨hr, hB'⟩ := hB
    refine ⟨fun h0 => (by rw [hr] at h0; cases h0), fun j hj => ?_⟩
    rw [hr] at hj
    simp only [List.mem_singleton] at hj
    subst hj
    have hcl' := hcl.set (show j ∈ Region.ready .any ops listed by rw [hr]; exact List.mem_singleton.2 rfl)
    refine effect_sound ho hk (fun x e w H h => h.1) hf hh ?_
    rintro a' w' ⟨e', w0', H', hf', hh', _, rfl, hkeep, hk'⟩
    refine ⟨fun hjm => hh'.sub (hkeep hjm), ih _ _ a' w' e' H' hB' hcl' hf' hh' (fun hb => ?_) hk'⟩
    simp only [Bool.or_eq_false_iff, decide_eq_false_iff_not] at hb
    exact hh'.sub (hkeep (by omega))
  | fk i j r s ih1 ih2 =>
    intro listed bar a w e H hB hcl hf hh hC h
    obtain ⟨⟨o, ho, hk⟩, o2, ho2, hk2⟩ := h
    simp only [canonQ, Bool.and_eq_true, beq_iff_eq] at hB
    obtain ⟨hr, hlen, hB1, hB2⟩ := hB
    have hlen' : r.len = s.len := Nat.eq_of_beq_eq_true hlen
    refine ⟨fun h0 => (by rw [hr] at h0; cases h0), fun q hq => ?_⟩
    have hcl' := hcl.set hq
    rw [hr] at hq
    simp only [List.mem_cons, List.not_mem_nil, or_false] at hq
    rcases hq with rfl | rfl
    · refine effect_sound ho hk (fun x e w H h => h.1) hf hh ?_
      rintro a' w' ⟨e', w0', H', hf', hh', _, rfl, hkeep, hk'⟩
      refine ⟨fun hjm => hh'.sub (hkeep hjm), ih1 _ _ a' w' e' H' hB1 hcl' hf' hh' (fun hb => ?_) hk'⟩
      simp only [Bool.or_eq_false_iff, decide_eq_false_iff_not] at hb
      exact hh'.sub (hkeep (by omega))
    · refine effect_sound ho2 hk2 (fun x e w H h => h.1) hf hh ?_
      rintro a' w' ⟨e', w0', H', hf', hh', _, rfl, hkeep, hk'⟩
      refine ⟨fun hjm => hh'.sub (hkeep hjm), ?_⟩
      show wpI P .any ops m _ _ r.len _ _ _
      rw [hlen']
      refine ih2 _ _ a' w' e' H' hB2 hcl' hf' hh' (fun hb => ?_) hk'
      simp only [Bool.or_eq_false_iff, decide_eq_false_iff_not] at hb
      exact hh'.sub (hkeep (by omega))
  | f3 i j k r s u ih1 ih2 ih3 =>
    intro listed bar a w e H hB hcl hf hh hC h
    obtain ⟨⟨o, ho, hk⟩, ⟨o2, ho2, hk2⟩, o3, ho3, hk3⟩ := h
    simp only [canonQ, Bool.and_eq_true, beq_iff_eq] at hB
    obtain ⟨hr, hlen, hlen3, hB1, hB2, hB3⟩ := hB
    have hlen' : r.len = s.len := Nat.eq_of_beq_eq_true hlen
    have hlen3' : r.len = u.len := Nat.eq_of_beq_eq_true hlen3
    refine ⟨fun h0 => (by rw [hr] at h0; cases h0), fun q hq => ?_⟩
    have hcl' := hcl.set hq
    rw [hr] at hq
    simp only [List.mem_cons, List.not_mem_nil, or_false] at hq
    rcases hq with rfl | rfl | rfl
    · refine effect_sound ho hk (fun x e w H h => h.1) hf hh ?_
      rintro a' w' ⟨e', w0', H', hf', hh', _, rfl, hkeep, hk'⟩
      refine ⟨fun hjm => hh'.sub (hkeep hjm), ih1 _ _ a' w' e' H' hB1 hcl' hf' hh' (fun hb => ?_) hk'⟩
      simp only [Bool.or_eq_false_iff, decide_eq_false_iff_not] at hb
      exact hh'.sub (hkeep (by omega))
    · refine effect_sound ho2 hk2 (fun x e w H h => h.1) hf hh ?_
      rintro a' w' ⟨e', w0', H', hf', hh', _, rfl, hkeep, hk'⟩
      refine ⟨fun hjm => hh'.sub (hkeep hjm), ?_⟩
      show wpI P .any ops m _ _ r.len _ _ _
      rw [hlen']
      refine ih2 _ _ a' w' e' H' hB2 hcl' hf' hh' (fun hb => ?_) hk'
      simp only [Bool.or_eq_false_iff, decide_eq_false_iff_not] at hb
      exact hh'.sub (hkeep (by omega))
    · refine effect_sound ho3 hk3 (fun x e w H h => h.1) hf hh ?_
      rintro a' w' ⟨e', w0', H', hf', hh', _, rfl, hkeep, hk'⟩
      refine ⟨fun hjm => hh'.sub (hkeep hjm), ?_⟩
      show wpI P .any ops m _ _ r.len _ _ _
      rw [hlen3']
      refine ih3 _ _ a' w' e' H' hB3 hcl' hf' hh' (fun hb => ?_) hk'
      simp only [Bool.or_eq_false_iff, decide_eq_false_iff_not] at hb
      exact hh'.sub (hkeep (by omega))
theorem sp_drawnQ {id : Nat} {l : List Oper} (p : Qt) (m : Nat) (H1 : Heap) (hm : P.follows .mixedOrders = true) (hB : drawnQ l.toArray m p = true) (hk : HKeep w0 H1 H) (h : wlkQ P N Be l.toArray m Q H1 p e w0 H) :
    Spc P N Be (.region id l.toArray true) Q e w0 H := by
  intro a w hf hh
  simp only [drawnQ, Bool.and_eq_true, decide_eq_true_eq] at hB
  obtain ⟨⟨⟨h1, h2⟩, h3⟩, h4⟩ := hB
  refine wp_region_any hm ?_
  have := wlkQ_sound h2 h1 p _ false a _ e H h4 (Cl.start rfl) hf hh.drew (fun _ => (hh.drew).sub hk) h
  rw [h3] at this
  exact wpAny_of_wpI (fun _ _ hq => hq) _ _ _ _ this
end walk
end Go.Sy
