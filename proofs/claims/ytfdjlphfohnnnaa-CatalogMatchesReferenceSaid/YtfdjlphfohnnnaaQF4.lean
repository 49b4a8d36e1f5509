/-
  What slots take, in plain terms; the orders and beginnings of valid catalogs.
-/
import Derived.Test.YtfdjlphfohnnnaaQF3
import Derived.Test.YtfdjlphfohnnnaaQF1
import Derived.Test.YtfdjlphfohnnnaaQF2
import Derived.Lib.MakeNoZero
import Derived.WideLaws
namespace Go.Proofs.Ytfdjlphfohnnnaa
open Go.RowKit Go.Sy
set_option linter.unusedVariables false
set_option linter.unusedSimpArgs false
def findN (ps : List PKind) (s : ByteArray) : Option PKind := ps.find? fun k => decide (k.name = s)
def findSN (ss : List PSlot) (s : ByteArray) : Option PSlot := ss.find? fun k => decide (k.name = s)
def slotN (ps : List PKind) (kind name : ByteArray) : Option PSlot := (findN ps kind).bind fun k => findSN k.slots name
def takesP (ps : List PKind) (kind name other : ByteArray) : Bool := (slotN ps kind name).any fun s => inL s.kinds other
def normalP (ps : List PKind) (kind name other : ByteArray) : Bool := (slotN ps kind name).any fun s => inL (s.kinds.take s.normal) other
theorem findS_pure (ss : List SlotR) (s : ByteArray) : findSN (ss.map SlotR.pure) s = (findS ss s).map SlotR.pure := by
  unfold findSN findS
  induction ss with
  | nil => rfl
  | cons k ks ih =>
    rw [List.map_cons, List.find?_cons, List.find?_cons, ih]
    show (match decide (k.name = s) with | true => some k.pure | false => _) = Option.map SlotR.pure (match decide (k.name = s) with | true => some k | false => _)
    cases decide (k.name = s) <;> rfl
theorem slot_pure (ks : List KindR) (kind name : ByteArray) : slotN (ks.map KindR.pure) kind name = (findS ((findK ks kind).getD KindR.zero).slots name).map SlotR.pure := by
  unfold slotN findN
  rw [find_pure]
  cases findK ks kind with
  | none => rfl
  | some k => exact findS_pure k.slots name
theorem takes_pure (ks : List KindR) (kind name other : ByteArray) : takesB ks kind name other = takesP (ks.map KindR.pure) kind name other := by
  unfold takesB takesP
  rw [slot_pure, contains_in]
  cases findS ((findK ks kind).getD KindR.zero).slots name with
  | none => rfl
  | some s => simp [SlotR.pure]
theorem idx_take (xs : List ByteArray) (s : ByteArray) (m : Int) : (decide (0 ≤ idx xs (fun x => decide (s = x))) && decide (idx xs (fun x => decide (s = x)) < m)) = inL (xs.take m.toNat) s := by
  rw [← contains_in]
  rcases idx_cases xs (fun x => decide (s = x)) with ⟨hf, hi⟩ | ⟨k, x, hf, hi, hx, hk⟩
  · rw [hi]
    rcases idx_cases (xs.take m.toNat) (fun x => decide (s = x)) with ⟨hf2, hi2⟩ | ⟨k, x, hf2, hi2, hx2, hk2⟩
    · rw [hi2]; rfl
    · rw [List.find?_eq_none] at hf
      have := hf x (List.mem_of_mem_take (List.mem_of_getElem? hx2))
      exact absurd (List.find?_some hf2) this
  · have hall : (xs.take k).any (fun x => decide (s = x)) = false := by
      rw [List.any_eq_false]
      intro y hy
      unfold idx at hi
      cases hq : xs.findIdx? (fun x => decide (s = x)) with
      | none => rw [hq] at hi; simp at hi
      | some j =>
        rw [hq] at hi
        obtain rfl : j = k := by have hi' : (j : Int) = (k : Int) := hi; omega
        obtain ⟨hk', hp, hno⟩ := List.findIdx?_eq_some_iff_getElem.1 hq
        obtain ⟨i, hi', rfl⟩ := List.mem_take_iff_getElem.1 hy
        simpa using hno i (by omega)
    rw [hi]
    by_cases hm : (k : Int) < m
    · have hx2 : (xs.take m.toNat)[k]? = some x := by rw [List.getElem?_take, if_pos (by omega)]; exact hx
      have hall2 : ((xs.take m.toNat).take k).any (fun x => decide (s = x)) = false := by rw [List.take_take, Nat.min_eq_left (by omega)]; exact hall
      have hp : decide (s = x) = true := by have := List.find?_some (p := fun x => decide (s = x)) hf; exact this
      rw [idx_hit hall2 hx2 hp]
      simp [hm]
    · have hall2 : (xs.take m.toNat).any (fun x => decide (s = x)) = false := by
        rw [List.any_eq_false] at hall ⊢
        intro y hy
        obtain ⟨i, hi', rfl⟩ := List.mem_take_iff_getElem.1 hy
        exact hall _ (List.mem_take_iff_getElem.2 ⟨i, by omega, rfl⟩)
      have : idx (xs.take m.toNat) (fun x => decide (s = x)) = -1 := idx_none (k := (xs.take m.toNat).length) (by rw [List.take_length]; exact hall2) (Nat.le_refl _)
      rw [this]
      simp [hm]
theorem normal_pure (ks : List KindR) (kind name other : ByteArray) : normalB ks kind name other = normalP (ks.map KindR.pure) kind name other := by
  unfold normalB normalP
  rw [slot_pure, Bool.and_assoc, idx_take]
  cases findS ((findK ks kind).getD KindR.zero).slots name with
  | none => rfl
  | some s => simp [SlotR.pure]
/-! Valid catalogs. -/
theorem catV_at {ps : List PKind} {i : Nat} {k : PKind} (h : catV [] ps) (hk : ps[i]? = some k) : kindV (ps.take i) k := by
  rw [take_split hk] at h
  have := (catV_app.1 h).2
  rw [List.nil_append] at this
  exact this.1
theorem slotsV_at {read : List PKind} {ss : List PSlot} {i : Nat} {s : PSlot} (h : slotsV read [] ss) (hk : ss[i]? = some s) : slotV read ((ss.take i).map (·.name)) s := by
  rw [take_split hk] at h
  have := (slotsV_app.1 h).2
  rw [List.nil_append] at this
  exact this.1
theorem kindsV_at {read : List PKind} {xs : List ByteArray} {i : Nat} {x : ByteArray} (h : kindsV read [] xs) (hk : xs[i]? = some x) : kindC read (xs.take i) x = 0 := by
  rw [take_split hk] at h
  have := (kindsV_app.1 h).2
  rw [List.nil_append] at this
  exact this.1
theorem find_at {α : Type} {ps : List α} {nm : α → ByteArray} {i : Nat} {k : α} (hk : ps[i]? = some k) (hn : nm k ∉ (ps.take i).map nm) : ps.find? (fun x => decide (nm x = nm k)) = some k := by
  obtain ⟨hi, hk'⟩ := List.getElem?_eq_some_iff.1 hk
  rw [List.find?_eq_some_iff_getElem]
  refine ⟨by simp, i, hi, hk', fun j hj => ?_⟩
  simp only [Bool.not_eq_true', decide_eq_false_iff_not]
  intro he
  exact hn (List.mem_map.2 ⟨ps[j], List.mem_take_iff_getElem.2 ⟨j, by omega, rfl⟩, he⟩)
theorem findN_at {ps : List PKind} {i : Nat} {k : PKind} (h : catV [] ps) (hk : ps[i]? = some k) : findN ps k.name = some k :=
  find_at (nm := PKind.name) hk (inL_not.1 (catV_at h hk).new)
theorem findSN_at {read : List PKind} {ss : List PSlot} {i : Nat} {s : PSlot} (h : slotsV read [] ss) (hk : ss[i]? = some s) : findSN ss s.name = some s :=
  find_at (nm := PSlot.name) hk (inL_not.1 (slotsV_at h hk).new)
theorem find_idx {ps : List PKind} {s : ByteArray} {k : PKind} (h : findN ps s = some k) : ∃ i : Nat, ps[i]? = some k ∧ k.name = s ∧ idx ps (fun x => decide (x.name = s)) = i := by
  rcases idx_cases ps (fun x => decide (x.name = s)) with ⟨hf, hi⟩ | ⟨i, x, hf, hi, hx, hk⟩
  · unfold findN at h; rw [hf] at h; cases h
  · unfold findN at h
    rw [hf] at h
    cases h
    exact ⟨i, hx, by simpa using List.find?_some hf, hi⟩
/-- What a slot takes stands before, and is no vehicle. -/
theorem takes_before {ps : List PKind} {kind name other : ByteArray} (h : catV [] ps) (ht : takesP ps kind name other = true) : ∃ (i j : Nat) (o : PKind), idx ps (fun x => decide (x.name = kind)) = i ∧ idx ps (fun x => decide (x.name = other)) = j ∧ j < i ∧ ps[j]? = some o ∧ o.vehicle = false := by
  unfold takesP slotN at ht
  cases hk : findN ps kind with
  | none => rw [hk] at ht; cases ht
  | some k =>
    rw [hk] at ht
    simp only [Option.bind_some] at ht
    cases hs : findSN k.slots name with
    | none => rw [hs] at ht; cases ht
    | some s =>
      rw [hs] at ht
      simp only [Option.any_some] at ht
      obtain ⟨i, hi, hkn, hidx⟩ := find_idx hk
      have hkv := catV_at h hi
      obtain ⟨m, hm⟩ := List.getElem?_of_mem (List.mem_of_find?_eq_some hs)
      have hsv := slotsV_at hkv.slots hm
      obtain ⟨q, hq⟩ := List.getElem?_of_mem (inL_mem.1 ht)
      obtain ⟨-, o, hf, hv⟩ := kindC_zero.1 (kindsV_at hsv.kinds hq)
      obtain ⟨j, hj, hon, hidx2⟩ := find_idx (ps := ps.take i) hf
      have hji : j < i := by
        have := (List.getElem?_eq_some_iff.1 hj).1
        rw [List.length_take] at this; omega
      have hj' : ps[j]? = some o := by rw [List.getElem?_take, if_pos hji] at hj; exact hj
      refine ⟨i, j, o, hidx, ?_, hji, hj', hv⟩
      obtain ⟨j2, hj2, -, hidx3⟩ := find_idx (s := other) (ps := ps) (k := o) (by have := findN_at h hj'; rw [hon] at this; exact this)
      -- the first place with this name
      rw [hidx3]
      have hjl := (List.getElem?_eq_some_iff.1 hj').1
      have hj2l := (List.getElem?_eq_some_iff.1 hj2).1
      congr 1
      rcases Nat.lt_trichotomy j2 j with hlt | rfl | hgt
      · exact absurd (List.mem_map.2 ⟨o, List.mem_of_getElem? (show (ps.take j)[j2]? = some o by rw [List.getElem?_take, if_pos hlt]; exact hj2), rfl⟩) (inL_not.1 (catV_at h hj').new)
      · rfl
      · exact absurd (List.mem_map.2 ⟨o, List.mem_of_getElem? (show (ps.take j2)[j]? = some o by rw [List.getElem?_take, if_pos hgt]; exact hj'), rfl⟩) (inL_not.1 (catV_at h hj2).new)
theorem normal_takes {ps : List PKind} {kind name other : ByteArray} (h : normalP ps kind name other = true) : takesP ps kind name other = true := by
  unfold normalP at h
  unfold takesP
  cases hs : slotN ps kind name with
  | none => rw [hs] at h; cases h
  | some s =>
    rw [hs] at h
    simp only [Option.any_some] at *
    exact inL_mem.2 (List.mem_of_mem_take (inL_mem.1 h))
/-- The slots of a kind that is found. -/
theorem slot_own {ps : List PKind} {kind : ByteArray} {k : PKind} {s : PSlot} {m : Nat} (h : catV [] ps) (hk : findN ps kind = some k) (hs : k.slots[m]? = some s) : slotN ps kind s.name = some s := by
  obtain ⟨i, hi, -, -⟩ := find_idx hk
  unfold slotN
  rw [hk]
  exact findSN_at (catV_at h hi).slots hs
theorem slot_valid {ps : List PKind} {kind : ByteArray} {k : PKind} {s : PSlot} {m : Nat} (h : catV [] ps) (hk : findN ps kind = some k) (hs : k.slots[m]? = some s) : s.kinds.Nodup ∧ 1 ≤ s.normal ∧ s.normal ≤ s.kinds.length := by
  obtain ⟨i, hi, -, -⟩ := find_idx hk
  have hv := slotsV_at (catV_at h hi).slots hs
  have := (kindsV_spec s.kinds [] hv.kinds List.nodup_nil (fun x hx => by cases hx)).1
  rw [List.nil_append] at this
  exact ⟨this, hv.one, hv.le⟩
theorem nodup_getElem {α : Type} {l : List α} (hn : l.Nodup) {i j : Nat} {hi : i < l.length} {hj : j < l.length} (h : l[i] = l[j]) : i = j := by
  have hp := List.pairwise_iff_getElem.1 hn
  rcases Nat.lt_trichotomy i j with hlt | rfl | hgt
  · exact absurd h (hp i j hi hj hlt)
  · rfl
  · exact absurd h.symm (hp j i hj hi hgt)
theorem takes_own {ps : List PKind} {kind : ByteArray} {k : PKind} {s : PSlot} {m q : Nat} {x : ByteArray} (h : catV [] ps) (hk : findN ps kind = some k) (hs : k.slots[m]? = some s) (hx : s.kinds[q]? = some x) : takesP ps kind s.name x = true ∧ normalP ps kind s.name x = decide (q < s.normal) := by
  have hso := slot_own h hk hs
  obtain ⟨hn, -, -⟩ := slot_valid h hk hs
  unfold takesP normalP
  rw [hso]
  refine ⟨inL_mem.2 (List.mem_of_getElem? hx), ?_⟩
  simp only [Option.any_some]
  by_cases hq : q < s.normal
  · rw [decide_eq_true hq]
    exact inL_mem.2 (List.mem_of_getElem? (show (s.kinds.take s.normal)[q]? = some x by rw [List.getElem?_take, if_pos hq]; exact hx))
  · rw [decide_eq_false hq]
    refine inL_not.2 fun hm => ?_
    obtain ⟨j, hj, he⟩ := List.mem_take_iff_getElem.1 hm
    obtain ⟨hql, hqe⟩ := List.getElem?_eq_some_iff.1 hx
    have := (nodup_getElem hn) (he.trans hqe.symm)
    omega
/-! The first kinds. -/
theorem catV_take {ps : List PKind} (h : catV [] ps) (n : Nat) : catV [] (ps.take n) := by
  have := h
  rw [← List.take_append_drop n ps] at this
  exact (catV_app.1 this).1
theorem find_take {ps : List PKind} {n : Nat} {kind : ByteArray} (h : (findN (ps.take n) kind).isSome = true) : findN ps kind = findN (ps.take n) kind := by
  unfold findN at *
  cases hf : (ps.take n).find? _ with
  | none => rw [hf] at h; cases h
  | some k =>
    conv => lhs; rw [← List.take_append_drop n ps]
    rw [List.find?_append, hf]
    all_goals rfl
theorem takes_take {ps : List PKind} {n : Nat} {kind name other : ByteArray} (h : (findN (ps.take n) kind).isSome = true) : takesP (ps.take n) kind name other = takesP ps kind name other ∧ normalP (ps.take n) kind name other = normalP ps kind name other := by
  unfold takesP normalP slotN
  rw [find_take h]
  exact ⟨rfl, rfl⟩
end Go.Proofs.Ytfdjlphfohnnnaa
/-
  Contracts: strings.Builder.Grow, strings.Join.
-/
namespace Go.Proofs.Ytfdjlphfohnnnaa
open Go.RowKit Go.Sy
set_option linter.unusedVariables false
set_option linter.unusedSimpArgs false
section
variable {P : Program} {N Be : Nat} {Q : Post} {e : Env} {w0 : World} {H : Heap} {ops : Array Oper} {rest : List Oper} {ty : TypeId} {pos : String} {after : Array Edge} {d : Nat} {G : Bool}
/-- A function without a Go body that makes a row. -/
theorem spl_makeNoZero {f : FuncId} {xs : List Operand} {ts : Array TypeId} {m : Int} {n : Nat} {T : TypeId} (hN : Nat.blt d N = true) (h : Evs true e xs [.int .i64 m]) (hm : m = (n : Int))
    (hr : ∀ w, ∃ cs : Array Value, (callFunc f #[.int .i64 (n : Int)]).run P w = .ok (.value (.slice (some ⟨w.heap.size, 0, none⟩) n cs.size)) (w.drew.drew.alloc (.cells cs T (0, 0))) ∧ n ≤ cs.size)
    (k : ∀ g cs, w0.heap.size ≤ g → n ≤ cs.size → Spl P N Be ops Q rest ((d, true, .slice (some ⟨g, 0, none⟩) n cs.size) :: e) w0 ((g, .cells cs T (0, 0)) :: H)) :
    Spl P N Be ops Q (⟨some d, .call ⟨.value (.func f), xs.toArray, ts⟩, ty, pos, after, none⟩ :: rest) e w0 H := by
  subst hm
  intro a w hf hh
  have hd : d < N := by simpa [Nat.blt_eq] using hN
  refine wpList_plain rfl fun K hK => ?_
  obtain ⟨cs, hrun, hcs⟩ := hr w
  have h1 := h N a hf rfl
  have hc : a.eval (.func f) = .func (.func f) #[] #[] := rfl
  have hx : (execOp a.eval ⟨some d, .call ⟨.value (.func f), xs.toArray, ts⟩, ty, pos, after, none⟩).run P w = .ok (.value (.slice (some ⟨w.heap.size, 0, none⟩) n cs.size)) (w.drew.drew.alloc (.cells cs T (0, 0))) := by
    simp only [execOp, resolve, Deferred.ofValue, hc, Sem.run_bind, Sem.run_pure, Result.andThen_ok, invoke]
    have h2 : Array.map a.eval xs.toArray = #[.int .i64 (n : Int)] := by simp [h1]
    rw [h2]
    simpa using hrun
  unfold Oper.wp
  rw [hx, Oper.upon_value]
  refine hK _ _ (k _ _ hh.size hcs _ _ (hf.puttrue hd) ?_)
  exact (hh.drew.drew).alloc (.cells cs T (0, 0))
theorem ex_copyN {x y : Operand} {dT sT el : TypeId} {A : Option Addr} {n c c2 : Nat} [ht : TSlice P dT el] [hs : TSize P el 1] (h : Ev G e x (.slice A n c)) (h2 : Ev G e y (.slice none 0 c2)) : Ex P Be w0 H G e (.call ⟨.builtin .copy, #[x, y], #[dT, sT]⟩) ty (.int .i64 0) := by
  intro N a w o ho _ hf hh hG
  obtain ⟨i, hi⟩ : ∃ i, P.info? el = some i := by
    have := hs.size
    cases h : P.info? el with
    | none => rw [h] at this; cases this
    | some i => exact ⟨i, rfl⟩
  cases A <;> simp [execOp, ho, resolve, invoke, builtin, h N a hf hG, h2 N a hf hG, Builtin.copy_, run_underlying ht.slice, Builtin.lenOf, sizeOf, typeInfo, hi, goInt, Builtin.firstCells, storeCells]
theorem ex_quoE {t t' : TypeId} {x y : Operand} {m n q : Nat} (hq : m / n = q) (hn : 0 < n) (hm : m < 9223372036854775808) (h1 : Ev G e x (.int .i64 (m : Int))) (h2 : Ev G e y (.int .i64 (n : Int))) : Ex P Be w0 H G e (.binOp .quo t x y t') ty (.int .i64 (q : Int)) := by
  have := ex_quo (P := P) (Be := Be) (w0 := w0) (H := H) (t := t) (t' := t') (ty := ty) h1 h2 (by omega)
  have hle : m / n ≤ m := Nat.div_le_self _ _
  rw [show (m : Int).tdiv (n : Int) = ((m / n : Nat) : Int) from rfl, wrap64_in (by constructor <;> omega), hq] at this
  exact this
theorem ex_subL {t t' : TypeId} {x y : Operand} {m n r : Int} (h1 : Ev G e x (.int .i64 m)) (h2 : Ev G e y (.int .i64 n)) (hr : m - n = r) (hb : -9223372036854775808 ≤ r ∧ r < 9223372036854775808) : Ex P Be w0 H G e (.binOp .sub t x y t') ty (.int .i64 r) := by
  subst hr; exact ex_subn h1 h2 hb
theorem ex_addE2 {t t' : TypeId} {x y : Operand} {m n r : Int} (h1 : Ev G e x (.int .i64 m)) (h2 : Ev G e y (.int .i64 n)) (hr : m + n = r) (hb : -9223372036854775808 ≤ r ∧ r < 9223372036854775808) : Ex P Be w0 H G e (.binOp .add t x y t') ty (.int .i64 r) := by
  subst hr; exact ex_addn h1 h2 hb
theorem ex_mulE2 {t t' : TypeId} {x y : Operand} {m n r : Int} (hr : m * n = r) (h1 : Ev G e x (.int .i64 m)) (h2 : Ev G e y (.int .i64 n)) (hb : -9223372036854775808 ≤ r ∧ r < 9223372036854775808) : Ex P Be w0 H G e (.binOp .mul t x y t') ty (.int .i64 r) := by
  subst hr; exact ex_muln h1 h2 hb
theorem ex_cap {x : Operand} {t el : TypeId} {A : Option Addr} {n c : Nat} (h : Ev G e x (.slice A n c)) [ht : TSlice P t el] : Ex P Be w0 H G e (.call ⟨.builtin .cap, #[x], #[t]⟩) ty (.int .i64 c) := by
  intro N a w o ho _ hf hh hG
  simp [execOp, ho, h N a hf hG, resolve, invoke, builtin, Builtin.cap_, run_underlying ht.slice, goInt]
end
theorem makeNoZero_run {n : Nat} (hn : n ≤ 281474976710656) (w : World) : ∃ cs : Array Value, (callFunc 92 #[.int .i64 (n : Int)]).run Try.prog w = .ok (.value (.slice (some ⟨w.heap.size, 0, none⟩) n cs.size)) (w.drew.drew.alloc (.cells cs 5 (0, 0))) ∧ n ≤ cs.size := by
  obtain ⟨cs, hrun, hle, -⟩ := Lib.run_makeNoZero (P := Try.prog) w #[3] 58 5 (by kernel_rfl) n hn
  refine ⟨cs, ?_, hle⟩
  rw [run_callFunc_extern Try.func92 (by kernel_rfl) (by kernel_rfl) (by kernel_rfl) (e := Extern.BytealgMakeNoZero.makeNoZero #[3] #[58]) (by kernel_rfl), hrun]
  all_goals rfl
/-- The elements from a place on. -/
def cutA (A : Option Addr) (m c sz : Nat) : Option Addr := if c = m then A else A.map (·.add (m * sz))
theorem ex_slice_lE {P : Program} {Be : Nat} {w0 : World} {H : Heap} {G : Bool} {e : Env} {ty : TypeId} {t el : TypeId} {x y : Operand} {A : Option Addr} {n c sz m : Nat} {k : IntKind} (h1 : Ev G e x (.slice A n c)) (h2 : Ev G e y (.int k (m : Int))) (hb : m ≤ n ∧ n ≤ c) [ht : TSlice P t el] [hs : TSize P el sz] :
    Ex P Be w0 H G e (.slice t x (some y) none none) ty (.slice (cutA A m c sz) (n - m) (c - m)) := by
  intro N a w o ho _ hf hh hG
  have he : P.elem t = el := by simp [Program.elem, ht.slice]
  simp only [execOp, ho, h1 N a hf hG, Option.map_none, Option.map_some, h2 N a hf hG, Instr.sliceAt, Sem.run_bind, run_underlying ht.slice, Result.andThen_ok]
  rw [run_slice_l w t A n c (by rw [he]; exact ht.slice) k m (by omega) (by omega), he, hs.run w]
  simp [sliced, cutA]
theorem ex_loadfieldP {α : Type} {P : Program} {Be : Nat} {w0 : World} {H : Heap} {G : Bool} {e : Env} {ty : TypeId} {sz : Nat} {C : α → Array Value} {t : TypeId} {x : Operand} {ad p : Addr} {i k n : Nat} {xs : List α} {y : α} {v : Value} (h : Ev G e x (.pointer (some p))) (hp : p = (ad.add (i * sz)).add k) {A : Option Addr} (hr : RdS w0 Be sz C A n xs) (hA : A = some ad) (hy : xs[i]? = some y) (hv : (C y)[k]? = some v) [TCell P t] : Ex P Be w0 H G e (.load t x) ty v := by
  subst hp
  exact ex_loadfield h hr hA hy hv
theorem RdS.cut {α : Type} {w : World} {Be sz : Nat} {C : α → Array Value} {A : Option Addr} {n c m : Nat} {xs : List α} (h : RdS w Be sz C A n xs) (hm : m ≤ n) (hc : n ≤ c) : RdS w Be sz C (cutA A m c sz) (n - m) (xs.drop m) := by
  have hl := h.len
  by_cases h1 : c = m
  · have : xs.drop m = [] := List.drop_eq_nil_of_le (by omega)
    rw [this, show n - m = 0 by omega]
    exact RdS.none_
  · refine ⟨by rw [List.length_drop]; omega, by have := h.bound; omega, fun i x hx => ?_⟩
    rw [List.getElem?_drop] at hx
    obtain ⟨ad, ha, hb, hsz, hcell⟩ := h.elems (m + i) x hx
    refine ⟨ad.add (m * sz), ?_, by rw [block_add]; exact hb, hsz, fun j v hj => ?_⟩
    · unfold cutA; rw [if_neg h1, ha]; rfl
    · rw [show (ad.add (m * sz)).add (i * sz) = ad.add ((m + i) * sz) by rw [add_add', Nat.add_mul]]
      exact hcell j v hj
attribute [local irreducible] Calls thenQ blockQ retQ Spc Spl Spq Ex Ev Evs Gd Upd ESub HKeep Res Res1 wlk effQ Rem SrcAt Split
set_option maxRecDepth 100000 in
set_option maxHeartbeats 1000000 in
theorem grow_c {Be : Nat} {w0 w : World} {b n : Nat} {R : Heap} (hn : n ≤ 1000000000) (hh : Hp Be w0 ((b, .cells #[.pointer (some ⟨b, 0, none⟩), .slice none 0 0] 60 (0, 0)) :: R) w) :
    Calls Try.prog 88 #[.pointer (some ⟨b, 0, none⟩), .int .i64 (n : Int)] w (RetX Be w0 (fun _ : Nat × Array Value => .tuple #[]) (fun y => (b, .cells #[.pointer (some ⟨b, 0, none⟩), .slice (some ⟨y.1, 0, none⟩) 0 y.2.size] 60 (0, 0)) :: (y.1, .cells y.2 5 (0, 0)) :: R) (fun y => w0.heap.size ≤ y.1 ∧ n ≤ y.2.size)) := by
  refine sp_enterM (vs := [_, _]) Try.func88 rfl Try.ntmps88 rfl hh ?_
  repeat (apply sp_seq)
  refine sp_drawn [(0, true), (1, true), (2, true), (3, true), (4, true), (5, true), (6, true), (7, true), (9, true), (10, true), (11, true), (12, true), (13, true), (8, false), (14, true), (15, true)] 16 ((b, .cells #[.pointer (some ⟨b, 0, none⟩), .slice none 0 0] 60 (0, 0)) :: R) mixed (by kernel_rfl) HKeep.refl ?_
  repeat (first|(apply spl_makeNoZero (n:=n) (T:=5) rfl;(·(repeat (first|exact eN|(apply eS;(·exact eT rfl)))));(·(omega));(·exact fun w => makeNoZero_run (by omega) w);(intro g1 cs1 hg1 hcs1))|apply then_n|apply sp_seq|apply sp_region|apply spl_nil|((first|apply spl_pure rfl|apply wlk_read rfl rfl);(·(first|(apply ex_copyN;(·exact eT rfl);(·exact eT rfl))|(apply ex_cap;(·exact eT rfl))|((first|apply ex_move|apply ex_assign|apply ex_fieldAddr'|apply ex_len|apply ex_nilCheck)<;>(exact eT rfl))|((first|apply ex_addn|apply ex_slice_h|apply ex_muln)<;>(first|exact eT rfl|exact eC|(constructor<;>omega)))|(apply ex_loadown<;>(first|exact eT rfl|exact Bk.own InH.mem|rfl)))))|(apply spl_store1;(·exact eT rfl);(·exact eT rfl);(·rfl);(·(repeat (first|exact Upd.here|apply Upd.there)));(·rfl))|(apply effq;(·(intro h_;((repeat (first|exact HKeep.refl|(apply HKeep.pick;(·(repeat (first|exact Rem.here|apply Rem.there))))|apply HKeep.drop (by first|assumption|omega)))))))|apply wlk_nil|apply wlk_eff rfl)
  (apply endX_ok rfl;(·exact Res.none_))
  exact ⟨(g1, cs1), rfl, ⟨hg1, hcs1⟩, by (repeat (first|exact HKeep.refl|(apply HKeep.pick;(·(repeat (first|exact Rem.here|apply Rem.there))))))⟩
set_option maxRecDepth 100000 in
set_option maxHeartbeats 1000000 in
theorem Grow_c {Be : Nat} {w0 w : World} {b n : Nat} {R : Heap} (h0 : 0 < n) (hn : n ≤ 1000000000) (hh : Hp Be w0 ((b, .cells #[.pointer none, .slice none 0 0] 60 (0, 0)) :: R) w) :
    Calls Try.prog 77 #[.pointer (some ⟨b, 0, none⟩), .int .i64 (n : Int)] w (RetX Be w0 (fun _ : Nat × Array Value => .tuple #[]) (fun y => (b, .cells #[.pointer (some ⟨b, 0, none⟩), .slice (some ⟨y.1, 0, none⟩) 0 y.2.size] 60 (0, 0)) :: (y.1, .cells y.2 5 (0, 0)) :: R) (fun y => w0.heap.size ≤ y.1 ∧ n ≤ y.2.size)) := by
  refine sp_enterM (vs := [_, _]) Try.func77 rfl Try.ntmps77 rfl hh ?_
  repeat (first|(apply sp_cond_t;(·exact eT rfl);(·(simp;omega)))|(apply sp_cond_f;(·exact eT rfl);(·(simp)))|(apply spl_callx (fun _ : Unit => .tuple #[]) (fun _ => w0) (fun _ => _ :: _) (fun _ => True) rfl;(·(repeat (first|exact eN|(apply eS;(·exact eT rfl)))));(·exact fun w' hh => copyCheck_c (.inl rfl) hh);(rintro ⟨⟩ -))|(apply spl_callR rfl;(·(repeat (first|exact eN|(apply eS;(·exact eT rfl)))));(·exact fun w' hh => grow_c hn hh);(rintro ⟨g1, cs1⟩ ⟨hg1, hcs1⟩))|apply then_n|apply sp_seq|apply sp_region|apply spl_nil|apply sp_skip|((first|apply spl_pure rfl|apply spq_pure rfl);(·(first|(apply ex_cap;(·exact eT rfl))|((first|apply ex_move|apply ex_fieldAddr'|apply ex_lss|apply ex_len|apply ex_nilCheck)<;>(first|exact eT rfl|exact eC))|(apply ex_subn<;>(first|exact eT rfl|(constructor<;>omega)))|(apply ex_loadown<;>(first|exact eT rfl|exact Bk.own InH.mem|rfl)))))|apply spq_nil|apply sp_draw mixed (by kernel_rfl))
  (apply endX_ok rfl;(·exact Res.none_))
  exact ⟨(g1, cs1), rfl, ⟨hg1, hcs1⟩, by (repeat (exact HKeep.refl))⟩
set_option maxRecDepth 100000 in
set_option maxHeartbeats 1000000 in
/-- WriteString, also where room was made before. -/
theorem writeString2_c {Be : Nat} {w0 w : World} {b : Nat} {p : Option Addr} {r : RowS} {s : ByteArray} {R : Heap} (hp : p = none ∨ p = some ⟨b, 0, none⟩) (hr : r.ok 1 s.size (byteCells s)) (hr2 : ∀ g, r.g = some g → w0.heap.size ≤ g) (hs : s.size < 100000000) (x : ByteArray) (hx0 : 0 < x.size) (hx : x.size < 100000000) (hh : Hp Be w0 (BH b p r s ++ R) w) :
    Calls Try.prog 29 #[.pointer (some ⟨b, 0, none⟩), .string x] w (RetX Be w0 (fun _ : RowS => .tuple #[.int .i64 (x.size : Int), .nilIface]) (fun r' => BH b (some ⟨b, 0, none⟩) r' (s ++ x) ++ R) (fun r' => BOk w0 r' (s ++ x))) := by
  by_cases h : ∃ g, r.g = some g ∧ s.size = 0
  · obtain ⟨g, hg, hs0⟩ := h
    have hlen := byteCells_len s
    have hlx := byteCells_len x
    rcases r with ⟨_ | g', cap, tail⟩
    · cases hg
    obtain ⟨h0, h1, h2⟩ := hr
    have h3 := hr2 _ rfl
    refine sp_enterM (vs := [_, _]) Try.func29 rfl Try.ntmps29 rfl hh ?_
    rw [BH_s]
    repeat (first|(apply spl_callx (fun _ : Unit => .tuple #[]) (fun _ => w0) (fun _ => _ :: _) (fun _ => True) rfl;(·(repeat (first|exact eN|(apply eS;(·exact eT rfl)))));(·exact fun w' hh => copyCheck_c hp hh);(rintro ⟨⟩ -))|apply then_n|apply sp_seq|apply sp_region|apply spl_nil|apply sp_ret|((apply spl_pure rfl);(·(first|((first|apply ex_move|apply ex_assign|apply ex_fieldAddr'|apply ex_nilCheck)<;>(first|exact eT rfl|exact eC))|((apply ex_slen)<;>(exact eT rfl))|(apply ex_loadown<;>(first|exact eT rfl|exact Bk.own InH.mem|rfl)))))|(apply spl_store1;(·exact eT rfl);(·exact eT rfl);(·rfl);(·(repeat (first|exact Upd.here|apply Upd.there)));(·rfl))|(refine spl_append_own (xs := byteCells s) (tail := tail) (news := byteCells x) (m := x.size) (by (exact eT rfl)) (by (exact eT rfl)) (by (repeat (first|exact Rem.here|apply Rem.there))) (by assumption) h2 h1 h0 (fun w' hh => SrcAt.string) (by omega) (by omega) rfl rfl rfl rfl ?_;intro gA capA tA hgA hcA hlA))
    (apply retX_ok rfl;(·((apply Res.ofTwo<;>((apply Res1.tmp;(·rfl)))))))
    refine ⟨⟨some gA, capA, tA⟩, rfl, ⟨⟨?_, ?_, ?_⟩, ?_⟩, ?_⟩
    · rw [ByteArray.size_append]; exact hcA
    · rw [byteCells_app]; exact hlA
    · rw [byteCells_len, Nat.mul_one]
    · rintro g h; cases h; rw [ByteArray.size_append]; exact ⟨hgA, by omega⟩
    · rw [BH_s, ByteArray.size_append, byteCells_app]; (repeat (first|exact HKeep.refl|(apply HKeep.pick;(·(repeat (first|exact Rem.here|apply Rem.there))))))
  · exact writeString_c hp ⟨hr, fun g hg => ⟨hr2 g hg, Nat.pos_of_ne_zero fun h0 => h ⟨g, hg, h0⟩⟩⟩ hs x hx0 hx hh
theorem writeString3_c {Be : Nat} {w0 w : World} {b : Nat} {p : Option Addr} {r : RowS} {s : ByteArray} (hp : p = none ∨ p = some ⟨b, 0, none⟩) (hr : r.ok 1 s.size (byteCells s)) (hr2 : ∀ g, r.g = some g → w0.heap.size ≤ g) (hs : s.size < 100000000) (x : ByteArray) (hx0 : 0 < x.size) (hx : x.size < 100000000) (hh : Hp Be w0 (BH b p r s) w) :
    Calls Try.prog 29 #[.pointer (some ⟨b, 0, none⟩), .string x] w (RetX Be w0 (fun _ : RowS => .tuple #[.int .i64 (x.size : Int), .nilIface]) (fun r' => BH b (some ⟨b, 0, none⟩) r' (s ++ x)) (fun r' => BOk w0 r' (s ++ x))) := by
  have := writeString2_c (R := []) hp hr hr2 hs x hx0 hx (by rw [List.append_nil]; exact hh)
  simpa only [List.append_nil] using this
/-! Join. -/
def jn (sep x0 : ByteArray) (r : List ByteArray) : ByteArray := r.foldl (fun a y => a ++ sep ++ y) x0
def joinB (sep : ByteArray) : List ByteArray → ByteArray
  | [] => ⟨#[]⟩
  | x :: r => jn sep x r
theorem jn_snoc (sep x0 : ByteArray) (r : List ByteArray) (y : ByteArray) : jn sep x0 (r ++ [y]) = jn sep x0 r ++ sep ++ y := by simp [jn]
def sumZ (l : List ByteArray) : Nat := (l.map (·.size)).sum
theorem sumZ_snoc (l : List ByteArray) (x : ByteArray) : sumZ (l ++ [x]) = sumZ l + x.size := by simp [sumZ]
theorem sumZ_le {l : List ByteArray} {m : Nat} (h : ∀ x ∈ l, x.size ≤ m) : sumZ l ≤ l.length * m := by
  induction l with
  | nil => simp [sumZ]
  | cons x r ih =>
    have h1 := h x (.head _)
    have h2 := ih fun y hy => h y (.tail _ hy)
    simp only [sumZ, List.map_cons, List.sum_cons, List.length_cons, Nat.add_mul] at *
    omega
theorem jn_size {sep x0 : ByteArray} {r : List ByteArray} {m : Nat} (h : ∀ x ∈ x0 :: r, x.size ≤ m) (hs : sep.size ≤ 10) : (jn sep x0 r).size ≤ (r.length + 1) * (m + 10) := by
  unfold jn
  have h0 := h x0 (.head _)
  have key : ∀ (l : List ByteArray) (a : ByteArray), (∀ x ∈ l, x.size ≤ m) → (l.foldl (fun a y => a ++ sep ++ y) a).size ≤ a.size + l.length * (m + 10) := by
    intro l
    induction l with
    | nil => intro a _; simp
    | cons y l ih =>
      intro a hl
      have := ih (a ++ sep ++ y) fun z hz => hl z (.tail _ hz)
      have hy := hl y (.head _)
      rw [List.foldl_cons]
      rw [ByteArray.size_append, ByteArray.size_append] at this
      simp only [List.length_cons, Nat.add_mul] at *
      omega
  have := key r x0 fun z hz => h z (.tail _ hz)
  rw [Nat.add_mul]
  omega
theorem tx_jn (sep x0 : ByteArray) (r : List ByteArray) : tx (jn sep x0 r) = tx x0 ++ r.flatMap fun y => tx sep ++ tx y := by
  unfold jn
  induction r generalizing x0 with
  | nil => simp
  | cons y r ih => rw [List.foldl_cons, ih, tx_append, tx_append]; simp
theorem BH_room {b g : Nat} {cs : Array Value} : (b, Obj.cells #[.pointer (some ⟨b, 0, none⟩), .slice (some ⟨g, 0, none⟩) 0 cs.size] 60 (0, 0)) :: (g, .cells cs 5 (0, 0)) :: [] = BH b (some ⟨b, 0, none⟩) ⟨some g, cs.size, cs.toList⟩ ⟨#[]⟩ := by
  rw [BH_s]
  have : (byteCells ⟨#[]⟩ ++ cs.toList).toArray = cs := by simp [byteCells]
  rw [this]
  all_goals rfl
theorem emp_app (x : ByteArray) : (⟨#[]⟩ : ByteArray) ++ x = x := tx_inj (by rw [tx_append]; rfl)
attribute [local irreducible] BH
set_option maxRecDepth 100000 in
set_option maxHeartbeats 4000000 in
theorem join_c {w : World} {A : Option Addr} {n c : Nat} {xs : List ByteArray} {sep : ByteArray} (h : RdS w w.heap.size 1 strC A n xs) (hc : n ≤ c) (hx : ∀ x ∈ xs, 0 < x.size ∧ x.size ≤ 100000) (hn : n ≤ 100) (hs : 0 < sep.size ∧ sep.size ≤ 10) :
    Calls Try.prog 55 #[.slice A n c, .string sep] w (Ret w (.string (joinB sep xs))) := by
  have hlen := h.len
  refine sp_enter (vs := [_, _]) Try.func55 rfl Try.ntmps55 rfl ?_
  cases xs with
  | nil =>
    have h0 : n = 0 := by simpa using hlen.symm
    subst h0
    repeat (first|apply then_n|apply sp_seq|apply sp_region|apply spl_nil|apply then_r|apply block_r|((apply sp_cond_t);(·exact eT rfl);(·(exact decide_eq_true (by omega))))|apply sp_ret|apply sp_block|((apply spl_pure rfl);(·(first|((first|apply ex_move|apply ex_assign|apply ex_seql|apply ex_len)<;>(first|exact eT rfl|exact eC))|((apply ex_eql)<;>(first|exact eT rfl|exact eC))))))
    (apply ret_ok rfl;(·((apply Res.ofOne;((apply Res1.tmp;(·rfl))))))); rfl
  | cons x0 r =>
    have hlr : n = r.length + 1 := by simpa using hlen.symm
    by_cases h1 : r = []
    · subst h1
      have h0 : n = 1 := by simpa using hlr
      subst h0
      obtain ⟨ad, y, hA, hb, hy, hsz, hcl⟩ := h.at_ (i := 0) (by omega)
      cases hy
      repeat (first|apply then_n|apply sp_seq|apply sp_region|apply spl_nil|apply then_r|apply block_r|((apply sp_cond_t);(·exact eT rfl);(·(exact decide_eq_true (by omega))))|(apply sp_cond_f;(·exact eT rfl);(·(exact decide_eq_false (by omega))))|apply sp_ret|apply sp_block|((apply spl_pure rfl);(·(first|(apply ex_loadfieldP (ad:=ad) (i:=0) (k:=0);(·exact eT rfl);(·simp [Addr.add]);(·exact h);(·exact hA);(·exact rfl);(·rfl))|((first|apply ex_move|apply ex_assign|apply ex_seql|apply ex_len)<;>(first|exact eT rfl|exact eC))|((apply ex_eql)<;>(first|exact eT rfl|exact eC))|((apply ex_indexAddrI)<;>(first|exact eT rfl|exact eC|(assumption)|(constructor<;>omega)))))))
      (apply ret_ok rfl;(·((apply Res.ofOne;((apply Res1.tmp;(·rfl))))))); rfl
    · have hrl : 0 < r.length := List.length_pos_iff.2 h1
      obtain ⟨q, hq⟩ : ∃ q, 9223372036854775807 / r.length = q := ⟨_, rfl⟩
      have hsq : sep.size < q := by
        have : 10 < 9223372036854775807 / r.length := by
          rw [Nat.lt_div_iff_mul_lt hrl]; omega
        omega
      obtain ⟨M, hM⟩ : ∃ M, sep.size * r.length = M := ⟨_, rfl⟩
      have hM' : (sep.size : Int) * (r.length : Int) = (M : Int) := by rw [← hM]; rfl
      have hMb : M ≤ 1000 := by
        rw [← hM]
        have : sep.size * r.length ≤ 10 * 100 := Nat.mul_le_mul hs.2 (by omega)
        omega
      have hxm : ∀ x ∈ x0 :: r, x.size ≤ 100000 := fun x hm => (hx x hm).2
      repeat (first|apply then_n|apply block_n|apply sp_seq|apply sp_region|apply spl_nil|((apply sp_cond_t);(·exact eT rfl);(·(exact decide_eq_true (by omega))))|(apply sp_cond_f;(·exact eT rfl);(·(exact decide_eq_false (by omega))))|apply sp_skip|apply sp_block|((apply spl_pure rfl);(·(first|(apply ex_subL (r:=(r.length : Int));(·exact eT rfl);(·exact eC);(·omega);(·(constructor<;>omega)))|(apply ex_quoE (m:=9223372036854775807) hq hrl (by decide);(·exact eC);(·exact eT rfl))|(apply ex_mulE2 hM';(·exact eT rfl);(·exact eT rfl);(·(constructor<;>omega)))|(apply ex_addE2 (r:=(M : Int));(·exact eT rfl);(·exact eT rfl);(·omega);(·(constructor<;>omega)))|((first|apply ex_move|apply ex_assign|apply ex_gtr|apply ex_geq|apply ex_seql|apply ex_len)<;>(first|exact eT rfl|exact eC))|((first|apply ex_eql|apply ex_slen)<;>(first|exact eT rfl|exact eC))))))
      refine sp_loop (X := Nat) (fun k => [(41, true, .int .i64 (k : Int)), (40, true, .int .i64 (n : Int)), (39, true, .slice A n c), (5, true, .int .i64 ((M + sumZ ((x0 :: r).take k) : Nat) : Int)), (1, true, .string sep), (0, true, .slice A n c)]) (fun _ => w) (fun _ => []) (fun k => k ≤ n) (fun k => n - k) 0 (Nat.zero_le _) (by (repeat (first|exact ESub.nil|apply ESub.cons rfl))) rfl (by (repeat (exact HKeep.refl))) ?_
      intro k hk
      have hsum : sumZ ((x0 :: r).take k) ≤ 10000000 := by
        have := sumZ_le (l := (x0 :: r).take k) (m := 100000) fun x hm => hxm x (List.mem_of_mem_take hm)
        rw [List.length_take] at this
        have h2 : min k (x0 :: r).length * 100000 ≤ 100 * 100000 := Nat.mul_le_mul_right _ (by rw [hlen]; omega)
        omega
      by_cases hlt : k < n
      · obtain ⟨ad, y, hA, hb, hy, hsz, hcl⟩ := h.at_ hlt
        have hyb := hxm y (List.mem_of_getElem? hy)
        have hst : sumZ ((x0 :: r).take (k + 1)) = sumZ ((x0 :: r).take k) + y.size := by rw [take_succ hy, sumZ_snoc]
        generalize sumZ ((x0 :: r).take k) = S at hsum hst ⊢
        repeat (first|(apply sp_cond_f;(·exact eT rfl);(·exact decide_eq_false (by omega)))|apply then_n|apply block_n|apply sp_seq|apply sp_region|apply spl_nil|((apply sp_cond_t);(·exact eT rfl);(·(exact decide_eq_true (by omega))))|apply sp_skip|apply sp_block|((apply spl_pure rfl);(·(first|(apply ex_loadfield (ad:=ad) (i:=k) (k:=0);(·exact eT rfl);(·exact h);(·exact hA);(·exact hy);(·rfl))|(apply ex_subL (r:=((9223372036854775807 - (M + S) : Nat) : Int));(·exact eC);(·exact eT rfl);(·omega);(·(constructor<;>omega)))|(apply ex_addE2 (r:=((M + (S + y.size) : Nat) : Int));(·exact eT rfl);(·(first|exact eT rfl|exact eC));(·omega);(·(constructor<;>omega)))|((first|apply ex_move|apply ex_assign|apply ex_lss|apply ex_gtr)<;>(exact eT rfl))|((apply ex_slen)<;>(exact eT rfl))|((apply ex_addn)<;>(first|exact eT rfl|exact eC|(constructor<;>omega)))|((apply ex_indexAddr)<;>(first|exact eT rfl|assumption))))))
        exact ⟨k + 1, hlt, by (show n - (k + 1) < n - k; omega), by rw [hst]; (repeat (first|exact ESub.nil|apply ESub.cons rfl)), rfl, by (repeat (exact HKeep.refl))⟩
      · have hke : k = n := by omega
        subst hke
        have hall : (x0 :: r).take k = x0 :: r := List.take_of_length_le (by omega)
        rw [hall] at hsum ⊢
        obtain ⟨T, hT⟩ : ∃ T, T = M + sumZ (x0 :: r) := ⟨_, rfl⟩
        have hT0 : 0 < T := by
          have := (hx x0 (.head _)).1
          simp only [sumZ, List.map_cons, List.sum_cons] at hT
          omega
        rw [← hT]
        obtain ⟨ad, y0, hA, hb, hy0, hsz, hcl⟩ := h.at_ (i := 0) (by omega)
        cases hy0
        have hrest := RdS.cut (c := c) (m := 1) h (by omega) hc
        repeat (first|(apply spl_callR rfl;(·(repeat (first|exact eN|(apply eS;(·exact eT rfl)))));(·exact fun w' hh => Grow_c hT0 (by omega) hh);(rintro ⟨g1, cs1⟩ ⟨hg1, hcs1⟩;dsimp only))|apply then_n|apply sp_seq|apply sp_region|apply spl_nil|apply then_e|apply block_here|(apply sp_cond_f;(·exact eT rfl);(·(exact decide_eq_false (by omega))))|apply sp_exit|((apply spl_pure rfl);(·(first|(apply ex_loadfieldP (ad:=ad) (i:=0) (k:=0);(·exact eT rfl);(·simp [Addr.add]);(·exact h);(·exact hA);(·exact rfl);(·rfl))|((first|apply ex_move|apply ex_lss)<;>(exact eT rfl))|((apply ex_indexAddrI)<;>(first|exact eT rfl|exact eC|(assumption)|(constructor<;>omega))))))|(apply spl_alloc rfl;intro _ _))
        rename_i b hb8
        rw [BH_room]
        have hx0 := hx x0 (.head _)
        have hok0 : RowS.ok ⟨some g1, cs1.size, cs1.toList⟩ 1 (⟨#[]⟩ : ByteArray).size (byteCells ⟨#[]⟩) := ⟨Nat.zero_le _, by simp [byteCells], rfl⟩
        have hfr0 : ∀ g, (⟨some g1, cs1.size, cs1.toList⟩ : RowS).g = some g → w.heap.size ≤ g := fun g h => by cases h; exact hg1
        have hsz0 : (⟨#[]⟩ : ByteArray).size < 100000000 := by decide
        have hsx0 : x0.size < 100000000 := by omega
        repeat (first|(apply spl_callR rfl;(·(repeat (first|exact eN|(apply eS;(·exact eT rfl)))));(·exact fun w' hh => writeString3_c (.inr rfl) hok0 hfr0 hsz0 x0 hx0.1 hsx0 hh);(rintro r1 hr1;rw [emp_app] at hr1 ⊢))|apply then_n|apply sp_seq|apply sp_region|apply spl_nil|apply sp_block|((apply spl_pure rfl);(·(first|(apply ex_slice_lE (m:=1);(·exact eT rfl);(·exact eC);(·(constructor<;>omega)))|((first|apply ex_move|apply ex_len)<;>(first|exact eT rfl|exact eC))))))
        have hjs : ∀ k, (jn sep x0 (r.take k)).size ≤ 100 * 100010 := fun k => by
          have := jn_size (sep := sep) (x0 := x0) (r := r.take k) (m := 100000) (fun x hm => by
            rcases List.mem_cons.1 hm with rfl | hm
            · exact hx0.2
            · exact hxm x (.tail _ (List.mem_of_mem_take hm))) hs.2
          have h2 : (r.take k).length ≤ 99 := by rw [List.length_take]; omega
          have h3 : ((r.take k).length + 1) * (100000 + 10) ≤ 100 * 100010 := Nat.mul_le_mul_right _ (by omega)
          exact Nat.le_trans this h3
        refine sp_loop (X := Nat × RowS) (fun y => [(65, true, .int .i64 (y.1 : Int)), (64, true, .int .i64 ((k - 1 : Nat) : Int)), (63, true, .slice (cutA A 1 c 1) (k - 1) (c - 1)), (8, true, .pointer (some ⟨b, 0, none⟩)), (1, true, .string sep)]) (fun _ => w) (fun y => BH b (some ⟨b, 0, none⟩) y.2 (jn sep x0 (r.take y.1))) (fun y => y.1 ≤ k - 1 ∧ BOk w y.2 (jn sep x0 (r.take y.1))) (fun y => k - 1 - y.1) (0, r1) ⟨Nat.zero_le _, hr1⟩ (by (repeat (first|exact ESub.nil|apply ESub.cons rfl))) rfl (by (repeat (exact HKeep.refl))) ?_
        rintro ⟨j, rr⟩ ⟨hj, hrr⟩
        dsimp only at hj hrr ⊢
        by_cases hlt2 : j < k - 1
        · obtain ⟨ad2, z, hA2, hb2, hz, hsz2, hcl2⟩ := hrest.at_ hlt2
          have hz' : r[j]? = some z := by simpa using hz
          have hzb := hx z (.tail _ (List.mem_of_getElem? hz'))
          have hsn : jn sep x0 (r.take (j + 1)) = jn sep x0 (r.take j) ++ sep ++ z := by rw [take_succ hz', jn_snoc]
          have hj1 := hjs j
          have hj2 := hjs (j + 1)
          rw [hsn] at hj2
          have hj3 : (jn sep x0 (r.take j) ++ sep).size ≤ 100 * 100010 := by rw [ByteArray.size_append] at hj2; omega
          repeat (first|(apply spl_callR rfl;(·(repeat (first|exact eN|(apply eS;(·exact eT rfl)))));(·exact fun w' hh => writeString_c0 (.inr rfl) hrr (by omega) sep hs.1 (by omega) hh);(rintro r2 hr2))|(apply spl_callR rfl;(·(repeat (first|exact eN|(apply eS;(·exact eT rfl)))));(·exact fun w' hh => writeString_c0 (.inr rfl) hr2 (by omega) z hzb.1 (by omega) hh);(rintro r3 hr3))|apply then_n|apply block_n|apply sp_seq|apply sp_region|apply spl_nil|((apply sp_cond_t);(·exact eT rfl);(·(exact decide_eq_true (by omega))))|apply sp_skip|apply sp_block|((apply spl_pure rfl);(·(first|(apply ex_loadfield (ad:=ad2) (i:=j) (k:=0);(·exact eT rfl);(·exact hrest);(·exact hA2);(·exact hz);(·rfl))|((first|apply ex_move|apply ex_assign|apply ex_lss)<;>(exact eT rfl))|((apply ex_addn)<;>(first|exact eT rfl|exact eC|(constructor<;>omega)))|((apply ex_indexAddr)<;>(first|exact eT rfl|assumption))))))
          exact ⟨(j + 1, r3), ⟨hlt2, by show BOk w r3 (jn sep x0 (r.take (j + 1))); rw [hsn]; exact hr3⟩, by (show k - 1 - (j + 1) < k - 1 - j; omega), by (repeat (first|exact ESub.nil|apply ESub.cons rfl)), rfl, by show HKeep w (BH b _ r3 (jn sep x0 (r.take (j + 1)))) _; rw [hsn]; (repeat (exact HKeep.refl))⟩
        · have hjk : r.take j = r := List.take_of_length_le (by omega)
          rw [hjk] at hrr ⊢
          have hj1 := hjs r.length
          rw [List.take_length] at hj1
          repeat (first|(apply spl_callR rfl;(·(repeat (first|exact eN|(apply eS;(·exact eT rfl)))));(·exact fun w' hh => string_c0 hrr (by omega) hb8 hh);(rintro ⟨⟩ -))|apply then_n|apply sp_seq|apply sp_region|apply spl_nil|apply then_e|apply block_here|(apply sp_cond_f;(·exact eT rfl);(·(exact decide_eq_false (by omega))))|apply sp_ret|apply sp_exit|((apply spl_pure rfl);(·(((first|apply ex_assign|apply ex_lss)<;>(exact eT rfl))))))
          (apply ret_ok rfl;(·((apply Res.ofOne;((apply Res1.tmp;(·rfl))))))); rfl
end Go.Proofs.Ytfdjlphfohnnnaa
/-
  Contracts of the parser: kinds of a slot.
-/
namespace Go.Proofs.Ytfdjlphfohnnnaa
open Go.RowKit Go.Sy
set_option linter.unusedVariables false
set_option linter.unusedSimpArgs false
def flatS (l : List ByteArray) : List Value := l.flatMap fun x => (strC x).toList
theorem flatS_snoc (l : List ByteArray) (x : ByteArray) : flatS l ++ (strC x).toList = flatS (l ++ [x]) := by simp [flatS]
/-- The catalog that has been read, in memory. -/
def CatIn (R : Heap) (k : Sl) (ks : List KindR) : Prop := ∀ w, Holds R w → RdKinds w w.heap.size k ks
theorem nameP_ok {chk : ByteArray → Int} {en : Int} {ts r : List Tk} {x : ByteArray} (h : nameP chk en ts = .ok (x, r)) : ∃ t, ts = t :: r ∧ t.text = x ∧ (t.kind : Int) = 1 := by
  cases ts with
  | nil => cases h
  | cons t q =>
    simp only [nameP] at h
    split at h
    · rename_i hk
      split at h
      · cases h; exact ⟨t, rfl, rfl, hk⟩
      · cases h
    · cases h
theorem moreP_end {read : List PKind} {en : Int} {l : List ByteArray} {ts : List Tk} (h : headName ts = false) : moreP read en l ts = .ok (l, ts) := by
  cases ts with
  | nil => rfl
  | cons t r =>
    simp only [headName, decide_eq_false_iff_not] at h
    simp only [moreP]
    rw [if_neg h]
theorem moreP_go {read : List PKind} {en : Int} {l : List ByteArray} {ts : List Tk} (h : headName ts = true) : moreP read en l ts = match nameP (kindC read l) en ts with | .error e => .error e | .ok (x, r) => moreP read en (l ++ [x]) r := by
  cases ts with
  | nil => cases h
  | cons t r =>
    simp only [headName, decide_eq_true_eq] at h
    simp only [moreP, nameP]
    rw [if_pos h, if_pos h]
    by_cases h0 : kindC read l t.text = 0
    · rw [if_pos h0, if_pos h0]
    · rw [if_neg h0, if_neg h0]
attribute [local irreducible] Calls thenQ blockQ retQ retFQ Spc Spl Spq Ex Ev Evs Gd Upd ESub HKeep Res Res1 wlk effQ wlkT effT wlkP effP Rem SrcAt Split
set_option maxRecDepth 100000 in
set_option maxHeartbeats 8000000 in
theorem kinds_c {Be : Nat} {w0 w : World} {gp : Nat} {s k : Sl} {en : Int} {R R0 : Heap} {ts : List Tk} {l : List ByteArray} {ks : List KindR} {r : RowS} (hT : TokIn R0 s ts) (h0 : ∀ p ∈ R0, p ∈ R) (hC : CatIn R k ks) (hg : w0.heap.size ≤ gp) (hr : r.ok 1 l.length (flatS l)) (hfr : r.fresh w0.heap.size) (hB : l.length + ts.length ≤ 1000000)
    (hh : Hp Be w0 (PB gp s en k :: (r.hp (flatS l) 9 ++ R)) w) :
    Calls Try.prog 84 #[.pointer (some ⟨gp, 0, none⟩), r.val l.length] w (RetF Be w0 (fun y : RowS × Sl × List ByteArray × List Tk => y.1.val y.2.2.1.length) (fun y => PB gp y.2.1 en k :: (y.1.hp (flatS y.2.2.1) 9 ++ R))
      (fun y => kindsP (ks.map KindR.pure) en l ts = .ok y.2.2 ∧ TokIn R0 y.2.1 y.2.2.2 ∧ y.1.ok 1 y.2.2.1.length (flatS y.2.2.1) ∧ y.1.fresh w0.heap.size) (fun ch => ∃ e, kindsP (ks.map KindR.pure) en l ts = .error e ∧ ch = panE e) R) := by
  obtain ⟨read, hread⟩ : ∃ q, q = ks.map KindR.pure := ⟨_, rfl⟩
  rw [← hread]
  have hchk : ∀ (gb gl : Nat) (s : Sl) (l : List ByteArray) (r : RowS) (hr : r.ok 1 l.length (flatS l)) (hb : l.length ≤ 1000000) (x : ByteArray) (w' : World), Hp Be w0 (PB gp s en k :: (gl, .cells #[r.val l.length] 44 (0, 0)) :: (gb, .cells #[.pointer (some ⟨gp, 0, none⟩)] 69 (0, 0)) :: (r.hp (flatS l) 9 ++ R)) w' →
      Calls Try.prog 90 (Value.string x :: [.pointer (some ⟨gb, 0, none⟩), .pointer (some ⟨gl, 0, none⟩)]).toArray w' (Ret w' (.int .i64 (kindC read l x))) := by
    intro gb gl s l r hr hb x w' hh'
    rw [hread]
    have hrow : RdS w' w'.heap.size 1 strC (r.g.map fun g => ⟨g, 0, none⟩) l.length l := RdS.ofRowS (T := 9) hh' (by unfold flatS; (repeat (first|exact Split.here|apply Split.cons))) rfl (by omega) (fun _ _ => rfl) hr
    exact kindsChk_c hrow (hC w' hh'.holds).1 hh'.ownI hh'.ownI (hh'.own _ (.head _))
  refine sp_enterF (vs := [_, _]) Try.func84 rfl Try.ntmps84 rfl hh ?_
  have hrow := RowS.drop (xs := flatS l) (T := 9) hfr
  unfold PB
  repeat (first|apply then_n|apply sp_seq|apply sp_region|apply spl_nil|((apply spl_pure rfl);(·(first|((apply ex_assign)<;>(first|exact eT rfl|exact eC))|(apply ex_makeFunc<;>(((repeat (first|exact eN|(apply eS;(·exact eT rfl))));done))))))|(apply spl_box;(·exact eT rfl);(·rfl);intro _ _))
  rename_i gb hgb gl hgl
  refine sp_drawnP (.rd 0 (.rd 1 (.rd 2 (.ef 3 (.ef 4 (.ef 5 (.ef 6 .nil))))))) 6 [] ((gl, .cells #[r.val l.length] 44 (0, 0)) :: (gb, .cells #[.pointer (some ⟨gp, 0, none⟩)] 69 (0, 0)) :: R) mixed (by kernel_rfl) rfl (by (repeat (first|exact HKeep.refl|apply HKeep.keep|apply HKeep.drop (by first|assumption|omega)|apply HKeep.dropA (by assumption)))) ?_
  repeat (first|(apply spl_callF (X:=Sl × ByteArray × List Tk) (V:=fun y => .string y.2.1) (A:=[PB gp s en k]) (AA:=fun y => [PB gp y.1 en k]) (R:=(gl, .cells #[r.val l.length] 44 (0, 0)) :: (gb, .cells #[.pointer (some ⟨gp, 0, none⟩)] 69 (0, 0)) :: (r.hp (flatS l) 9 ++ R)) (I:=fun y => nameP (kindC read l) en ts = .ok y.2 ∧ TokIn R0 y.1 y.2.2) (F:=fun ch => ∃ e, nameP (kindC read l) en ts = .error e ∧ ch = panE e) rfl;(·(repeat (first|exact eN|(apply eS;(·exact eT rfl)))));(·(repeat (first|exact Split.one|apply Split.cons)));(·exact fun w' hh => name_c (cap:=[_, _]) hT (fun p hp => .tail _ (.tail _ (List.mem_append.2 (.inr (h0 p hp))))) hg (fun t q he hk w1 hh1 => hchk gb gl s l r hr (by omega) t.text w1 hh1) hh);(·(rintro ch ⟨e_, he_, hch_⟩;(repeat (first|apply then_p|(apply effp_p;(·(repeat (exact ESub.nil))))));exact retF_pan ⟨e_, (by unfold kindsP; rw [he_]), hch_⟩ (by (repeat (first|exact HKeep.refl|apply HKeep.drop (by first|assumption|omega)|apply HKeep.dropA (by assumption))))));(rintro ⟨s1, x1, q1⟩ ⟨hn1, hT1⟩;dsimp only at hn1 hT1;simp only [List.cons_append, List.nil_append];unfold PB))|((apply wlp_read rfl rfl);(·(first|((apply ex_move)<;>(exact eT rfl))|((apply ex_loadown)<;>(first|exact eT rfl|exact Bk.own InH.mem|rfl)))))|apply wlp_nil|apply wlp_eff rfl|(apply effp;(·(intro h_;(first|(exact absurd h_ (by decide))|(repeat (first|exact HKeep.refl|(apply HKeep.pick;(·(repeat (first|exact Rem.here|apply Rem.there|apply Rem.app))))|apply HKeep.drop (by first|assumption|omega)|apply HKeep.dropA (by assumption)))))))|apply then_n|apply sp_seq|apply spl_nil|apply sp_block|(apply spl_store1;(·exact eT rfl);(·exact eT rfl);(·rfl);(·(repeat (first|exact Upd.here|apply Upd.there|apply Upd.app)));(·rfl))|(apply spl_buildSlice rfl;(·rfl);(·(repeat (first|exact eN|(apply eS;(·exact eT rfl)))));(·rfl);(·rfl);(·rfl);intro _ _)|(refine spl_append_row (r := r) (n := l.length) (xs := flatS l) (news := (strC x1).toList) (m := 1) (by (exact eT rfl)) (by (exact eT rfl)) (by (repeat (first|exact Split.here|apply Split.cons))) hr hfr (by omega) (fun w' hh => SrcAt.slice (CellsAt.own hh.ownI (fun j u hj => by rw [List.getElem?_toArray]; exact hj)) rfl rfl (fun v hv => by simp [strC] at hv; subst hv; rfl)) rfl (by omega) rfl rfl rfl rfl ?_;intro r2 hr2 hfr2;have hrow2 := RowS.drop (xs := flatS l ++ (strC x1).toList) (T := 9) hfr2))
  have hkm : kindsP read en l ts = moreP read en (l ++ [x1]) q1 := by unfold kindsP; rw [hn1]
  obtain ⟨t1, rfl, -, -⟩ := nameP_ok hn1
  have hl1 : (l ++ [x1]).length = l.length + 1 := by simp
  rw [flatS_snoc] at hr2 hrow2 ⊢
  rw [← hl1] at hr2 ⊢
  have hB2 : (l ++ [x1]).length + q1.length ≤ 1000000 := by rw [hl1]; simp only [List.length_cons] at hB; omega
  rw [hkm]
  generalize l ++ [x1] = l1 at *
  obtain ⟨M, hM⟩ : ∃ M, M = moreP read en l1 q1 := ⟨_, rfl⟩
  rw [← hM]
  refine sp_loop (X := RowS × Sl × List ByteArray × List Tk) (fun y => [(2, true, .pointer (some ⟨gb, 0, none⟩)), (3, true, .pointer (some ⟨gl, 0, none⟩)), (5, true, .func (.func 90) #[] #[.pointer (some ⟨gb, 0, none⟩), .pointer (some ⟨gl, 0, none⟩)])]) (fun _ => w0)
    (fun y => (gp, .cells #[.slice y.2.1.a y.2.1.n y.2.1.c, .int .i64 en, .slice k.a k.n k.c] 71 (0, 0)) :: (gl, .cells #[y.1.val y.2.2.1.length] 44 (0, 0)) :: (gb, .cells #[.pointer (some ⟨gp, 0, none⟩)] 69 (0, 0)) :: (y.1.hp (flatS y.2.2.1) 9 ++ R))
    (fun y => moreP read en y.2.2.1 y.2.2.2 = M ∧ TokIn R0 y.2.1 y.2.2.2 ∧ y.1.ok 1 y.2.2.1.length (flatS y.2.2.1) ∧ y.1.fresh w0.heap.size ∧ y.2.2.1.length + y.2.2.2.length ≤ 1000000) (fun y => y.2.2.2.length) (r2, s1, l1, q1) ⟨hM.symm, hT1, hr2, hfr2, hB2⟩ (by (repeat (first|exact ESub.nil|apply ESub.cons rfl))) rfl (by (repeat (first|exact HKeep.refl|(apply HKeep.app;(·(repeat (exact Split.here))))|(apply HKeep.pick;(·(repeat (first|exact Rem.here|apply Rem.there|apply Rem.app))))|apply HKeep.drop (by first|assumption|omega)))) ?_
  have hw0 : Holds R0 w := (hh.holds (R := R)).sub h0
  clear hr hfr hrow hT hB hkm hn1 hl1 hM hT1 hr2 hfr2 hrow2 hB2 hh
  clear r s t1 l q1 r2 s1 l1 x1
  rintro ⟨r, s, l, ts⟩ ⟨hinv, hT, hr, hfr, hB⟩
  dsimp only at hinv hT hr hfr hB ⊢
  have hrow := RowS.drop (xs := flatS l) (T := 9) hfr
  have hlen := hT.len
  have hTr : ∀ H' w', Hp Be w0 ((gp, .cells #[.slice s.a s.n s.c, .int .i64 en, .slice k.a k.n k.c] 71 (0, 0)) :: (gl, .cells #[r.val l.length] 44 (0, 0)) :: (gb, .cells #[.pointer (some ⟨gp, 0, none⟩)] 69 (0, 0)) :: (H' ++ R)) w' → RdS w' w'.heap.size 3 tkC s.a s.n ts := fun H' w' hh => (hT.app h0).rd w' hh.holds
  cases ts with
  | nil =>
    have hoff : decide ((s.n : Int) > 0) = false := decide_eq_false (by simp only [List.length_nil] at hlen; omega)
    have hM0 : M = .ok (l, []) := by rw [← hinv]; rfl
    repeat (first|(apply sp_cond_f;(·exact eT rfl);(·(rw [hoff];rfl)))|apply then_n|apply sp_seq|apply sp_region|apply spl_nil|apply then_e|apply block_here|apply sp_ret|apply sp_exit|((first|apply spl_pure rfl|(apply spl_pure_g rfl;(·exact Gd.tt rfl rfl)));(·(first|(apply ex_off hoff)|((first|apply ex_move|apply ex_assign|apply ex_fieldAddr'|apply ex_gtr|apply ex_len|apply ex_andT|apply ex_nilCheck)<;>(first|exact eT rfl|exact eC|exact eG rfl))|((apply ex_loadown)<;>(first|exact eT rfl|exact Bk.own InH.mem|rfl))))))
    (apply retF_ok rfl;(·((apply Res.ofOne;((apply Res1.tmp;(·rfl)))))))
    exact ⟨(r, s, l, []), rfl, ⟨hM0, hT, hr, hfr⟩, by (repeat (first|exact HKeep.refl|apply HKeep.keep|(apply HKeep.app;(·(repeat (first|exact Split.here|apply Split.cons))))|apply HKeep.drop (by first|assumption|omega)))⟩
  | cons t q =>
    have hon : decide ((s.n : Int) > 0) = true := decide_eq_true (by simp only [List.length_cons] at hlen; omega)
    have hpos : 0 < s.n := by simp only [List.length_cons] at hlen; omega
    obtain ⟨wq, _, hwq, -, -, -, -⟩ := (hT.rd w hw0).at_ hpos
    cases hd : headName (t :: q) with
    | false =>
      have hcond : (decide ((s.n : Int) > 0) && decide ((t.kind : Int) = 1)) = false := by rw [hon]; exact hd
      have hM0 : M = .ok (l, t :: q) := by rw [← hinv]; exact moreP_end hd
      repeat (first|(apply sp_cond_f;(·exact eT rfl);(·exact hcond))|apply then_n|apply sp_seq|apply sp_region|apply spl_nil|apply then_e|apply block_here|apply sp_ret|apply sp_exit|((first|apply spl_pure rfl|(apply spl_pure_g rfl;(·exact Gd.tt rfl rfl)));(·(first|(apply ex_loadfieldH (i:=0) (k:=0) (y:=t);(·exact eG rfl);(·exact hTr _);(·exact hwq);(·rfl);(·rfl))|((first|apply ex_move|apply ex_assign|apply ex_fieldAddr'|apply ex_gtr|apply ex_seql|apply ex_len|apply ex_andT|apply ex_nilCheck)<;>(first|exact eT rfl|exact eC|exact eG rfl))|((first|apply ex_fieldAddr|apply ex_eql)<;>(first|exact eC|exact eG rfl))|((first|apply ex_loadown|apply ex_indexAddr)<;>(first|exact eT rfl|exact eC|exact eG rfl|exact Bk.own InH.mem|rfl|assumption))))))
      (apply retF_ok rfl;(·((apply Res.ofOne;((apply Res1.tmp;(·rfl)))))))
      exact ⟨(r, s, l, t :: q), rfl, ⟨hM0, hT, hr, hfr⟩, by (repeat (first|exact HKeep.refl|apply HKeep.keep|(apply HKeep.app;(·(repeat (first|exact Split.here|apply Split.cons))))|apply HKeep.drop (by first|assumption|omega)))⟩
    | true =>
      have hcond : (decide ((s.n : Int) > 0) && decide ((t.kind : Int) = 1)) = true := by rw [hon]; exact hd
      repeat (first|(apply sp_cond_t;(·exact eT rfl);(·exact hcond))|apply then_n|apply sp_seq|apply sp_region|apply spl_nil|apply sp_skip|apply sp_block|((first|apply spl_pure rfl|(apply spl_pure_g rfl;(·exact Gd.tt rfl rfl)));(·(first|(apply ex_loadfieldH (i:=0) (k:=0) (y:=t);(·exact eG rfl);(·exact hTr _);(·exact hwq);(·rfl);(·rfl))|((first|apply ex_move|apply ex_fieldAddr'|apply ex_gtr|apply ex_seql|apply ex_len|apply ex_andT|apply ex_nilCheck)<;>(first|exact eT rfl|exact eC|exact eG rfl))|((first|apply ex_fieldAddr|apply ex_eql)<;>(first|exact eC|exact eG rfl))|((first|apply ex_loadown|apply ex_indexAddr)<;>(first|exact eT rfl|exact eC|exact eG rfl|exact Bk.own InH.mem|rfl|assumption))))))
      refine sp_drawnP (.rd 0 (.rd 1 (.rd 2 (.ef 3 (.ef 4 (.ef 5 (.ef 6 .nil))))))) 6 [] ((gl, .cells #[r.val l.length] 44 (0, 0)) :: (gb, .cells #[.pointer (some ⟨gp, 0, none⟩)] 69 (0, 0)) :: R) mixed (by kernel_rfl) rfl (by (repeat (first|exact HKeep.refl|(apply HKeep.pick;(·(repeat (first|exact Rem.here|apply Rem.there))))|apply HKeep.drop (by first|assumption|omega)|apply HKeep.dropA (by assumption)))) ?_
      repeat (first|(apply spl_callF (X:=Sl × ByteArray × List Tk) (V:=fun y => .string y.2.1) (A:=[PB gp s en k]) (AA:=fun y => [PB gp y.1 en k]) (R:=(gl, .cells #[r.val l.length] 44 (0, 0)) :: (gb, .cells #[.pointer (some ⟨gp, 0, none⟩)] 69 (0, 0)) :: (r.hp (flatS l) 9 ++ R)) (I:=fun y => nameP (kindC read l) en (t :: q) = .ok y.2 ∧ TokIn R0 y.1 y.2.2) (F:=fun ch => ∃ e, nameP (kindC read l) en (t :: q) = .error e ∧ ch = panE e) rfl;(·(repeat (first|exact eN|(apply eS;(·exact eT rfl)))));(·(repeat (exact Split.one)));(·exact fun w' hh => name_c (cap:=[_, _]) hT (fun p hp => .tail _ (.tail _ (List.mem_append.2 (.inr (h0 p hp))))) hg (fun t q he hk w1 hh1 => hchk gb gl s l r hr (by omega) t.text w1 hh1) hh);(·(rintro ch ⟨e_, he_, hch_⟩;(repeat (first|apply then_p|apply block_p|(apply effp_p;(·(repeat (exact ESub.nil))))));exact retF_pan ⟨e_, (by rw [← hinv, moreP_go hd, he_]), hch_⟩ (by (repeat (first|exact HKeep.refl|apply HKeep.drop (by first|assumption|omega)|apply HKeep.dropA (by assumption))))));(rintro ⟨s1, x1, q1⟩ ⟨hn1, hT1⟩;dsimp only at hn1 hT1;simp only [List.cons_append, List.nil_append];unfold PB))|((apply wlp_read rfl rfl);(·(first|((apply ex_move)<;>(exact eT rfl))|((apply ex_loadown)<;>(first|exact eT rfl|exact Bk.own InH.mem|rfl)))))|apply wlp_nil|apply wlp_eff rfl|(apply effp;(·(intro h_;(first|(exact absurd h_ (by decide))|(repeat (first|exact HKeep.refl|(apply HKeep.pick;(·(repeat (first|exact Rem.here|apply Rem.there|apply Rem.app))))|apply HKeep.drop (by first|assumption|omega)|apply HKeep.dropA (by assumption)))))))|apply then_n|apply block_n|apply spl_nil|(apply spl_store1;(·exact eT rfl);(·exact eT rfl);(·rfl);(·(repeat (first|exact Upd.here|apply Upd.there|apply Upd.app)));(·rfl))|(apply spl_buildSlice rfl;(·rfl);(·(repeat (first|exact eN|(apply eS;(·exact eT rfl)))));(·rfl);(·rfl);(·rfl);intro _ _)|(refine spl_append_row (r := r) (n := l.length) (xs := flatS l) (news := (strC x1).toList) (m := 1) (by (exact eT rfl)) (by (exact eT rfl)) (by (repeat (first|exact Split.here|apply Split.cons))) hr hfr (by omega) (fun w' hh => SrcAt.slice (CellsAt.own hh.ownI (fun j u hj => by rw [List.getElem?_toArray]; exact hj)) rfl rfl (fun v hv => by simp [strC] at hv; subst hv; rfl)) rfl (by omega) rfl rfl rfl rfl ?_;intro r2 hr2 hfr2;have hrow2 := RowS.drop (xs := flatS l ++ (strC x1).toList) (T := 9) hfr2))
      have hgo : moreP read en (l ++ [x1]) q1 = M := by rw [← hinv, moreP_go hd, hn1]
      obtain ⟨t1, he1, -, -⟩ := nameP_ok hn1
      cases he1
      have hl1 : (l ++ [x1]).length = l.length + 1 := by simp
      rw [flatS_snoc] at hr2 hrow2 ⊢
      rw [← hl1] at hr2 ⊢
      exact ⟨(r2, s1, l ++ [x1], q), ⟨hgo, hT1, hr2, hfr2, by show (l ++ [x1]).length + q.length ≤ 1000000; rw [hl1]; simp only [List.length_cons] at hB; omega⟩, by simp, (by (repeat (first|exact ESub.nil|apply ESub.cons rfl))), rfl, (by (repeat (first|exact HKeep.refl|(apply HKeep.app;(·(repeat (exact Split.here))))|(apply HKeep.pick;(·(repeat (first|exact Rem.here|apply Rem.there|apply Rem.app))))|apply HKeep.drop (by first|assumption|omega))))⟩
end Go.Proofs.Ytfdjlphfohnnnaa
/-
  Contracts of the parser: a slot.
-/
namespace Go.Proofs.Ytfdjlphfohnnnaa
open Go.RowKit Go.Sy
set_option linter.unusedVariables false
set_option linter.unusedSimpArgs false
theorem CatIn.up {R R' : Heap} {k : Sl} {ks : List KindR} (h : CatIn R k ks) (hs : ∀ p ∈ R, p ∈ R') : CatIn R' k ks := fun w hw => h w (hw.sub hs)
def SlotsIn (R : Heap) (s : Sl) (ss : List SlotR) : Prop := ∀ w, Holds R w → RdS w w.heap.size 3 SlotR.cells s.a s.n ss
theorem moreP_cnt {read : List PKind} {en : Int} : ∀ (ts : List Tk) (l : List ByteArray) {l' : List ByteArray} {r : List Tk}, moreP read en l ts = .ok (l', r) → l'.length + r.length = l.length + ts.length
  | [], l, l', r, h => by simp only [moreP] at h; cases h; rfl
  | t :: q, l, l', r, h => by
    simp only [moreP] at h
    split at h
    · split at h
      · have := moreP_cnt q _ h
        simp only [List.length_append, List.length_cons, List.length_nil] at this ⊢; omega
      · cases h
    · cases h; rfl
theorem kindsP_cnt {read : List PKind} {en : Int} {l l' : List ByteArray} {ts r : List Tk} (h : kindsP read en l ts = .ok (l', r)) : l'.length + r.length = l.length + ts.length := by
  unfold kindsP at h
  split at h
  · cases h
  · rename_i x q hn
    obtain ⟨t, rfl, -, -⟩ := nameP_ok hn
    have h2 := moreP_cnt _ _ h
    simp only [List.length_append, List.length_cons, List.length_nil] at h2 ⊢; omega
theorem wantP_ok {s : ByteArray} {en : Int} {ts r : List Tk} (h : wantP s en ts = .ok r) : ∃ t, ts = t :: r := by
  unfold wantP at h
  split at h
  · rename_i hi
    cases ts with
    | nil => cases hi
    | cons t q => cases h; exact ⟨t, rfl⟩
  · cases h
def slR (r : RowS) (n : Nat) : Sl := ⟨r.g.map fun g => ⟨g, 0, none⟩, n, r.cap⟩
attribute [local irreducible] Calls thenQ blockQ retQ retFQ Spc Spl Spq Ex Ev Evs Gd Upd ESub HKeep Res Res1 wlk effQ wlkT effT wlkP effP Rem SrcAt Split
set_option maxRecDepth 100000 in
set_option maxHeartbeats 8000000 in
theorem slot_c {Be : Nat} {w0 w : World} {gp : Nat} {s k sl : Sl} {en : Int} {R R0 : Heap} {ts : List Tk} {ks : List KindR} {ss : List SlotR} {nm : ByteArray} {v : Bool} (hT : TokIn R0 s ts) (h0 : ∀ p ∈ R0, p ∈ R) (hC : CatIn R k ks) (hS : SlotsIn R sl ss) (hg : w0.heap.size ≤ gp) (hB : ts.length ≤ 1000000)
    (hh : Hp Be w0 (PB gp s en k :: R) w) :
    Calls Try.prog 62 #[.pointer (some ⟨gp, 0, none⟩), .agg #[.string nm, .bool v, .slice sl.a sl.n sl.c]] w (RetF Be w0 (fun y : (RowS × SlotR) × Sl × List Tk => .agg y.1.2.cells) (fun y => PB gp y.2.1 en k :: (y.1.1.hp (flatS y.1.2.kinds) 9 ++ R))
      (fun y => slotP (ks.map KindR.pure) en (ss.map (·.name)) ts = .ok (y.1.2.pure, y.2.2) ∧ TokIn R0 y.2.1 y.2.2 ∧ y.1.2.ks = slR y.1.1 y.1.2.kinds.length ∧ y.1.1.ok 1 y.1.2.kinds.length (flatS y.1.2.kinds) ∧ y.1.1.fresh w0.heap.size) (fun ch => ∃ e, slotP (ks.map KindR.pure) en (ss.map (·.name)) ts = .error e ∧ ch = panE e) R) := by
  obtain ⟨read, hread⟩ : ∃ q, q = ks.map KindR.pure := ⟨_, rfl⟩
  rw [← hread]
  obtain ⟨M, hM⟩ : ∃ M, M = slotP read en (ss.map (·.name)) ts := ⟨_, rfl⟩
  rw [← hM]
  refine sp_enterF (vs := [_, _]) Try.func62 rfl Try.ntmps62 rfl hh ?_
  unfold PB
  repeat (first|(apply spl_callh (X:=Nat × Nat × Nat) rfl;(·(repeat (first|exact eN|(apply eS;(·(first|exact eT rfl|exact eC|exact eF))))));(·exact fun w' hh => fresh_slot (most:=12));(rintro ⟨g1, g2, g3⟩ - hfr_;have hg1 : w0.heap.size ≤ g1 := hfr_ (g1, _) (.tail _ (.tail _ (.head _)));have hg2 : w0.heap.size ≤ g2 := hfr_ (g2, _) (.head _);have hg3 : w0.heap.size ≤ g3 := hfr_ (g3, _) (.tail _ (.head _));simp only [List.cons_append, List.nil_append]))|(apply spl_callF (X:=Sl × ByteArray × List Tk) (V:=fun y => .string y.2.1) (A:=[PB gp s en k]) (AA:=fun y => [PB gp y.1 en k]) (I:=fun y => nameP (freshC (ss.map (·.name)) 12) en ts = .ok y.2 ∧ TokIn R0 y.1 y.2.2) (F:=fun ch => ∃ e, nameP (freshC (ss.map (·.name)) 12) en ts = .error e ∧ ch = panE e) rfl;(·(repeat (first|exact eN|(apply eS;(·(first|exact eT rfl|exact eC))))));(·(repeat (first|exact Split.one|apply Split.cons|apply Split.app)));(·(simp only [List.cons_append, List.nil_append];exact fun w' hh => name_c (cap:=[_, _, _]) hT (fun p hp => InSub.sub p (h0 p hp)) hg (fun t q he hk w1 hh1 => freshC_slot (most:=12) (hS w1 hh1.holds) hh1.ownI hh1.ownI hh1.ownI) hh));(·(rintro ch ⟨e_, he_, hch_⟩;(repeat (apply then_p));exact retF_pan ⟨e_, (by rw [hM]; unfold slotP; rw [he_]), hch_⟩ (by (repeat (first|exact HKeep.refl|apply HKeep.drop (by first|assumption|omega))))));(rintro ⟨s1, x1, q1⟩ ⟨hn1, hT1⟩;dsimp only at hn1 hT1;simp only [List.cons_append, List.nil_append];unfold PB))|(apply spl_callF (X:=Sl × List Tk) (V:=fun y => .tuple #[]) (A:=[PB gp s1 en k]) (AA:=fun y => [PB gp y.1 en k]) (I:=fun y => wantP colon en q1 = .ok y.2 ∧ TokIn R0 y.1 y.2) (F:=fun ch => ∃ e, wantP colon en q1 = .error e ∧ ch = panE e) rfl;(·(repeat (first|exact eN|(apply eS;(·(first|exact eT rfl|exact eC))))));(·(repeat (first|exact Split.one|apply Split.cons|apply Split.app)));(·(simp only [List.cons_append, List.nil_append];exact fun w' hh => want_c (x:=colon) hT1 (fun p hp => InSub.sub p (h0 p hp)) hg hh));(·(rintro ch ⟨e_, he_, hch_⟩;(repeat (apply then_p));exact retF_pan ⟨e_, (by rw [hM]; unfold slotP; simp only [hn1, he_]), hch_⟩ (by (repeat (first|exact HKeep.refl|apply HKeep.drop (by first|assumption|omega))))));(rintro ⟨s2, q2⟩ ⟨hn2, hT2⟩;dsimp only at hn2 hT2;simp only [List.cons_append, List.nil_append];unfold PB))|(apply spl_callF (X:=RowS × Sl × List ByteArray × List Tk) (V:=fun y => y.1.val y.2.2.1.length) (A:=[PB gp s2 en k]) (AA:=fun y => PB gp y.2.1 en k :: y.1.hp (flatS y.2.2.1) 9) (I:=fun y => kindsP read en [] q2 = .ok y.2.2 ∧ TokIn R0 y.2.1 y.2.2.2 ∧ y.1.ok 1 y.2.2.1.length (flatS y.2.2.1) ∧ y.1.fresh w0.heap.size) (F:=fun ch => ∃ e, kindsP read en [] q2 = .error e ∧ ch = panE e) rfl;(·(repeat (first|exact eN|(apply eS;(·(first|exact eT rfl|exact eC))))));(·(repeat (first|exact Split.one|apply Split.cons|apply Split.app)));(·(rw [hread];simp only [List.cons_append, List.nil_append];exact fun w' hh => kinds_c (r:=RowS.start) (l:=[]) hT2 (fun p hp => InSub.sub p (h0 p hp)) (hC.up (fun p hp => InSub.sub p hp)) hg RowS.ok_start RowS.fresh_start (by have := nameP_len hn1; have := wantP_len hn2; simp only [List.length_nil]; omega) hh));(·(rintro ch ⟨e_, he_, hch_⟩;(repeat (apply then_p));exact retF_pan ⟨e_, (by rw [hM]; unfold slotP; simp only [hn1, hn2, he_]), hch_⟩ (by (repeat (first|exact HKeep.refl|apply HKeep.drop (by first|assumption|omega))))));(rintro ⟨r3, s3, l3, q3⟩ ⟨hn3, hT3, hr3, hf3⟩;dsimp only at hn3 hT3 hr3 hf3;have hrow3 := RowS.drop (xs := flatS l3) (T := 9) hf3;simp only [List.cons_append, List.nil_append];unfold PB))|(apply spl_callM (X:=Sl) (V:=fun _ => .bool (isTk plus 4 q3)) (A:=[PB gp s3 en k]) (AA:=fun y => [PB gp y en k]) (I:=fun y => y = (if isTk plus 4 q3 then Sl.tail s3 else s3)) rfl;(·(repeat (first|exact eN|(apply eS;(·(first|exact eT rfl|exact eC))))));(·(repeat (exact Split.one)));(·(simp only [List.cons_append, List.nil_append];exact fun w' hh => skip_c (x:=plus) (kd:=4) (hT3.app (fun p hp => InSub.sub p (h0 p hp))) hh));(rintro s4 hs4;simp only [List.cons_append, List.nil_append];unfold PB))|apply then_n|apply sp_seq|apply sp_region|apply spl_nil|((apply spl_pure rfl);(·(first|((first|apply ex_move|apply ex_fieldAddr'|apply ex_len)<;>(exact eT rfl))|(apply ex_loadown<;>(first|exact eT rfl|exact Bk.own InH.mem|rfl))|(apply ex_build<;>(first|((repeat (first|exact eN|(apply eS;(·exact eT rfl))));done)|rfl)))))|(apply spl_box;(·exact eT rfl);(·rfl);intro _ _)|(apply spl_alloc rfl;intro _ _)|(apply spl_store1;(·exact eT rfl);(·exact eT rfl);(·rfl);(·(repeat (first|exact Upd.here|apply Upd.there|apply Upd.app)));(·rfl))|(apply spl_stores;(·exact eT rfl);(·exact eT rfl);(·(repeat (exact Upd.here)));(·(rfl));(·(rfl));(·exact ones_of_all rfl)))
  have hT4 := skip_in (x := plus) (kd := 4) hT3 hs4
  refine sp_cond (eT rfl) (fun hp => ?_) (fun hp => ?_)
  · have hsk : skipP plus 4 q3 = q3.tail := by unfold skipP; rw [if_pos hp]
    rw [hsk] at hT4
    have hB4 : l3.length + q3.tail.length ≤ 1000000 := by
      have h1 := nameP_len hn1
      have h2 := wantP_len hn2
      have h3 := kindsP_cnt hn3
      have h4 := isTk_tail hp
      simp only [List.length_nil] at h3
      omega
    repeat (first|(apply spl_callF (X:=RowS × Sl × List ByteArray × List Tk) (V:=fun y => y.1.val y.2.2.1.length) (A:=PB gp s4 en k :: r3.hp (flatS l3) 9) (AA:=fun y => PB gp y.2.1 en k :: y.1.hp (flatS y.2.2.1) 9) (I:=fun y => kindsP read en l3 q3.tail = .ok y.2.2 ∧ TokIn R0 y.2.1 y.2.2.2 ∧ y.1.ok 1 y.2.2.1.length (flatS y.2.2.1) ∧ y.1.fresh w0.heap.size) (F:=fun ch => ∃ e, kindsP read en l3 q3.tail = .error e ∧ ch = panE e) rfl;(·(repeat (first|exact eN|(apply eS;(·exact eT rfl)))));(·exact Split.here (A := PB gp s4 en k :: r3.hp (flatS l3) 9));(·(rw [hread];simp only [List.cons_append, List.nil_append];exact fun w' hh => kinds_c (r:=r3) (l:=l3) hT4 (fun p hp => InSub.sub p (h0 p hp)) (hC.up (fun p hp => InSub.sub p hp)) hg hr3 hf3 hB4 hh));(·(rintro ch ⟨e_, he_, hch_⟩;(repeat (apply then_p));exact retF_pan ⟨e_, (by rw [hM]; unfold slotP; simp only [hn1, hn2, hn3, hp, if_true, he_]), hch_⟩ (by (repeat (first|exact HKeep.refl|apply HKeep.drop (by first|assumption|omega))))));(rintro ⟨r5, s5, l5, q5⟩ ⟨hn5, hT5, hr5, hf5⟩;dsimp only at hn5 hT5 hr5 hf5;have hrow5 := RowS.drop (xs := flatS l5) (T := 9) hf5;simp only [List.cons_append, List.nil_append];unfold PB))|apply then_n|apply sp_seq|apply sp_region|apply spl_nil|apply sp_ret|((apply spl_pure rfl);(·(first|((first|apply ex_move|apply ex_fieldAddr')<;>(exact eT rfl))|(apply ex_loadown<;>(first|exact eT rfl|exact Bk.own InH.mem|rfl))|(apply ex_loadowns<;>(first|exact eT rfl|exact Bk.own InH.mem|(rfl))))))|(apply spl_store1;(·exact eT rfl);(·exact eT rfl);(·rfl);(·(repeat (first|exact Upd.here|apply Upd.there|apply Upd.app)));(·rfl))|(apply spl_stores;(·exact eT rfl);(·exact eT rfl);(·(repeat (first|exact Upd.here|apply Upd.there|apply Upd.app)));(·(rfl));(·(rfl));(·exact ones_of_all rfl)))
    have hM2 : M = .ok (⟨x1, l5, l3.length⟩, q5) := by rw [hM]; unfold slotP; simp only [hn1, hn2, hn3, hp, if_true, hn5]
    (apply retF_ok rfl;(·((apply Res.ofOne;((apply Res1.cell;(·rfl);(·exact InH.mem);(·(rfl))))))))
    exact ⟨((r5, ⟨x1, slR r5 l5.length, (l3.length : Int), l5⟩), s5, q5), rfl, ⟨hM2, hT5, rfl, hr5, hf5⟩, by (repeat (first|exact HKeep.refl|apply HKeep.keep|(apply HKeep.app;(·(repeat (exact Split.here))))|apply HKeep.drop (by first|assumption|omega)))⟩
  · have hsk : skipP plus 4 q3 = q3 := by unfold skipP; rw [if_neg (by rw [hp]; simp)]
    rw [hsk] at hT4
    have hM2 : M = .ok (⟨x1, l3, l3.length⟩, q3) := by rw [hM]; unfold slotP; simp only [hn1, hn2, hn3, hp, Bool.false_eq_true, if_false]
    repeat (first|apply then_n|apply sp_seq|apply sp_region|apply spl_nil|apply sp_skip|apply sp_ret|((apply spl_pure rfl);(·((apply ex_loadowns<;>(first|exact eT rfl|exact Bk.own InH.mem|(rfl))))))|(apply spl_stores;(·exact eT rfl);(·exact eT rfl);(·(repeat (first|exact Upd.here|apply Upd.there|apply Upd.app)));(·(rfl));(·(rfl));(·exact ones_of_all rfl)))
    (apply retF_ok rfl;(·((apply Res.ofOne;((apply Res1.cell;(·rfl);(·exact InH.mem);(·(rfl))))))))
    exact ⟨((r3, ⟨x1, slR r3 l3.length, (l3.length : Int), l3⟩), s4, q3), rfl, ⟨hM2, hT4, rfl, hr3, hf3⟩, by (repeat (first|exact HKeep.refl|apply HKeep.keep|(apply HKeep.app;(·(repeat (exact Split.here))))|apply HKeep.drop (by first|assumption|omega)))⟩
end Go.Proofs.Ytfdjlphfohnnnaa
/-
  Contracts of the parser: a kind.
-/
namespace Go.Proofs.Ytfdjlphfohnnnaa
open Go.RowKit Go.Sy
set_option linter.unusedVariables false
set_option linter.unusedSimpArgs false
theorem RdS.ofRowW {α : Type} {w : World} {sz : Nat} {C : α → Array Value} {n : Nat} {xs : List α} {r : RowS} {T : TypeId} (h : Holds (r.hp (xs.flatMap fun x => (C x).toList) T) w) (hl : xs.length = n) (hn : n ≤ 9223372036854775807) (hs : ∀ x ∈ xs, (C x).size = sz)
    (hok : r.ok sz n (xs.flatMap fun x => (C x).toList)) : RdS w w.heap.size sz C (r.g.map fun g => ⟨g, 0, none⟩) n xs := by
  rcases r with ⟨_ | g, cap, tail⟩
  · obtain ⟨h1, -, -⟩ := hok
    subst h1
    obtain rfl := List.eq_nil_of_length_eq_zero hl
    exact RdS.none_
  · have h1 := h _ (.head _)
    exact RdS.ofRow h1 (Array.getElem?_eq_some_iff.1 h1).1 hl hn hs
theorem RowS.le {r : RowS} {size n : Nat} {xs : List Value} (h : r.ok size n xs) : n ≤ r.cap := by
  rcases r with ⟨_ | g, cap, tail⟩
  · obtain ⟨h1, -, -⟩ := h; rw [h1]; exact Nat.zero_le _
  · exact h.1
def flatK (ss : List SlotR) : List Value := ss.flatMap fun x => x.cells.toList
theorem flatK_snoc (l : List SlotR) (x : SlotR) : flatK l ++ x.cells.toList = flatK (l ++ [x]) := by simp [flatK]
/-- The kinds of the slots, in their own rows. -/
def InnerIn (HI : Heap) (ss : List SlotR) : Prop := ∀ w, Holds HI w → ∀ x ∈ ss, RdS w w.heap.size 1 strC x.ks.a x.ks.n x.kinds ∧ x.ks.n ≤ x.ks.c
theorem InnerIn.nil : InnerIn [] [] := fun w _ x hx => by cases hx
theorem InnerIn.snoc {HI : Heap} {ss : List SlotR} {x : SlotR} {r : RowS} (h : InnerIn HI ss) (hk : x.ks = slR r x.kinds.length) (hn : x.kinds.length ≤ 1000000) (hok : r.ok 1 x.kinds.length (flatS x.kinds)) : InnerIn (r.hp (flatS x.kinds) 9 ++ HI) (ss ++ [x]) := by
  intro w hw y hy
  rcases List.mem_append.1 hy with hy | hy
  · exact h w (hw.sub fun p hp => List.mem_append.2 (.inr hp)) y hy
  · rw [List.mem_singleton] at hy
    subst hy
    rw [hk]
    refine ⟨?_, RowS.le hok⟩
    have hb : (slR r y.kinds.length).n ≤ 9223372036854775807 := by show y.kinds.length ≤ _; omega
    exact RdS.ofRowW (xs := y.kinds) (fun p hp => hw p (List.mem_append.2 (.inl hp))) rfl hb (fun _ _ => rfl) hok
/-- A kind with its own blocks. -/
def KindOwn (HK : Heap) (k : KindR) : Prop := ∀ w, Holds HK w → RdSlots w w.heap.size k.ss k.slots
theorem names_pure (ks : List KindR) : (ks.map KindR.pure).map (·.name) = ks.map (·.name) := by rw [List.map_map]; rfl
theorem snames_pure (ss : List SlotR) : (ss.map SlotR.pure).map (·.name) = ss.map (·.name) := by rw [List.map_map]; rfl
def FreshH (b : Nat) (H : Heap) : Prop := ∀ p ∈ H, b ≤ p.1
theorem FreshH.app {b : Nat} {H H' : Heap} (h : FreshH b H) (h' : FreshH b H') : FreshH b (H ++ H') := fun p hp => (List.mem_append.1 hp).elim (h p) (h' p)
theorem slotP_cnt {read : List PKind} {en : Int} {names : List ByteArray} {ts r : List Tk} {s : PSlot} (h : slotP read en names ts = .ok (s, r)) : s.kinds.length ≤ ts.length := by
  unfold slotP at h
  split at h
  · cases h
  · rename_i h1
    split at h
    · cases h
    · rename_i h2
      split at h
      · cases h
      · rename_i h3
        have q1 := nameP_len h1
        have q2 := wantP_len h2
        have q3 := kindsP_cnt h3
        simp only [List.length_nil] at q3
        split at h
        · rename_i hp
          have q4 := isTk_tail hp
          split at h
          · cases h
          · rename_i h5
            have q5 := kindsP_cnt h5
            cases h
            simp only
            omega
        · cases h
          simp only
          omega
theorem slotsP_err {read : List PKind} {en : Int} {f : Nat} {ss : List PSlot} {ts : List Tk} {e : PE} (h : slotP read en (ss.map (·.name)) ts = .error e) : slotsP read en (f + 1) ss ts = .error e := by simp only [slotsP]; rw [h]
theorem slotsP_ok {read : List PKind} {en : Int} {f : Nat} {ss : List PSlot} {ts r : List Tk} {s : PSlot} (h : slotP read en (ss.map (·.name)) ts = .ok (s, r)) : slotsP read en (f + 1) ss ts = if isTk semi 4 r then slotsP read en f (ss ++ [s]) r.tail else .ok (ss ++ [s], r) := by simp only [slotsP]; rw [h]
attribute [local irreducible] Calls thenQ blockQ retQ retFQ Spc Spl Spq Ex Ev Evs Gd Upd ESub HKeep Res Res1 wlk effQ wlkT effT wlkP effP Rem SrcAt Split
set_option maxRecDepth 100000 in
set_option maxHeartbeats 8000000 in
theorem kind_c {Be : Nat} {w0 w : World} {gp : Nat} {s k : Sl} {en : Int} {R R0 : Heap} {ts : List Tk} {ks : List KindR} (hT : TokIn R0 s ts) (h0 : ∀ p ∈ R0, p ∈ R) (hC : CatIn R k ks) (hg : w0.heap.size ≤ gp) (hB : ts.length ≤ 1000000)
    (hh : Hp Be w0 (PB gp s en k :: R) w) :
    Calls Try.prog 35 #[.pointer (some ⟨gp, 0, none⟩)] w (RetF Be w0 (fun y : (Heap × KindR) × Sl × List Tk => .agg y.1.2.cells) (fun y => PB gp y.2.1 en k :: (y.1.1 ++ R))
      (fun y => kindP (ks.map KindR.pure) en ts = .ok (y.1.2.pure, y.2.2) ∧ TokIn R0 y.2.1 y.2.2 ∧ KindOwn y.1.1 y.1.2 ∧ FreshH w0.heap.size y.1.1) (fun ch => ∃ e, kindP (ks.map KindR.pure) en ts = .error e ∧ ch = panE e) R) := by
  obtain ⟨read, hread⟩ : ∃ q, q = ks.map KindR.pure := ⟨_, rfl⟩
  have hnames : read.map (·.name) = ks.map (·.name) := by rw [hread]; exact names_pure ks
  rw [← hread]
  obtain ⟨M, hM⟩ : ∃ M, M = kindP read en ts := ⟨_, rfl⟩
  rw [← hM]
  have hw0 : Holds R w := hh.holds
  refine sp_enterF (vs := [_]) Try.func35 rfl Try.ntmps35 rfl hh ?_
  unfold PB
  repeat (first|(apply spl_callM (X:=Sl) (V:=fun _ => .bool (isTk wVehicle 1 ts)) (A:=[PB gp s en k]) (AA:=fun y => [PB gp y en k]) (I:=fun y => y = (if isTk wVehicle 1 ts then Sl.tail s else s)) rfl;(·(repeat (first|exact eN|(apply eS;(·(first|exact eT rfl|exact eC))))));(·(repeat (first|exact Split.one|apply Split.cons)));(·(simp only [List.cons_append, List.nil_append];exact fun w' hh => skip_c (x:=wVehicle) (kd:=1) (hT.app (fun p hp => InSub.sub p (h0 p hp))) hh));(rintro s1 hs1;simp only [List.cons_append, List.nil_append];unfold PB))|(have hz1 := hs1;clear hs1;rename_i g2 hg2;refine spc_cut (X := Sl × Bool × List Tk) (fun x => [(3, true, .bool x.2.1), (0, true, .pointer (some ⟨gp, 0, none⟩)), (2, true, .pointer (some ⟨g2, 0, none⟩))]) (fun x => (gp, .cells #[.slice x.1.a x.1.n x.1.c, .int .i64 en, .slice k.a k.n k.c] 71 (0, 0)) :: (g2, .cells KindR.zero.cells 34 (0, 0)) :: R) (fun x => headP en ts = .ok x.2 ∧ TokIn R0 x.1 x.2.2) ?_ ?_)|apply then_n|apply sp_seq|apply sp_region|apply spl_nil|((first|apply spl_pure rfl|(apply spl_pure_g rfl;(·exact Gd.tt rfl rfl)));(·(((first|apply ex_move|apply ex_assign|apply ex_not)<;>(exact eT rfl)))))|(apply spl_alloc rfl;intro _ _))
  · have hs1 := hz1
    have hT1 := skip_in (x := wVehicle) (kd := 1) hT hs1
    cases hv : isTk wVehicle 1 ts with
    | true =>
      have hq : skipP wVehicle 1 ts = ts.tail := by unfold skipP; rw [if_pos hv]
      rw [hq] at hT1
      repeat (first|apply then_n|apply spl_nil|(apply sp_cond_f;(·exact eT rfl);(·(rfl)))|apply sp_skip|((first|apply spl_pure rfl|(apply spl_pure_g rfl;(·exact Gd.tt rfl rfl)));(·(((first|apply ex_not|apply ex_andT)<;>(first|exact eT rfl|exact eG rfl)))))|(apply spl_guard_f;(·exact Gd.tt rfl rfl);(·rfl);(·rfl)))
      exact ⟨(s1, true, ts.tail), ⟨by unfold headP; rw [if_pos hv], hT1⟩, by (repeat (first|exact ESub.nil|apply ESub.cons rfl)), rfl, by (repeat (exact HKeep.refl))⟩
    | false =>
      rw [if_neg (by rw [hv]; simp)] at hs1
      subst hs1
      cases hk : isTk wKind 1 ts with
      | true =>
        repeat (first|(apply sp_cond_f;(·exact eT rfl);(·(rw [hk];rfl)))|(apply spl_callM (X:=Sl) (V:=fun _ => .bool (isTk wKind 1 ts)) (A:=[PB gp s1 en k]) (AA:=fun y => [PB gp y en k]) (I:=fun y => y = (if isTk wKind 1 ts then Sl.tail s1 else s1)) rfl;(·(repeat (first|exact eN|(apply eS;(·(first|exact eT rfl|exact eC))))));(·(repeat (exact Split.one)));(·(simp only [List.cons_append, List.nil_append];exact fun w' hh => skip_c (x:=wKind) (kd:=1) (hT.app (fun p hp => InSub.sub p (h0 p hp))) hh));(rintro s3 hs3;simp only [List.cons_append, List.nil_append];unfold PB))|apply then_n|apply spl_nil|apply sp_skip|((first|apply spl_pure rfl|(apply spl_pure_g rfl;(·exact Gd.tt rfl rfl)));(·(((first|apply ex_not|apply ex_andT)<;>(exact eT rfl)))))|(apply spl_guard_t;(·exact Gd.tt rfl rfl);(·rfl)))
        have hT3 := skip_in (x := wKind) (kd := 1) hT hs3
        have hq : skipP wKind 1 ts = ts.tail := by unfold skipP; rw [if_pos hk]
        rw [hq] at hT3
        exact ⟨(s3, false, ts.tail), ⟨by unfold headP; rw [if_neg (by rw [hv]; simp), if_pos hk], hT3⟩, by (repeat (first|exact ESub.nil|apply ESub.cons rfl)), rfl, by (repeat (exact HKeep.refl))⟩
      | false =>
        have herr : M = .error (failP ts en 8) := by rw [hM]; unfold kindP headP; rw [if_neg (by rw [hv]; simp), if_neg (by rw [hk]; simp)]
        repeat (first|(apply sp_cond_t;(·exact eT rfl);(·(rw [hk];rfl)))|(apply spl_callM (X:=Sl) (V:=fun _ => .bool (isTk wKind 1 ts)) (A:=[PB gp s1 en k]) (AA:=fun y => [PB gp y en k]) (I:=fun y => y = (if isTk wKind 1 ts then Sl.tail s1 else s1)) rfl;(·(repeat (first|exact eN|(apply eS;(·(first|exact eT rfl|exact eC))))));(·(repeat (exact Split.one)));(·(simp only [List.cons_append, List.nil_append];exact fun w' hh => skip_c (x:=wKind) (kd:=1) (hT.app (fun p hp => InSub.sub p (h0 p hp))) hh));(rintro s3 hs3;(replace hs3 : s3 = s1 := by rw [hs3, if_neg (by rw [hk]; simp)]);subst hs3;simp only [List.cons_append, List.nil_append];unfold PB))|(apply spl_callF (X:=Empty) (V:=fun _ => .tuple #[]) (I:=fun _ => True) (A:=[PB gp s3 en k]) (AA:=fun _ => [PB gp s3 en k]) rfl;(·(repeat (first|exact eN|(apply eS;(·(first|exact eT rfl|exact eC))))));(·(repeat (exact Split.one)));(·(simp only [List.cons_append, List.nil_append];exact fun w' hh => fail_c (hT.app (fun p hp => InSub.sub p (h0 p hp))) hg hh));(·(intro ch hch;(repeat (apply then_p));exact retF_pan ⟨_, herr, hch⟩ (by (repeat (first|exact HKeep.refl|apply HKeep.drop (by first|assumption|omega))))));(intro y_;exact y_.elim))|apply then_n|apply sp_region|apply spl_nil|((first|apply spl_pure rfl|(apply spl_pure_g rfl;(·exact Gd.tt rfl rfl)));(·(((first|apply ex_move|apply ex_not|apply ex_andT)<;>(exact eT rfl)))))|(apply spl_guard_t;(·exact Gd.tt rfl rfl);(·rfl)))
  · rintro ⟨s1, v, q1⟩ ⟨hn1, hT1⟩
    dsimp only at hn1 hT1 ⊢
    repeat (first|(apply spl_callh (X:=Nat × Nat × Nat) rfl;(·(repeat (first|exact eN|(apply eS;(·(first|exact eT rfl|exact eC|exact eF))))));(·exact fun w' hh => fresh_kind (most:=60));(rintro ⟨f1, f2, f3⟩ - hfr_;have hf1 : w0.heap.size ≤ f1 := hfr_ (f1, _) (.tail _ (.tail _ (.head _)));have hf2 : w0.heap.size ≤ f2 := hfr_ (f2, _) (.head _);have hf3 : w0.heap.size ≤ f3 := hfr_ (f3, _) (.tail _ (.head _));simp only [List.cons_append, List.nil_append]))|(apply spl_callF (X:=Sl × ByteArray × List Tk) (V:=fun y => .string y.2.1) (A:=[PB gp s1 en k]) (AA:=fun y => [PB gp y.1 en k]) (I:=fun y => nameP (freshC (ks.map (·.name)) 60) en q1 = .ok y.2 ∧ TokIn R0 y.1 y.2.2) (F:=fun ch => ∃ e, nameP (freshC (ks.map (·.name)) 60) en q1 = .error e ∧ ch = panE e) rfl;(·(repeat (first|exact eN|(apply eS;(·(first|exact eT rfl|exact eC))))));(·(repeat (first|exact Split.one|apply Split.cons)));(·(simp only [List.cons_append, List.nil_append];exact fun w' hh => name_c (cap:=[_, _, _]) hT1 (fun p hp => InSub.sub p (h0 p hp)) hg (fun t q he hk w1 hh1 => freshC_kind (most:=60) (hC w1 hh1.holds).1 hh1.ownI hh1.ownI hh1.ownI) hh));(·(rintro ch ⟨e_, he_, hch_⟩;(repeat (apply then_p));exact retF_pan ⟨e_, (by rw [hM]; unfold kindP; simp only [hn1, hnames, he_]), hch_⟩ (by (repeat (first|exact HKeep.refl|apply HKeep.drop (by first|assumption|omega))))));(rintro ⟨s2, nm, q2⟩ ⟨hn2, hT2⟩;dsimp only at hn2 hT2;simp only [List.cons_append, List.nil_append];unfold PB))|(have hz2 := hn2;clear hn2;rename_i g4 hg4;refine spc_cut (X := (Heap × KindR) × Sl × List Tk) (fun x => [(4, true, .pointer (some ⟨g4, 0, none⟩)), (0, true, .pointer (some ⟨gp, 0, none⟩)), (2, true, .pointer (some ⟨g2, 0, none⟩))]) (fun x => (gp, .cells #[.slice x.2.1.a x.2.1.n x.2.1.c, .int .i64 en, .slice k.a k.n k.c] 71 (0, 0)) :: (g4, .cells x.1.2.cells 34 (0, 0)) :: (x.1.1 ++ (g2, .cells KindR.zero.cells 34 (0, 0)) :: R)) (fun x => bodyP read en q2 = .ok (x.1.2.slots.map SlotR.pure, x.2.2) ∧ TokIn R0 x.2.1 x.2.2 ∧ KindOwn x.1.1 x.1.2 ∧ FreshH w0.heap.size x.1.1 ∧ x.1.2.name = nm ∧ x.1.2.vehicle = v) ?_ ?_)|apply then_n|apply sp_seq|apply sp_region|apply spl_nil|((apply spl_pure rfl);(·(first|((first|apply ex_move|apply ex_fieldAddr'|apply ex_nilCheck)<;>(exact eT rfl))|(apply ex_loadown<;>(first|exact eT rfl|exact Bk.own InH.mem|rfl))|(apply ex_build<;>(first|((repeat (first|exact eN|(apply eS;(·exact eT rfl))));done)|rfl)))))|(apply spl_alloc rfl;intro _ _)|(apply spl_stores;(·exact eT rfl);(·exact eT rfl);(·(repeat (exact Upd.here)));(·(rfl));(·(rfl));(·exact ones_of_all rfl)))
    · have hn2 := hz2
      have hME : ∀ e, bodyP read en q2 = .error e → M = .error e := by intro e h; rw [hM]; unfold kindP; simp only [hn1, hnames, hn2, h]
      have hB2 : q2.length ≤ 1000000 := by
        have h1 := nameP_len hn2
        have h2 : q1.length ≤ ts.length := by
          unfold headP at hn1
          split at hn1
          · cases hn1; simp
          · split at hn1
            · cases hn1; simp
            · cases hn1
        omega
      cases hp : isTk lpar 4 q2 with
      | false =>
        repeat (first|(apply sp_cond_f;(·exact eT rfl);(·rw [hp]))|(apply spl_callM (X:=Sl) (V:=fun _ => .bool (isTk lpar 4 q2)) (A:=[PB gp s2 en k]) (AA:=fun y => [PB gp y en k]) (I:=fun y => y = (if isTk lpar 4 q2 then Sl.tail s2 else s2)) rfl;(·(repeat (first|exact eN|(apply eS;(·(first|exact eT rfl|exact eC))))));(·(repeat (first|exact Split.one|apply Split.cons)));(·(simp only [List.cons_append, List.nil_append];exact fun w' hh => skip_c (x:=lpar) (kd:=4) (hT2.app (fun p hp => InSub.sub p (h0 p hp))) hh));(rintro s3 hs3;simp only [List.cons_append, List.nil_append];unfold PB))|apply then_n|apply spl_nil|apply sp_skip)
        have hT3 := skip_in (x := lpar) (kd := 4) hT2 hs3
        have hq : skipP lpar 4 q2 = q2 := by unfold skipP; rw [if_neg (by rw [hp]; simp)]
        rw [hq] at hT3
        exact ⟨(([], ⟨nm, v, ⟨none, 0, 0⟩, []⟩), s3, q2), ⟨by unfold bodyP; rw [if_neg (by rw [hp]; simp)]; rfl, hT3, fun w _ => ⟨RdS.none_, fun x hx => by cases hx⟩, (fun p hp => by cases hp), rfl, rfl⟩, by (repeat (first|exact ESub.nil|apply ESub.cons rfl)), rfl, by simp only [List.nil_append]; (repeat (first|exact HKeep.refl|apply HKeep.keep|(apply HKeep.pick;(·(repeat (first|exact Rem.here|apply Rem.there))))|apply HKeep.drop (by first|assumption|omega)))⟩
      | true =>
        obtain ⟨Fin, hFin⟩ : ∃ F, F = slotsP read en q2.length [] q2.tail := ⟨_, rfl⟩
        have hBE : ∀ e, Fin = .error e → bodyP read en q2 = .error e := by intro e h; unfold bodyP; rw [if_pos hp, ← hFin, h]
        have hBW : ∀ ss r e, Fin = .ok (ss, r) → wantP rpar en r = .error e → bodyP read en q2 = .error e := by intro ss r e h h'; unfold bodyP; rw [if_pos hp, ← hFin, h]; simp only [h']
        have hBK : ∀ ss r r', Fin = .ok (ss, r) → wantP rpar en r = .ok r' → bodyP read en q2 = .ok (ss, r') := by intro ss r r' h h'; unfold bodyP; rw [if_pos hp, ← hFin, h]; simp only [h']
        have hl2 : q2.length = q2.tail.length + 1 := by
          cases q2 with
          | nil => cases hp
          | cons t q => rfl
        have herr0 : ∀ e, slotP read en (([] : List SlotR).map (·.name)) q2.tail = .error e → M = .error e := fun e he => hME e (hBE e (by rw [hFin, hl2]; exact slotsP_err (ss := []) he))
        have hS0 : ∀ {R' : Heap}, SlotsIn R' (slR RowS.start ([] : List SlotR).length) [] := fun w _ => RdS.none_
        repeat (first|(apply sp_cond_t;(·exact eT rfl);(·rw [hp]))|(apply spl_callM (X:=Sl) (V:=fun _ => .bool (isTk lpar 4 q2)) (A:=[PB gp s2 en k]) (AA:=fun y => [PB gp y en k]) (I:=fun y => y = (if isTk lpar 4 q2 then Sl.tail s2 else s2)) rfl;(·(repeat (first|exact eN|(apply eS;(·(first|exact eT rfl|exact eC))))));(·(repeat (first|exact Split.one|apply Split.cons)));(·(simp only [List.cons_append, List.nil_append];exact fun w' hh => skip_c (x:=lpar) (kd:=4) (hT2.app (fun p hp => InSub.sub p (h0 p hp))) hh));(rintro s3 hs3;simp only [List.cons_append, List.nil_append];unfold PB))|apply then_n|apply sp_seq|apply spl_nil)
        have hT3 := skip_in (x := lpar) (kd := 4) hT2 hs3
        have hq : skipP lpar 4 q2 = q2.tail := by unfold skipP; rw [if_pos hp]
        rw [hq] at hT3
        refine Spc.keep (H' := (gp, .cells #[.slice s3.a s3.n s3.c, .int .i64 en, .slice k.a k.n k.c] 71 (0, 0)) :: (g4, .cells #[.string nm, .bool v, .slice none 0 0] 34 (0, 0)) :: (g2, .cells KindR.zero.cells 34 (0, 0)) :: R) (by (repeat (first|exact HKeep.refl|apply HKeep.keep|(apply HKeep.pick;(·(repeat (first|exact Rem.here|apply Rem.there))))|apply HKeep.drop (by first|assumption|omega)))) ?_
        refine sp_drawnP (.rd 0 (.rd 1 (.rd 2 (.rd 3 (.ef 4 (.ef 5 (.ef 6 (.rd 7 (.ef 8 .nil))))))))) 8 [] ((g4, .cells #[.string nm, .bool v, .slice none 0 0] 34 (0, 0)) :: (g2, .cells KindR.zero.cells 34 (0, 0)) :: R) mixed (by kernel_rfl) rfl (by (repeat (first|exact HKeep.refl|(apply HKeep.pick;(·(repeat (first|exact Rem.here|apply Rem.there))))|apply HKeep.drop (by first|assumption|omega)))) ?_
        repeat (first|(apply spl_callF (X:=(RowS × SlotR) × Sl × List Tk) (V:=fun y => .agg y.1.2.cells) (A:=[PB gp s3 en k]) (AA:=fun y => PB gp y.2.1 en k :: y.1.1.hp (flatS y.1.2.kinds) 9) (I:=fun y => slotP read en (([] : List SlotR).map (·.name)) q2.tail = .ok (y.1.2.pure, y.2.2) ∧ TokIn R0 y.2.1 y.2.2 ∧ y.1.2.ks = slR y.1.1 y.1.2.kinds.length ∧ y.1.1.ok 1 y.1.2.kinds.length (flatS y.1.2.kinds) ∧ y.1.1.fresh w0.heap.size) (F:=fun ch => ∃ e, slotP read en (([] : List SlotR).map (·.name)) q2.tail = .error e ∧ ch = panE e) rfl;(·(repeat (first|exact eN|(apply eS;(·exact eT rfl)))));(·(repeat (exact Split.one)));(·(rw [hread];simp only [List.cons_append, List.nil_append];exact fun w' hh => slot_c (sl:=slR RowS.start ([] : List SlotR).length) hT3 (fun p hp => InSub.sub p (h0 p hp)) (hC.up (fun p hp => InSub.sub p hp)) hS0 hg (by omega) hh));(·(rintro ch ⟨e_, he_, hch_⟩;(repeat (first|apply then_p|(apply effp_p;(·(repeat (exact ESub.nil))))));exact retF_pan ⟨e_, herr0 e_ he_, hch_⟩ (by (repeat (first|exact HKeep.refl|apply HKeep.drop (by first|assumption|omega))))));(rintro ⟨⟨r5, x5⟩, s5, q5⟩ ⟨hn5, hT5, hk5, hr5, hf5⟩;dsimp only at hn5 hT5 hk5 hr5 hf5;have hrow5 := RowS.drop (xs := flatS x5.kinds) (T := 9) hf5;simp only [List.cons_append, List.nil_append];unfold PB))|((apply wlp_read rfl rfl);(·(first|((first|apply ex_move|apply ex_fieldAddr')<;>(exact eT rfl))|(apply ex_loadown<;>(first|exact eT rfl|exact Bk.own InH.mem|rfl))|(apply ex_loadowns<;>(first|exact eT rfl|exact Bk.own InH.mem|(rfl))))))|apply wlp_nil|apply wlp_eff rfl|(apply effp;(·(intro h_;(first|(exact absurd h_ (by decide))|(repeat (first|exact HKeep.refl|(apply HKeep.pick;(·(repeat (first|exact Rem.here|apply Rem.there|apply Rem.app))))|apply HKeep.drop (by first|assumption|omega)|apply HKeep.dropA (by assumption)))))))|apply then_n|apply sp_seq|apply spl_nil|apply sp_block|(apply spl_store1;(·exact eT rfl);(·exact eT rfl);(·rfl);(·(repeat (first|exact Upd.here|apply Upd.there|apply Upd.app)));(·rfl))|(apply spl_buildSlice rfl;(·rfl);(·(repeat (first|exact eN|(apply eS;(·exact eT rfl)))));(·rfl);(·rfl);(·rfl);intro _ _)|(refine spl_append_row (r := RowS.start) (n := 0) (xs := flatK ([] : List SlotR)) (news := x5.cells.toList) (m := 1) (by (exact eT rfl)) (by (exact eT rfl)) (Split.nilA) RowS.ok_start RowS.fresh_start (by omega) (fun w' hh => SrcAt.slice (CellsAt.own hh.ownI (fun j u hj => by rw [List.getElem?_toArray]; exact hj)) rfl rfl (fun u hu => (Ones.one : ∀ v ∈ x5.cells, v.oneCell' = true) u (by simpa using hu))) rfl (by omega) rfl rfl rfl rfl ?_;intro r2 hr2 hfr2;have hrow2 := RowS.drop (xs := flatK ([] : List SlotR) ++ x5.cells.toList) (T := 46) hfr2))
        have hin5 := (InnerIn.nil).snoc hk5 (by have := slotP_cnt hn5; simp only [SlotR.pure] at this; omega) hr5
        have hfh5 : FreshH w0.heap.size (r5.hp (flatS x5.kinds) 9 ++ []) := FreshH.app hrow5 (fun p hp => by cases hp)
        have hF0 : Fin = if isTk semi 4 q5 then slotsP read en q2.tail.length ([x5].map SlotR.pure) q5.tail else .ok ([x5].map SlotR.pure, q5) := by rw [hFin, hl2]; exact slotsP_ok (ss := []) hn5
        have hq5 : q5.length ≤ q2.tail.length := by have := slotP_len hn5; omega
        rw [flatK_snoc] at hr2 hrow2 ⊢
        simp only [List.nil_append] at hr2 hrow2 hin5 ⊢
        refine sp_loop (X := (RowS × Heap × List SlotR) × Sl × List Tk) (fun y => [(4, true, .pointer (some ⟨g4, 0, none⟩)), (0, true, .pointer (some ⟨gp, 0, none⟩)), (2, true, .pointer (some ⟨g2, 0, none⟩))]) (fun _ => w0)
          (fun y => (gp, .cells #[.slice y.2.1.a y.2.1.n y.2.1.c, .int .i64 en, .slice k.a k.n k.c] 71 (0, 0)) :: (g4, .cells #[.string nm, .bool v, y.1.1.val y.1.2.2.length] 34 (0, 0)) :: (y.1.1.hp (flatK y.1.2.2) 46 ++ (y.1.2.1 ++ (g2, .cells KindR.zero.cells 34 (0, 0)) :: R)))
          (fun y => (∃ f, y.2.2.length ≤ f ∧ Fin = if isTk semi 4 y.2.2 then slotsP read en f (y.1.2.2.map SlotR.pure) y.2.2.tail else .ok (y.1.2.2.map SlotR.pure, y.2.2)) ∧ TokIn R0 y.2.1 y.2.2 ∧ y.1.1.ok 3 y.1.2.2.length (flatK y.1.2.2) ∧ y.1.1.fresh w0.heap.size ∧ InnerIn y.1.2.1 y.1.2.2 ∧ FreshH w0.heap.size y.1.2.1 ∧ y.1.2.2.length + y.2.2.length ≤ 1000000) (fun y => y.2.2.length)
          ((r2, r5.hp (flatS x5.kinds) 9 ++ [], [x5]), s5, q5) ⟨⟨_, hq5, hF0⟩, hT5, hr2, hfr2, hin5, hfh5, by simp only [List.length_cons, List.length_nil]; omega⟩ (by (repeat (first|exact ESub.nil|apply ESub.cons rfl))) rfl (by simp only [List.append_nil, List.nil_append, List.length_cons, List.length_nil]; (repeat (first|exact HKeep.refl|(apply HKeep.app;(·(repeat (first|exact Split.here|apply Split.cons))))|(apply HKeep.pick;(·(repeat (first|exact Rem.here|apply Rem.there|apply Rem.app))))|apply HKeep.drop (by first|assumption|omega)))) ?_
        clear hr2 hfr2 hrow2 hin5 hfh5 hF0 hq5 hn5 hT5 hk5 hr5 hf5 hrow5
        clear r2 r5 x5 s5 q5
        rintro ⟨⟨r, HI, ss⟩, s, q⟩ ⟨⟨f, hqf, hF⟩, hT, hr, hfr, hIn, hfI, hB⟩
        dsimp only at hqf hF hT hr hfr hIn hfI hB ⊢
        have hrow := RowS.drop (xs := flatK ss) (T := 46) hfr
        have hfI' : ∀ p ∈ HI, w0.heap.size ≤ p.1 := hfI
        have hT6 := fun s8 (hs8 : s8 = if isTk semi 4 q then Sl.tail s else s) => skip_in (x := semi) (kd := 4) hT hs8
        cases hp8 : isTk semi 4 q with
        | false =>
          have hfin : Fin = .ok (ss.map SlotR.pure, q) := by rw [hF, if_neg (by rw [hp8]; simp)]
          repeat (first|(apply sp_cond_f;(·exact eT rfl);(·rw [hp8]))|(apply spl_callM (X:=Sl) (V:=fun _ => .bool (isTk semi 4 q)) (A:=[PB gp s en k]) (AA:=fun y => [PB gp y en k]) (I:=fun y => y = (if isTk semi 4 q then Sl.tail s else s)) rfl;(·(repeat (first|exact eN|(apply eS;(·(first|exact eT rfl|exact eC))))));(·(repeat (exact Split.one)));(·(simp only [List.cons_append, List.nil_append];exact fun w' hh => skip_c (x:=semi) (kd:=4) (hT.app (fun p hp => InSub.sub p (h0 p hp))) hh));(rintro s8 hs8;(replace hs8 : s8 = s := by rw [hs8, if_neg (by rw [hp8]; simp)]);rw [hs8];clear hs8 s8;simp only [List.cons_append, List.nil_append];unfold PB))|(apply spl_callF (X:=Sl × List Tk) (V:=fun y => .tuple #[]) (A:=[PB gp s en k]) (AA:=fun y => [PB gp y.1 en k]) (I:=fun y => wantP rpar en q = .ok y.2 ∧ TokIn R0 y.1 y.2) (F:=fun ch => ∃ e, wantP rpar en q = .error e ∧ ch = panE e) rfl;(·(repeat (first|exact eN|(apply eS;(·(first|exact eT rfl|exact eC))))));(·(repeat (exact Split.one)));(·(simp only [List.cons_append, List.nil_append];exact fun w' hh => want_c (x:=rpar) hT (fun p hp => InSub.sub p (h0 p hp)) hg hh));(·(rintro ch ⟨e_, he_, hch_⟩;(repeat (apply then_p));exact retF_pan ⟨e_, (hME _ (hBW _ _ _ hfin he_)), hch_⟩ (by (repeat (first|exact HKeep.refl|apply HKeep.drop (by first|assumption|omega)|apply HKeep.dropA (by assumption))))));(rintro ⟨s7, q7⟩ ⟨hn7, hT7⟩;dsimp only at hn7 hT7;simp only [List.cons_append, List.nil_append];unfold PB))|apply then_n|apply sp_seq|apply sp_region|apply spl_nil|apply then_e|apply block_here|apply sp_exit|((apply spl_pure rfl);(·(((apply ex_move)<;>(exact eT rfl))))))
          exact ⟨((r.hp (flatK ss) 46 ++ HI, ⟨nm, v, slR r ss.length, ss⟩), s7, q7), ⟨hBK _ _ _ hfin hn7, hT7, fun w1 hw1 => ⟨RdS.ofRowW (xs := ss) (T := 46) (fun p hp => hw1 p (List.mem_append.2 (.inl hp))) rfl (by show ss.length ≤ _; omega) (fun _ _ => rfl) hr, hIn w1 (hw1.sub fun p hp => List.mem_append.2 (.inr hp))⟩, FreshH.app hrow hfI, rfl, rfl⟩, by (repeat (first|exact ESub.nil|apply ESub.cons rfl)), rfl, by simp only [List.append_assoc]; (repeat (exact HKeep.refl))⟩
        | true =>
          obtain ⟨t9, q9, rfl⟩ : ∃ t q', q = t :: q' := by
            cases q with
            | nil => cases hp8
            | cons t q' => exact ⟨t, q', rfl⟩
          obtain ⟨f', rfl⟩ : ∃ f', f = f' + 1 := ⟨f - 1, by simp only [List.length_cons] at hqf; omega⟩
          rw [if_pos hp8] at hF
          have herr1 : ∀ e, slotP read en (ss.map (·.name)) (t9 :: q9).tail = .error e → M = .error e := fun e he => hME e (hBE e (by rw [hF]; exact slotsP_err (by rw [snames_pure]; exact he)))
          repeat (first|(apply sp_cond_t;(·exact eT rfl);(·rw [hp8]))|(apply spl_callM (X:=Sl) (V:=fun _ => .bool (isTk semi 4 (t9 :: q9))) (A:=[PB gp s en k]) (AA:=fun y => [PB gp y en k]) (I:=fun y => y = (if isTk semi 4 (t9 :: q9) then Sl.tail s else s)) rfl;(·(repeat (first|exact eN|(apply eS;(·(first|exact eT rfl|exact eC))))));(·(repeat (exact Split.one)));(·(simp only [List.cons_append, List.nil_append];exact fun w' hh => skip_c (x:=semi) (kd:=4) (hT.app (fun p hp => InSub.sub p (h0 p hp))) hh));(rintro s8 hs8;simp only [List.cons_append, List.nil_append];unfold PB))|apply then_n|apply sp_seq|apply sp_region|apply spl_nil|apply sp_skip|apply sp_block|((apply spl_pure rfl);(·(((apply ex_move)<;>(exact eT rfl))))))
          have hT8 := hT6 s8 hs8
          have hq8 : skipP semi 4 (t9 :: q9) = (t9 :: q9).tail := by unfold skipP; rw [if_pos hp8]
          rw [hq8] at hT8
          refine sp_drawnP (.rd 0 (.rd 1 (.rd 2 (.rd 3 (.ef 4 (.ef 5 (.ef 6 (.rd 7 (.ef 8 .nil))))))))) 8 [] ((g4, .cells #[.string nm, .bool v, r.val ss.length] 34 (0, 0)) :: (g2, .cells KindR.zero.cells 34 (0, 0)) :: R) mixed (by kernel_rfl) rfl (by (repeat (first|exact HKeep.refl|(apply HKeep.pick;(·(repeat (first|exact Rem.here|apply Rem.there|apply Rem.app))))|apply HKeep.drop (by first|assumption|omega)|apply HKeep.dropA (by assumption)))) ?_
          repeat (first|(apply spl_callF (X:=(RowS × SlotR) × Sl × List Tk) (V:=fun y => .agg y.1.2.cells) (A:=[PB gp s8 en k]) (AA:=fun y => PB gp y.2.1 en k :: y.1.1.hp (flatS y.1.2.kinds) 9) (I:=fun y => slotP read en (ss.map (·.name)) (t9 :: q9).tail = .ok (y.1.2.pure, y.2.2) ∧ TokIn R0 y.2.1 y.2.2 ∧ y.1.2.ks = slR y.1.1 y.1.2.kinds.length ∧ y.1.1.ok 1 y.1.2.kinds.length (flatS y.1.2.kinds) ∧ y.1.1.fresh w0.heap.size) (F:=fun ch => ∃ e, slotP read en (ss.map (·.name)) (t9 :: q9).tail = .error e ∧ ch = panE e) rfl;(·(repeat (first|exact eN|(apply eS;(·exact eT rfl)))));(·(repeat (exact Split.one)));(·(rw [hread];simp only [List.cons_append, List.nil_append];exact fun w' hh => slot_c (sl:=slR r ss.length) hT8 (fun p hp => InSub.sub p (h0 p hp)) (hC.up (fun p hp => InSub.sub p hp)) (fun w1 hw1 => RdS.ofRowW (xs := ss) (T := 46) (fun p hp => hw1 p (.tail _ (List.mem_append.2 (.inl hp)))) rfl (by show ss.length ≤ _; omega) (fun _ _ => rfl) hr) hg (by simp only [List.length_cons, List.tail_cons] at hB ⊢; omega) hh));(·(rintro ch ⟨e_, he_, hch_⟩;(repeat (first|apply then_p|apply block_p|(apply effp_p;(·(repeat (exact ESub.nil))))));exact retF_pan ⟨e_, herr1 e_ he_, hch_⟩ (by (repeat (first|exact HKeep.refl|apply HKeep.drop (by first|assumption|omega)|apply HKeep.dropA (by assumption))))));(rintro ⟨⟨r5, x5⟩, s5, q5⟩ ⟨hn5, hT5, hk5, hr5, hf5⟩;dsimp only at hn5 hT5 hk5 hr5 hf5;have hrow5 := RowS.drop (xs := flatS x5.kinds) (T := 9) hf5;simp only [List.cons_append, List.nil_append];unfold PB))|((apply wlp_read rfl rfl);(·(first|((first|apply ex_move|apply ex_fieldAddr')<;>(exact eT rfl))|(apply ex_loadown<;>(first|exact eT rfl|exact Bk.own InH.mem|rfl))|(apply ex_loadowns<;>(first|exact eT rfl|exact Bk.own InH.mem|(rfl))))))|apply wlp_nil|apply wlp_eff rfl|(apply effp;(·(intro h_;(first|(exact absurd h_ (by decide))|(repeat (first|exact HKeep.refl|(apply HKeep.pick;(·(repeat (first|exact Rem.here|apply Rem.there|apply Rem.app))))|apply HKeep.drop (by first|assumption|omega)|apply HKeep.dropA (by assumption)))))))|apply then_n|apply block_n|apply spl_nil|(apply spl_store1;(·exact eT rfl);(·exact eT rfl);(·rfl);(·(repeat (first|exact Upd.here|apply Upd.there|apply Upd.app)));(·rfl))|(apply spl_buildSlice rfl;(·rfl);(·(repeat (first|exact eN|(apply eS;(·exact eT rfl)))));(·rfl);(·rfl);(·rfl);intro _ _)|(refine spl_append_row (r := r) (n := ss.length) (xs := flatK ss) (news := x5.cells.toList) (m := 1) (by (exact eT rfl)) (by (exact eT rfl)) (by (repeat (first|exact Split.here|apply Split.cons|apply Split.app))) hr hfr (by omega) (fun w' hh => SrcAt.slice (CellsAt.own hh.ownI (fun j u hj => by rw [List.getElem?_toArray]; exact hj)) rfl rfl (fun u hu => (Ones.one : ∀ v ∈ x5.cells, v.oneCell' = true) u (by simpa using hu))) rfl (by omega) rfl rfl rfl rfl ?_;intro r2 hr2 hfr2;have hrow2 := RowS.drop (xs := flatK ss ++ x5.cells.toList) (T := 46) hfr2))
          have hl1 : (ss ++ [x5]).length = ss.length + 1 := by simp
          have hin5 := hIn.snoc hk5 (by have := slotP_cnt hn5; simp only [SlotR.pure, List.tail_cons] at this; simp only [List.length_cons] at hB; omega) hr5
          have hF1 : Fin = if isTk semi 4 q5 then slotsP read en f' ((ss ++ [x5]).map SlotR.pure) q5.tail else .ok ((ss ++ [x5]).map SlotR.pure, q5) := by
            rw [hF, List.map_append]
            exact slotsP_ok (by rw [snames_pure]; exact hn5)
          have hq5 : q5.length < q9.length := by have := slotP_len hn5; simpa using this
          rw [flatK_snoc] at hr2 hrow2 ⊢
          rw [← hl1] at hr2 ⊢
          simp only [List.length_cons] at hqf hB
          exact ⟨((r2, r5.hp (flatS x5.kinds) 9 ++ HI, ss ++ [x5]), s5, q5), ⟨⟨f', by show q5.length ≤ f'; omega, hF1⟩, hT5, hr2, hfr2, hin5, FreshH.app hrow5 hfI, by show (ss ++ [x5]).length + q5.length ≤ 1000000; omega⟩, by show q5.length < (t9 :: q9).length; simp only [List.length_cons]; omega, (by (repeat (first|exact ESub.nil|apply ESub.cons rfl))), rfl, (by simp only [List.append_assoc]; (repeat (first|exact HKeep.refl|(apply HKeep.app;(·(repeat (first|exact Split.here|apply Split.cons))))|(apply HKeep.pick;(·(repeat (first|exact Rem.here|apply Rem.there|apply Rem.app))))|apply HKeep.drop (by first|assumption|omega))))⟩
    · rintro ⟨⟨HK, kr⟩, s3, q3⟩ ⟨hb3, hT3, hown, hfr3, hnm3, hv3⟩
      dsimp only at hb3 hT3 hown hfr3 hnm3 hv3 ⊢
      have hn2 := hz2
      have hfr3' : ∀ p ∈ HK, w0.heap.size ≤ p.1 := hfr3
      have hMO : ∀ ss r e, bodyP read en q2 = .ok (ss, r) → wantP semi en r = .error e → M = .error e := by intro ss r e h h'; rw [hM]; unfold kindP; simp only [hn1, hnames, hn2, h, h']
      repeat (first|(apply spl_callF (X:=Sl × List Tk) (V:=fun y => .tuple #[]) (A:=[PB gp s3 en k]) (AA:=fun y => [PB gp y.1 en k]) (I:=fun y => wantP semi en q3 = .ok y.2 ∧ TokIn R0 y.1 y.2) (F:=fun ch => ∃ e, wantP semi en q3 = .error e ∧ ch = panE e) rfl;(·(repeat (first|exact eN|(apply eS;(·(first|exact eT rfl|exact eC))))));(·(repeat (exact Split.one)));(·(simp only [List.cons_append, List.nil_append];exact fun w' hh => want_c (x:=semi) hT3 (fun p hp => InSub.sub p (h0 p hp)) hg hh));(·(rintro ch ⟨e_, he_, hch_⟩;(repeat (apply then_p));exact retF_pan ⟨e_, (hMO _ _ _ hb3 he_), hch_⟩ (by (repeat (first|exact HKeep.refl|apply HKeep.drop (by first|assumption|omega)|apply HKeep.dropA (by assumption))))));(rintro ⟨s7, q7⟩ ⟨hn7, hT7⟩;dsimp only at hn7 hT7;simp only [List.cons_append, List.nil_append];unfold PB))|apply then_n|apply sp_seq|apply sp_region|apply spl_nil|apply sp_ret|((apply spl_pure rfl);(·(first|((apply ex_move)<;>(exact eT rfl))|(apply ex_loadowns<;>(first|exact eT rfl|exact Bk.own InH.mem|(rfl))))))|(apply spl_stores;(·exact eT rfl);(·exact eT rfl);(·(repeat (first|exact Upd.here|apply Upd.there|apply Upd.app)));(·(rfl));(·(rfl));(·exact Ones.one)))
      have hMK : M = .ok (⟨nm, v, kr.slots.map SlotR.pure⟩, q7) := by rw [hM]; unfold kindP; simp only [hn1, hnames, hn2, hb3, hn7]
      (apply retF_ok rfl;(·((apply Res.ofOne;((apply Res1.cell;(·rfl);(·exact InH.mem);(·(rfl))))))))
      exact ⟨((HK, kr), s7, q7), rfl, ⟨by rw [hMK, ← hnm3, ← hv3]; rfl, hT7, hown, hfr3⟩, by (repeat (first|exact HKeep.refl|apply HKeep.keep|(apply HKeep.app;(·(repeat (first|exact Split.here|apply Split.cons))))|apply HKeep.drop (by first|assumption|omega)))⟩
end Go.Proofs.Ytfdjlphfohnnnaa
/-
  A function with one deferred call: its code behind the 'defer' statement.
-/
namespace Go.Sy
open Go.RowKit
set_option linter.unusedVariables false
set_option linter.unusedSimpArgs false
class NoOutP (Q : Post) : Prop where
  no : ∀ e w H, ¬ Q .outgrown e w H
instance NoOutP.then {K : Env → World → Heap → Prop} {Q : Post} [h : NoOutP Q] : NoOutP (thenQ K Q) := ⟨fun e w H => h.no e w H⟩
instance NoOutP.block {id : Nat} {Q : Post} [h : NoOutP Q] : NoOutP (blockQ id Q) := ⟨fun e w H => h.no e w H⟩
theorem NoOutP.lift {N Be : Nat} {Q : Post} [h : NoOutP Q] (a : Act) (w : World) : ¬ lift N Be Q .outgrown a w := fun ⟨_, _, _, _, _, hq⟩ => h.no _ _ _ hq
abbrev PostD := List Deferred → Post
def liftD (N Be : Nat) (Q : PostD) : Exit → Act → World → Prop := fun x a w => ∃ e w0 H, Fr N e { a with defers := [] } ∧ Hp Be w0 H w ∧ Q a.defers x e w0 H
/-- Code of a function, with deferred calls D to come behind it. -/
def SpcD (D : List Deferred) (P : Program) (N Be : Nat) (c : Code) (Q : PostD) (e : Env) (w0 : World) (H : Heap) : Prop := ∀ a w, Fr N e a → Hp Be w0 H w → c.wp P (liftD N Be Q) (wdp a D) w
section rules
variable {P : Program} {D : List Deferred} {N Be : Nat} {Q : PostD} {e E0 : Env} {w0 : World} {H : Heap}
theorem liftD_of {a : Act} {w : World} {x : Exit} (hf : Fr N e a) (hh : Hp Be w0 H w) (h : Q D x e w0 H) : liftD N Be Q x (wdp a D) w := by
  have hd := hf.defers
  refine ⟨e, w0, H, ⟨rfl, hf.size, hf.get⟩, hh, ?_⟩
  show Q (a.defers ++ D) x e w0 H
  rw [hd]; exact h
theorem liftD_lift {a : Act} {w : World} {x : Exit} (h : lift N Be (Q D) x a w) : liftD N Be Q x (wdp a D) w := by
  obtain ⟨e, w0, H, hf, hh, h⟩ := h
  exact liftD_of hf hh h
theorem spd_region {id : Nat} {l : List Oper} [NoOutP (Q D)] (h : Spl P N Be l.toArray (Q D) l e w0 H) : SpcD D P N Be (.region id l.toArray false) Q e w0 H :=
  fun a w hf hh => wp_region_lit (list_d (Q := lift N Be (Q D)) (fun _ _ _ h => liftD_lift h) l a w (h a w hf hh) NoOutP.lift)
theorem spd_drawnP {id : Nat} {l : List Oper} (p : Pt) (m : Nat) (E0 : Env) (H1 : Heap) (hm : P.follows .mixedOrders = true) (hB : drawnT l.toArray m p = true) (hE : offB E0 l = true) (hk : HKeep w0 H1 H) (h : wlkP P N Be l.toArray m E0 (Q D) H1 p e w0 H) :
    SpcD D P N Be (.region id l.toArray true) Q e w0 H := by
  intro a w hf hh
  simp only [drawnT, Bool.and_eq_true, decide_eq_true_eq] at hB
  obtain ⟨⟨⟨h1, h2⟩, h3⟩, h4⟩ := hB
  refine wp_region_any hm ?_
  have := wlkP_sound rfl hE h2 h1 p _ false a _ e H h4 (Cl.start rfl) hf hh.drew (fun _ => (hh.drew).sub hk) h
  rw [h3] at this
  exact any_d (fun _ _ hq => liftD_lift hq) (fun ch a w ⟨w0, H, q1, q2, q3⟩ => liftD_of q1 q2 q3) _ _ _ _ this
theorem spd_seq {x y : Code} (h : SpcD D P N Be x (fun D' => thenQ (fun e w H => SpcD D' P N Be y Q e w H) (Q D')) e w0 H) : SpcD D P N Be (.seq x y) Q e w0 H := by
  intro a w hf hh
  refine wp_seq (wp_mono (h a w hf hh) ?_)
  rintro x a w ⟨e, w0, H, h1, h2, h3⟩
  cases x <;> first | exact (wdp_back a ▸ h3 _ w h1 h2 : Code.wp _ _ _ a w) | exact ⟨e, w0, H, h1, h2, h3⟩
theorem spd_skip (h : Q D .normal e w0 H) : SpcD D P N Be .skip Q e w0 H := fun a w hf hh => wp_skip (liftD_of hf hh h)
theorem spd_exit {id : Nat} (h : Q D (.exit id) e w0 H) : SpcD D P N Be (.exit id) Q e w0 H := fun a w hf hh => wp_exit (liftD_of hf hh h)
theorem spd_ret (h : Q D .ret e w0 H) : SpcD D P N Be .ret Q e w0 H := fun a w hf hh => wp_ret (liftD_of hf hh h)
theorem spd_block {id : Nat} {c : Code} (h : SpcD D P N Be c (fun D' => blockQ id (Q D')) e w0 H) : SpcD D P N Be (.block id c) Q e w0 H := by
  intro a w hf hh
  refine wp_block (wp_mono (h a w hf hh) ?_)
  rintro x a w ⟨e, w0, H, h1, h2, h3⟩
  cases x <;> first | exact ⟨e, w0, H, h1, h2, h3⟩ | skip
  rename_i id'
  simp only [blockQ] at h3
  simp only [Exit.inBlock]
  split at h3
  · rename_i he; rw [if_pos he]; exact ⟨e, w0, H, h1, h2, h3⟩
  · rename_i he; rw [if_neg he]; exact ⟨e, w0, H, h1, h2, h3⟩
theorem spd_cond {c : Operand} {x y : Code} {b : Bool} (hc : Ev true e c (.bool b)) (ht : b = true → SpcD D P N Be x Q e w0 H) (hf : b = false → SpcD D P N Be y Q e w0 H) : SpcD D P N Be (.cond c x y) Q e w0 H :=
  fun a w h1 h2 => wp_cond_split (a := wdp a D) (hc N a h1 rfl) (fun hb => ht hb a w h1 h2) (fun hb => hf hb a w h1 h2)
theorem spd_cond_t {c : Operand} {x y : Code} {b : Bool} (hc : Ev true e c (.bool b)) (hb : b = true) (ht : SpcD D P N Be x Q e w0 H) : SpcD D P N Be (.cond c x y) Q e w0 H :=
  spd_cond hc (fun _ => ht) (fun h => by rw [hb] at h; cases h)
theorem spd_cond_f {c : Operand} {x y : Code} {b : Bool} (hc : Ev true e c (.bool b)) (hb : b = false) (hf : SpcD D P N Be y Q e w0 H) : SpcD D P N Be (.cond c x y) Q e w0 H :=
  spd_cond hc (fun h => by rw [hb] at h; cases h) (fun _ => hf)
theorem spd_loop {c : Code} {X : Type} (E : X → Env) (W : X → World) (HH : X → Heap) (I : X → Prop) (m : X → Nat) (x0 : X) (h0 : I x0) (he : ESub (E x0) e) (hw : W x0 = w0) (hH : HKeep w0 (HH x0) H)
    (round : ∀ x, I x → SpcD D P N Be c (fun D' => thenQ (fun e' w' H' => D' = D ∧ ∃ x', I x' ∧ m x' < m x ∧ ESub (E x') e' ∧ W x' = w' ∧ HKeep w' (HH x') H') (Q D')) (E x) (W x) (HH x)) : SpcD D P N Be (.loop c) Q e w0 H := by
  intro a w hf hh
  subst hw
  refine wp_loop_ghost (fun n a w => ∃ x b, a = wdp b D ∧ m x = n ∧ I x ∧ Fr N (E x) b ∧ Hp Be (W x) (HH x) w) (m x0) ⟨x0, a, rfl, rfl, h0, hf.sub he, hh.sub hH⟩ ?_
  rintro n a w ⟨x, b, rfl, rfl, hI, hf, hh⟩
  refine wp_mono (round x hI b w hf hh) ?_
  rintro ex a' w' ⟨e', w0', H', h1, h2, h3⟩
  cases ex <;> first | exact ⟨e', w0', H', h1, h2, h3⟩ | skip
  obtain ⟨hD, x', hI', hm, hs, hW, hH'⟩ := h3
  subst hW
  exact ⟨m x', hm, x', { a' with defers := [] }, by rw [← hD]; exact (wdp_back a').symm, rfl, hI', h1.sub hs, h2.sub hH'⟩
/-- The statement 'defer' of a closure without arguments. -/
theorem spd_defer {id d : Nat} {f : FuncId} {cap : List Operand} {cs : List Value} {ts : Array TypeId} {ty ty' : TypeId} {pos pos' : String} {after after' : Array Edge} [NoOutP (Q ({ target := .fn (.func f) cs.toArray, args := #[] } :: D))] (hN : Nat.blt d N = true) (hc : Evs true e cap cs)
    (h : Q ({ target := .fn (.func f) cs.toArray, args := #[] } :: D) .normal ((d, true, .func (.func f) #[] cs.toArray) :: e) w0 H) :
    SpcD D P N Be (.region id #[⟨some d, .makeFunc (.func f) #[] cap.toArray, ty, pos, after, none⟩, ⟨none, .defer ⟨.value (.tmp d), #[], ts⟩, ty', pos', after', none⟩] false) Q e w0 H := by
  intro a w hf hh
  have hd : d < N := by simpa [Nat.blt_eq] using hN
  have hx := ex_makeFunc (P := P) (Be := Be) (w0 := w0) (H := H) (fn := .func f) (ty := ty) (first := []) Evs.nil hc
  refine wp_region_lit (l := [_, _]) ?_
  refine wpList_plain rfl fun K hK => ?_
  unfold Oper.wp
  have he : (wdp a D).eval = a.eval := rfl
  rw [he, hx N a w _ rfl rfl hf hh rfl, Oper.upon_value]
  refine hK _ _ ?_
  rw [wdp_put]
  have hf2 := hf.puttrue (v := .func (.func f) #[] cs.toArray) hd
  refine wpList_plain rfl fun K hK => ?_
  have hev : (wdp (a.put (some d) (.func (.func f) #[] cs.toArray)) D).eval (.tmp d) = .func (.func f) #[] cs.toArray := by
    show (a.put (some d) (.func (.func f) #[] cs.toArray)).eval (.tmp d) = _
    exact (Ev.tmpT (by simp [look]) : Ev true ((d, true, .func (.func f) #[] cs.toArray) :: e) (.tmp d) (.func (.func f) #[] cs.toArray)) N _ hf2 rfl
  have hr : (execOp (wdp (a.put (some d) (.func (.func f) #[] cs.toArray)) D).eval ⟨none, .defer ⟨.value (.tmp d), #[], ts⟩, ty', pos', after', none⟩).run P w = .ok (.defer { target := .fn (.func f) cs.toArray, args := #[] }) w := by
    simp only [execOp, resolve, hev]
    simp [Deferred.ofValue]
  unfold Oper.wp
  rw [show (⟨some d, Op.makeFunc (.func f) #[] cap.toArray, ty, pos, after, none⟩ : Oper).dst = some d from rfl]
  rw [hr, Oper.upon_defer]
  refine hK _ _ (wpList_nil ?_)
  refine ⟨_, w0, H, ⟨rfl, ?_, hf2.get⟩, hh, ?_⟩
  · exact hf2.size
  · show Q ({ target := .fn (.func f) cs.toArray, args := #[] } :: ((a.put (some d) _).defers ++ D)) .normal _ w0 H
    rw [hf2.defers]
    exact h
/-- What is asked where the function leaves: the deferred calls are to be made. -/
def leaveQ (P : Program) (fn : Func) (Be : Nat) (R : Ending → World → Prop) : PostD := fun D x e w0 H =>
  match x with
  | .ret | .normal => ∀ a w', Fr fn.ntmps e a → Hp Be w0 H w' → Leaves P fn a.tmps R D .returning w'
  | .panic ch => ∀ a w', Fr fn.ntmps e a → Hp Be w0 H w' → Leaves P fn a.tmps R D (.panicking ch) w'
  | _ => False
instance NoOutP.leave {fn : Func} {R : Ending → World → Prop} {D : List Deferred} : NoOutP (leaveQ P fn Be R D) := ⟨fun e w H h => h⟩
theorem sp_enterL {f : FuncId} {fn : Func} {c : Code} {vs : List Value} {w : World} {R : Ending → World → Prop} (hf : P.funcs[f]? = some fn) (hb : fn.body = some c) (hN : fn.ntmps = N) (hl : Nat.ble vs.length N = true)
    (h : SpcD [] P N w.heap.size c (leaveQ P fn w.heap.size R) (envOf 0 vs) w []) : Calls P f vs.toArray w R := by
  subst hN
  refine calls_of_wp_defers hf hb (wp_mono (wdp_nil _ ▸ h { tmps := vs.toArray ++ Array.replicate (fn.ntmps - vs.toArray.size) undef, defers := [] } w ?_ (Hp.start w) : Code.wp P c _ _ w) ?_)
  · rintro x a w' ⟨e, w0, H, h1, h2, h3⟩
    cases x with
    | normal => exact h3 { a with defers := [] } w' h1 h2
    | ret => exact h3 { a with defers := [] } w' h1 h2
    | panic ch => exact h3 { a with defers := [] } w' h1 h2
    | exit _ => exact h3.elim
    | goto _ => exact h3.elim
    | outgrown => exact h3.elim
  · have hl' : vs.length ≤ fn.ntmps := Nat.le_of_ble_eq_true hl
    refine ⟨rfl, by simp; omega, fun k g v hk => ?_⟩
    obtain ⟨rfl, _, h3⟩ := look_envOf vs 0 k g v hk
    simp only [Nat.sub_zero] at h3
    have hk : k < vs.length := (List.getElem?_eq_some_iff.1 h3).1
    simp [Array.getElem?_append, hk, gv]
    have := (List.getElem?_eq_some_iff.1 h3).2
    simpa using this
theorem leave_r {fn : Func} {R : Ending → World → Prop} (h : ∀ a w', Fr fn.ntmps e a → Hp Be w0 H w' → Leaves P fn a.tmps R D .returning w') : leaveQ P fn Be R D .ret e w0 H := h
theorem leave_n {fn : Func} {R : Ending → World → Prop} (h : ∀ a w', Fr fn.ntmps e a → Hp Be w0 H w' → Leaves P fn a.tmps R D .returning w') : leaveQ P fn Be R D .normal e w0 H := h
theorem leave_p {fn : Func} {ch : List PanicEntry} {R : Ending → World → Prop} (h : ∀ a w', Fr fn.ntmps e a → Hp Be w0 H w' → Leaves P fn a.tmps R D (.panicking ch) w') : leaveQ P fn Be R D (.panic ch) e w0 H := h
/-- The deferred closure: it asks 'recover' first. -/
theorem recover_run {a : Act} {w : World} {d : Nat} {ts : Array TypeId} {ty : TypeId} {pos : String} {after : Array Edge} : (execOp a.eval ⟨some d, .call ⟨.builtin .recover, #[], ts⟩, ty, pos, after, none⟩).run P w = .ok .recover w := by
  simp [execOp, resolve, invoke, builtin]
theorem callsD_rec {f : FuncId} {fn : Func} {c : Code} {id d : Nat} {ts : Array TypeId} {ty : TypeId} {pos : String} {after : Array Edge} {vs : List Value} {w : World} {R : Ending → World → Prop} {v : Value} {older : List PanicEntry} (hf : P.funcs[f]? = some fn) (hb : fn.body = some (.seq (.region id #[⟨some d, .call ⟨.builtin .recover, #[], ts⟩, ty, pos, after, none⟩] false) c)) (hN : fn.ntmps = N) (hd : Nat.blt d N = true) (hl : Nat.ble vs.length N = true) (hh : Hp Be w0 H w)
    (h : Spc P N Be c (retQ P fn Be R) ((d, true, v) :: envOf 0 vs) w0 H) :
    CallsD P f vs.toArray (.panicking ({ v, recovered := false } :: older)) w fun en u' w' => u' = .panicking ({ v, recovered := true } :: older) ∧ R en w' := by
  have hl' : vs.length ≤ N := Nat.le_of_ble_eq_true hl
  have hd' : d < N := by simpa [Nat.blt_eq] using hd
  have hF : Fr N (envOf 0 vs) { tmps := vs.toArray ++ Array.replicate (fn.ntmps - vs.toArray.size) undef, defers := [] } := by
    refine ⟨rfl, by simp [hN]; omega, fun k g v hk => ?_⟩
    obtain ⟨rfl, _, h3⟩ := look_envOf vs 0 k g v hk
    simp only [Nat.sub_zero] at h3
    have hk : k < vs.length := (List.getElem?_eq_some_iff.1 h3).1
    simp [Array.getElem?_append, hk, gv]
    have := (List.getElem?_eq_some_iff.1 h3).2
    simpa using this
  refine callsD_of_wpS hf hb fun c₀ cs hu => ?_
  apply wpS_seq
  apply wpS_region
  show wpOpsS P _ _ [0] _ _ _
  have hw : ∀ (ops : Array Oper) (tmps : Array Value), Region.wanted ⟨some d, .call ⟨.builtin .recover, #[], ts⟩, ty, pos, after, none⟩ (yielded ops tmps) = true := fun _ _ => by simp [Region.wanted]
  have hrc : recoverD (c₀ :: cs) = some (v, { c₀ with mode := .panicking ({ v, recovered := true } :: older) } :: cs) := by
    simp only [recoverD, hu]
  simp only [wpOpsS, List.getElem?_toArray, List.getElem?_cons_zero, hw, if_true, recover_run, hrc]
  show Exit.thenS _ _ .normal _ _ w
  refine wpS_of_wp (wp_mono (h _ w (hF.puttrue hd') hh) ?_)
  rintro x a w' ⟨e, w0, H, h1, h2, h3⟩
  cases x with
  | normal => obtain ⟨u, hv, hR⟩ := h3; exact ⟨h1.defers, _, rfl, u, hv _ _ _ fn rfl h1 h2, rfl, hR w' h2⟩
  | ret => obtain ⟨u, hv, hR⟩ := h3; exact ⟨h1.defers, _, rfl, u, hv _ _ _ fn rfl h1 h2, rfl, hR w' h2⟩
  | exit _ => exact h3.elim
  | goto _ => exact h3.elim
  | panic _ => exact h3.elim
  | outgrown => exact h3.elim
theorem callsD_idle {f : FuncId} {fn : Func} {c : Code} {id d : Nat} {ts : Array TypeId} {ty : TypeId} {pos : String} {after : Array Edge} {vs : List Value} {w : World} {R : Ending → World → Prop} (hf : P.funcs[f]? = some fn) (hb : fn.body = some (.seq (.region id #[⟨some d, .call ⟨.builtin .recover, #[], ts⟩, ty, pos, after, none⟩] false) c)) (hN : fn.ntmps = N) (hd : Nat.blt d N = true) (hl : Nat.ble vs.length N = true) (hh : Hp Be w0 H w)
    (h : Spc P N Be c (retQ P fn Be R) ((d, true, .nilIface) :: envOf 0 vs) w0 H) :
    CallsD P f vs.toArray .returning w fun en u' w' => u' = .returning ∧ R en w' := by
  have hl' : vs.length ≤ N := Nat.le_of_ble_eq_true hl
  have hd' : d < N := by simpa [Nat.blt_eq] using hd
  have hF : Fr N (envOf 0 vs) { tmps := vs.toArray ++ Array.replicate (fn.ntmps - vs.toArray.size) undef, defers := [] } := by
    refine ⟨rfl, by simp [hN]; omega, fun k g v hk => ?_⟩
    obtain ⟨rfl, _, h3⟩ := look_envOf vs 0 k g v hk
    simp only [Nat.sub_zero] at h3
    have hk : k < vs.length := (List.getElem?_eq_some_iff.1 h3).1
    simp [Array.getElem?_append, hk, gv]
    have := (List.getElem?_eq_some_iff.1 h3).2
    simpa using this
  refine callsD_of_wpS hf hb fun c₀ cs hu => ?_
  apply wpS_seq
  apply wpS_region
  show wpOpsS P _ _ [0] _ _ _
  have hw : ∀ (ops : Array Oper) (tmps : Array Value), Region.wanted ⟨some d, .call ⟨.builtin .recover, #[], ts⟩, ty, pos, after, none⟩ (yielded ops tmps) = true := fun _ _ => by simp [Region.wanted]
  have hrc : recoverD (c₀ :: cs) = none := by
    simp only [recoverD, hu]
  simp only [wpOpsS, List.getElem?_toArray, List.getElem?_cons_zero, hw, if_true, recover_run, hrc]
  show Exit.thenS _ _ .normal _ _ w
  refine wpS_of_wp (wp_mono (h _ w (hF.puttrue hd') hh) ?_)
  have hc : ({ c₀ with mode := .returning } : Frame) = c₀ := by cases c₀; simp only at hu; subst hu; rfl
  rintro x a w' ⟨e, w0, H, h1, h2, h3⟩
  cases x with
  | normal => obtain ⟨u, hv, hR⟩ := h3; exact ⟨h1.defers, .returning, by rw [hc], u, hv _ _ _ fn rfl h1 h2, rfl, hR w' h2⟩
  | ret => obtain ⟨u, hv, hR⟩ := h3; exact ⟨h1.defers, .returning, by rw [hc], u, hv _ _ _ fn rfl h1 h2, rfl, hR w' h2⟩
  | exit _ => exact h3.elim
  | goto _ => exact h3.elim
  | panic _ => exact h3.elim
  | outgrown => exact h3.elim
end rules
theorem invoke_fn {P : Program} {f : FuncId} [TFn P f] {w : World} {cs : Array Value} : (invoke (.fn (.func f) cs) #[]).run P w = .ok (.enter f cs) w := by
  show (callFunc f (#[] ++ cs)).run P w = _
  rw [TFn.run w, Array.empty_append]
section leave
variable {P : Program} {N Be : Nat} {e : Env} {w0 : World} {H : Heap}
/-- Leaving with one deferred closure that has nothing to do. -/
theorem leave_idle {fn : Func} {rs : Array ResultVar} {R : Ending → World → Prop} {v : Value} {f : FuncId} {cs : List Value} [TFn P f] {X : Type} {V : X → Value} {I : X → Prop} (hr : fn.results = rs)
    (hc : ∀ w', Hp Be w0 H w' → CallsD P f cs.toArray .returning w' fun en u' w2 => u' = .returning ∧ RetX Be w0 V (fun _ => H) I en w2) (h : Res rs P Be e w0 H v) (k : ∀ w', Hp Be w0 H w' → R (.returned v) w') :
    leaveQ P fn Be R [{ target := .fn (.func f) cs.toArray, args := #[] }] .ret e w0 H := by
  intro a w' hf hh
  refine leaves_cons (by simp) invoke_fn ((hc w' hh).mono ?_)
  rintro en u' w2 ⟨rfl, x, rfl, -, hw2⟩
  exact ⟨v, h _ a w2 fn hr hf hw2, k w2 hw2⟩
/-- Leaving by a panic with one deferred closure that recovers it. -/
theorem leave_rec {fn : Func} {rs : Array ResultVar} {R : Ending → World → Prop} {v u : Value} {ch : List PanicEntry} {H2 : Heap} {f : FuncId} {cs : List Value} [TFn P f] {X : Type} {V : X → Value} {I : X → Prop} (hr : fn.results = rs)
    (hc : ∀ w', Hp Be w0 H w' → CallsD P f cs.toArray (.panicking ch) w' fun en u' w2 => u' = .panicking [{ v := u, recovered := true }] ∧ RetX Be w0 V (fun _ => H2) I en w2) (h : Res rs P Be e w0 H2 v) (k : ∀ w', Hp Be w0 H2 w' → R (.returned v) w') :
    leaveQ P fn Be R [{ target := .fn (.func f) cs.toArray, args := #[] }] (.panic ch) e w0 H := by
  intro a w' hf hh
  refine leaves_cons (by simp) invoke_fn ((hc w' hh).mono ?_)
  rintro en u' w2 ⟨rfl, x, rfl, -, hw2⟩
  exact ⟨v, h _ a w2 fn hr hf hw2, k w2 hw2⟩
end leave
end Go.Sy
/-
  Contracts of the parser: Parse with its deferred closure.
-/
namespace Go.Proofs.Ytfdjlphfohnnnaa
open Go.RowKit Go.Sy
set_option linter.unusedVariables false
set_option linter.unusedSimpArgs false
theorem ex_ifnil {P : Program} {Be : Nat} {w0 : World} {H : Heap} {G : Bool} {e : Env} {ty t u t' : TypeId} {x : Operand} {v : Value} (ht : P.underlying t = some (.interface (P.methodsAt t))) (h : Ev G e x (.iface u v)) : Ex P Be w0 H G e (.binOp .eql t x (.const .nilIface) t') ty (.bool false) := by
  intro N a w o ho _ hf hh hG
  have h2 := run_eql_held_nil w t u v ht
  have h3 : (eqGuard .eql t x (.const .nilIface) (.iface u v) .nilIface).run P w = .ok () w := rfl
  simp only [execOp, ho, h N a hf hG, ev_const, Sem.run_bind, h2, h3, Result.andThen_ok, Sem.run_pure]
theorem ex_nilnil {P : Program} {Be : Nat} {w0 : World} {H : Heap} {G : Bool} {e : Env} {ty t t' : TypeId} {x : Operand} (ht : P.underlying t = some (.interface (P.methodsAt t))) (h : Ev G e x .nilIface) : Ex P Be w0 H G e (.binOp .eql t x (.const .nilIface) t') ty (.bool true) := by
  intro N a w o ho _ hf hh hG
  have h2 := run_eql_nil_nil w t ht
  have h3 : (eqGuard .eql t x (.const .nilIface) .nilIface .nilIface).run P w = .ok () w := by cases x <;> rfl
  simp only [execOp, ho, h N a hf hG, ev_const, Sem.run_bind, h2, h3, Result.andThen_ok, Sem.run_pure]
theorem ex_typeAssert {P : Program} {Be : Nat} {w0 : World} {H : Heap} {G : Bool} {e : Env} {ty t xt : TypeId} {x : Operand} {v : Value} [ht : TAgg P t] (h : Ev G e x (.iface t v)) : Ex P Be w0 H G e (.typeAssert x xt t true) ty (.tuple #[v, .bool true]) := by
  intro N a w o ho _ hf hh hG
  have h1 := ht.agg
  obtain ⟨d, hd⟩ : ∃ d, P.underlying t = some d := by
    cases h2 : P.underlying t with
    | none => rw [h2] at h1; cases h1
    | some d => exact ⟨d, rfl⟩
  rw [hd] at h1
  simp only [execOp, ho, h N a hf hG, Instr.typeAssert, Sem.run_bind, run_underlying hd, Result.andThen_ok]
  cases d <;> first | (simp only [if_true]; rfl) | cases h1
attribute [local irreducible] Calls thenQ blockQ retQ retFQ Spc Spl Spq Ex Ev Evs Gd Upd ESub HKeep Res Res1 wlk effQ wlkT effT wlkP effP Rem SrcAt Split SpcD leaveQ
set_option maxRecDepth 100000 in
set_option maxHeartbeats 2000000 in
theorem rec_c {Be : Nat} {w0 w : World} {ga gb gc : Nat} {e0 n0 : Int} {kv : Value} {R : Heap} {pe : PE} (ha : w0.heap.size ≤ ga) (hb : w0.heap.size ≤ gb) (hc : w0.heap.size ≤ gc) (hh : Hp Be w0 ((gc, .cells #[.int .i64 n0] 3 (0, 0)) :: (gb, .cells #[.int .i64 e0] 27 (0, 0)) :: (ga, .cells #[kv] 24 (0, 0)) :: R) w) :
    CallsD Try.prog 34 #[.pointer (some ⟨ga, 0, none⟩), .pointer (some ⟨gb, 0, none⟩), .pointer (some ⟨gc, 0, none⟩)] (.panicking (panE pe)) w
      fun en u' w' => u' = .panicking [{ v := .iface 68 (.agg #[.int .i64 pe.1, .int .i64 pe.2]), recovered := true }] ∧ RetX Be w0 (fun _ : Unit => .tuple #[]) (fun _ => (gc, .cells #[.int .i64 pe.2] 3 (0, 0)) :: (gb, .cells #[.int .i64 pe.1] 27 (0, 0)) :: (ga, .cells #[.slice none 0 0] 24 (0, 0)) :: R) (fun _ => True) en w' := by
  refine callsD_rec (vs := [_, _, _]) Try.func34 rfl Try.ntmps34 rfl rfl hh ?_
  repeat (first|apply then_n|apply sp_seq|apply sp_region|apply spl_nil|((apply sp_cond_t);(·exact eT rfl);(·(rfl)))|(apply sp_cond_f;(·exact eT rfl);(·(rfl)))|apply sp_block|((apply spl_pure rfl);(·(first|(apply ex_ifnil (by kernel_rfl);(·exact eT rfl))|(apply ex_typeAssert;(·exact eT rfl))|((apply ex_extract)<;>(first|exact eT rfl|rfl)))))|(apply spl_alloc rfl;intro _ _)|(apply spl_stores;(·exact eT rfl);(·exact eT rfl);(·(repeat (exact Upd.here)));(·(rfl));(·(rfl));(·exact ones_of_all rfl)))
  rename_i g4 hg4
  refine sp_drawnT (.rd 0 (.rd 1 (.rd 2 (.rd 3 (.rd 4 (.ef 5 (.ef 6 (.ef 7 .nil)))))))) 8 ((g4, .cells #[.int .i64 pe.1, .int .i64 pe.2] 68 (0, 0)) :: R) mixed (by kernel_rfl) (by (repeat (first|exact HKeep.refl|apply HKeep.keep|apply HKeep.drop (by first|assumption|omega)))) ?_
  repeat (first|((apply wlt_read rfl rfl);(·(first|(apply ex_buildE (r:=#[.slice none 0 0]);(·(repeat (exact eN)));(·rfl);(·rfl))|((apply ex_fieldAddr')<;>(exact eT rfl))|((apply ex_loadown)<;>(first|exact eT rfl|exact Bk.own InH.mem|rfl)))))|apply wlt_nil|apply wlt_eff rfl|(apply efft;(·(intro h_;((repeat (first|exact HKeep.refl|apply HKeep.keep|apply HKeep.drop (by first|assumption|omega)))))))|apply block_n|apply spl_nil|(apply spl_store1;(·exact eT rfl);(·exact eT rfl);(·rfl);(·(repeat (first|exact Upd.here|apply Upd.there)));(·rfl))|(apply spl_stores;(·exact eT rfl);(·exact eT rfl);(·(repeat (first|exact Upd.here|apply Upd.there)));(·(rfl));(·(rfl));(·exact ones_of_all rfl)))
  (apply endX_ok rfl;(·exact Res.none_))
  exact ⟨(), rfl, trivial, by (repeat (first|exact HKeep.refl|(apply HKeep.pick;(·(repeat (first|exact Rem.here|apply Rem.there))))|apply HKeep.drop (by first|assumption|omega)))⟩
set_option maxRecDepth 100000 in
set_option maxHeartbeats 2000000 in
theorem idle_c {Be : Nat} {w0 w : World} {ga gb gc : Nat} {H : Heap} (hh : Hp Be w0 H w) :
    CallsD Try.prog 34 #[.pointer (some ⟨ga, 0, none⟩), .pointer (some ⟨gb, 0, none⟩), .pointer (some ⟨gc, 0, none⟩)] .returning w
      fun en u' w' => u' = .returning ∧ RetX Be w0 (fun _ : Unit => .tuple #[]) (fun _ => H) (fun _ => True) en w' := by
  refine callsD_idle (vs := [_, _, _]) Try.func34 rfl Try.ntmps34 rfl rfl hh ?_
  repeat (first|apply then_n|apply block_n|apply sp_seq|apply sp_region|apply spl_nil|((apply sp_cond_t);(·exact eT rfl);(·(rfl)))|apply sp_block|((apply spl_pure rfl);(·(first|(apply ex_nilnil (by kernel_rfl);(·exact eT rfl))|((apply ex_assign)<;>(exact eT rfl))))))
  (apply endX_ok rfl;(·exact Res.none_))
  exact ⟨(), rfl, trivial, by (repeat (exact HKeep.refl))⟩
end Go.Proofs.Ytfdjlphfohnnnaa
/-
  Contracts of the parser: Parse.
-/
namespace Go.Proofs.Ytfdjlphfohnnnaa
open Go.RowKit Go.Sy
set_option linter.unusedVariables false
set_option linter.unusedSimpArgs false
theorem headP_len {en : Int} {ts r : List Tk} {v : Bool} (h : headP en ts = .ok (v, r)) : r.length < ts.length := by
  unfold headP at h
  split at h
  · rename_i hi; cases h; exact isTk_tail hi
  · split at h
    · rename_i hi; cases h; exact isTk_tail hi
    · cases h
theorem slotsP_len {read : List PKind} {en : Int} : ∀ (f : Nat) (ss : List PSlot) (ts : List Tk) {ss' : List PSlot} {r : List Tk}, slotsP read en f ss ts = .ok (ss', r) → r.length ≤ ts.length
  | 0, ss, ts, ss', r, h => by simp only [slotsP] at h; cases h; exact Nat.le_refl _
  | f + 1, ss, ts, ss', r, h => by
    simp only [slotsP] at h
    split at h
    · cases h
    · rename_i h1
      have q1 := slotP_len h1
      split at h
      · rename_i hi
        have q2 := slotsP_len f _ _ h
        have q3 := isTk_tail hi
        omega
      · cases h; omega
theorem bodyP_len {read : List PKind} {en : Int} {ts r : List Tk} {ss : List PSlot} (h : bodyP read en ts = .ok (ss, r)) : r.length ≤ ts.length := by
  unfold bodyP at h
  split at h
  · rename_i hi
    have q1 := isTk_tail hi
    split at h
    · cases h
    · rename_i h2
      have q2 := slotsP_len _ _ _ h2
      split at h
      · cases h
      · rename_i h3
        have q3 := wantP_len h3
        cases h
        omega
  · cases h; exact Nat.le_refl _
theorem kindP_len {read : List PKind} {en : Int} {ts r : List Tk} {k : PKind} (h : kindP read en ts = .ok (k, r)) : r.length < ts.length := by
  unfold kindP at h
  split at h
  · cases h
  · rename_i h1
    split at h
    · cases h
    · rename_i h2
      split at h
      · cases h
      · rename_i h3
        split at h
        · cases h
        · rename_i h4
          have q1 := headP_len h1
          have q2 := nameP_len h2
          have q3 := bodyP_len h3
          have q4 := wantP_len h4
          cases h
          omega
def flatKd (ks : List KindR) : List Value := ks.flatMap fun x => x.cells.toList
theorem flatKd_snoc (l : List KindR) (x : KindR) : flatKd l ++ x.cells.toList = flatKd (l ++ [x]) := by simp [flatKd]
def KInner (HI : Heap) (ks : List KindR) : Prop := ∀ w, Holds HI w → ∀ x ∈ ks, RdSlots w w.heap.size x.ss x.slots
theorem KInner.snoc {HI HK : Heap} {ks : List KindR} {x : KindR} (h : KInner HI ks) (hk : KindOwn HK x) : KInner (HK ++ HI) (ks ++ [x]) := by
  intro w hw y hy
  rcases List.mem_append.1 hy with hy | hy
  · exact h w (hw.sub fun p hp => List.mem_append.2 (.inr hp)) y hy
  · rw [List.mem_singleton] at hy
    subst hy
    exact hk w (hw.sub fun p hp => List.mem_append.2 (.inl hp))
theorem CatIn.row {r : RowS} {HI : Heap} {ks : List KindR} (hr : r.ok 3 ks.length (flatKd ks)) (hn : ks.length ≤ 1000000) (hI : KInner HI ks) : CatIn (r.hp (flatKd ks) 34 ++ HI) (slR r ks.length) ks := fun w hw =>
  ⟨RdS.ofRowW (xs := ks) (T := 34) (fun p hp => hw p (List.mem_append.2 (.inl hp))) rfl (by show ks.length ≤ _; omega) (fun _ _ => rfl) hr, hI w (hw.sub fun p hp => List.mem_append.2 (.inr hp))⟩
theorem leave_ret {P : Program} {fn : Func} {rs : Array ResultVar} {Be : Nat} {e : Env} {w0 : World} {H : Heap} {v : Value} {R : Ending → World → Prop} (hr : fn.results = rs) (h : Res rs P Be e w0 H v) (k : ∀ w', Hp Be w0 H w' → R (.returned v) w') : leaveQ P fn Be R [] .ret e w0 H :=
  fun a w' hf hh => ⟨v, h _ a w' fn hr hf hh, k w' hh⟩
theorem lexR_cnt (t : ByteArray) : (lexR t).1.length ≤ 5000 := by
  unfold lexR
  split
  · simp
  · split
    · simp
    · rename_i h
      split
      · have := List.getElem?_eq_none_iff.1 h
        exact this
      · simp
theorem parseP_go {en : Int} {f : Nat} {read : List PKind} {ts r : List Tk} {k : PKind} {t : Tk} (h : kindP read en (t :: ts) = .ok (k, r)) : parseP en (f + 1) read (t :: ts) = parseP en f (read ++ [k]) r := by simp only [parseP]; rw [h]
theorem parseP_err {en : Int} {f : Nat} {read : List PKind} {ts : List Tk} {e : PE} {t : Tk} (h : kindP read en (t :: ts) = .error e) : parseP en (f + 1) read (t :: ts) = .error e := by simp only [parseP]; rw [h]
theorem parseP_nil {en : Int} {f : Nat} {read : List PKind} : parseP en f read [] = .ok read := by cases f <;> rfl
attribute [local irreducible] Calls thenQ blockQ retQ retFQ Spc Spl Spq Ex Ev Evs Gd Upd ESub HKeep Res Res1 wlk effQ wlkT effT wlkP effP Rem SrcAt Split SpcD leaveQ lexR
set_option maxRecDepth 100000 in
set_option maxHeartbeats 8000000 in
theorem parse_c {w : World} {t : ByteArray} (ht : t.size < 1000000000) :
    Calls Try.prog 13 #[.string t] w (RetH w (fun y : Heap × Sl × List KindR => .tuple #[.agg #[.slice y.2.1.a y.2.1.n y.2.1.c], .int .i64 (parseR t).2.1, .int .i64 (parseR t).2.2]) (fun y => y.1) (fun y => CatIn y.1 y.2.1 y.2.2 ∧ y.2.2.map KindR.pure = (parseR t).1 ∧ y.2.1.n ≤ y.2.1.c)) := by
  obtain ⟨L, E, AT, hR⟩ : ∃ L E AT, lexR t = (L, E, AT) := ⟨_, _, _, rfl⟩
  have hlx := fun w' => lex_e (w := w') hR ht
  refine sp_enterL (vs := [_]) Try.func13 rfl Try.ntmps13 rfl ?_
  by_cases hE : E = 0
  · subst hE
    repeat (first|(apply spd_defer rfl;(·(repeat (first|exact eN|(apply eS;(·exact eT rfl))))))|(apply spl_callh (X:=RowS) rfl;(·(repeat (first|exact eN|(apply eS;(·exact eT rfl)))));(·exact fun w' hh => hlx w');(rintro x hx hfx))|apply spd_seq|apply spd_region|apply spd_block|apply spd_skip|(apply spd_cond_f;(·exact eT rfl);(·(rfl)))|apply then_n|apply spl_nil|((apply spl_pure rfl);(·(first|(apply ex_buildE (r:=#[x.val L.length, .int .i64 (t.size : Int), .slice none 0 0]);(·(repeat (first|exact eN|(apply eS;(·exact eT rfl)))));(·rfl);(·rfl))|((first|apply ex_move|apply ex_assign|apply ex_sneq)<;>(exact eT rfl))|((first|apply ex_neq|apply ex_slen)<;>(first|exact eT rfl|exact eC))|((first|apply ex_loadown|apply ex_extract)<;>(first|exact eT rfl|exact Bk.own InH.mem|rfl)))))|(apply spl_box;(·exact eT rfl);(·rfl);intro _ _)|(apply spl_alloc rfl;intro _ _)|(apply spl_store1;(·exact eT rfl);(·exact eT rfl);(·rfl);(·(repeat (first|exact Upd.here|apply Upd.there|apply Upd.app)));(·rfl)))
    rename_i ga hga gb hgb gc hgc gp hgp
    obtain ⟨R0, hR0⟩ : ∃ q, q = x.hp (flatT L) 53 := ⟨_, rfl⟩
    rw [← hR0] at hfx ⊢
    have hfx' : ∀ p ∈ R0, w.heap.size ≤ p.1 := hfx
    have hL : L.length ≤ 5000 := by have := lexR_cnt t; rw [hR] at this; exact this
    have hT0 : TokIn R0 (slR x L.length) L := by
      rw [hR0]
      exact ⟨fun w1 hw1 => RdS.ofRowW (xs := L) (T := 53) hw1 rfl (by show L.length ≤ _; omega) (fun _ _ => rfl) hx, rfl, RowS.le hx⟩
    obtain ⟨Fin, hFin⟩ : ∃ F, F = parseP (t.size : Int) L.length [] L := ⟨_, rfl⟩
    have hPE : ∀ e, Fin = .error e → parseR t = ([], e.1, e.2) := by intro e h; unfold parseR; rw [hR]; simp only [if_true, ← hFin, h]
    have hPK : ∀ ks, Fin = .ok ks → parseR t = (ks, 0, 0) := by intro ks h; unfold parseR; rw [hR]; simp only [if_true, ← hFin, h]
    refine spd_loop (X := (RowS × Heap × List KindR) × Sl × List Tk) (fun y => [(6, true, .pointer (some ⟨gp, 0, none⟩)), (2, true, .pointer (some ⟨ga, 0, none⟩)), (3, true, .pointer (some ⟨gb, 0, none⟩)), (4, true, .pointer (some ⟨gc, 0, none⟩))]) (fun _ => w)
      (fun y => (gp, .cells #[.slice y.2.1.a y.2.1.n y.2.1.c, .int .i64 (t.size : Int), y.1.1.val y.1.2.2.length] 71 (0, 0)) :: (gc, .cells #[.int .i64 AT] 3 (0, 0)) :: (gb, .cells #[.int .i64 0] 27 (0, 0)) :: (ga, .cells #[.slice none 0 0] 24 (0, 0)) :: (y.1.1.hp (flatKd y.1.2.2) 34 ++ (y.1.2.1 ++ (R0 ++ []))))
      (fun y => (∃ f, y.2.2.length ≤ f ∧ Fin = parseP (t.size : Int) f (y.1.2.2.map KindR.pure) y.2.2) ∧ TokIn R0 y.2.1 y.2.2 ∧ y.1.1.ok 3 y.1.2.2.length (flatKd y.1.2.2) ∧ y.1.1.fresh w.heap.size ∧ KInner y.1.2.1 y.1.2.2 ∧ FreshH w.heap.size y.1.2.1 ∧ y.1.2.2.length + y.2.2.length ≤ 1000000) (fun y => y.2.2.length)
      ((RowS.start, [], []), slR x L.length, L) ⟨⟨L.length, Nat.le_refl _, hFin⟩, hT0, RowS.ok_start, RowS.fresh_start, (fun w1 _ y hy => by cases hy), (fun p hp => by cases hp), (by simp only [List.length_nil]; omega)⟩ (by (repeat (first|exact ESub.nil|apply ESub.cons rfl))) rfl (by show HKeep w (_ :: _ :: _ :: _ :: ([] ++ ([] ++ (R0 ++ [])))) _; rw [List.nil_append, List.nil_append]; (repeat (first|exact HKeep.refl|apply HKeep.keep|(apply HKeep.pick;(·(repeat (first|exact Rem.here|apply Rem.app))))))) ?_
    clear hT0 hx
    rintro ⟨⟨r, HI, ks⟩, s, ts⟩ ⟨⟨f, hf, hF⟩, hT, hr, hfr, hIn, hfI, hB⟩
    dsimp only at hf hF hT hr hfr hIn hfI hB ⊢
    have hrow := RowS.drop (xs := flatKd ks) (T := 34) hfr
    have hfI' : ∀ p ∈ HI, w.heap.size ≤ p.1 := hfI
    have hlen := hT.len
    cases ts with
    | nil =>
      have h0 : ¬ (s.n : Int) > 0 := by simp only [List.length_nil] at hlen; omega
      have hfin : Fin = .ok (ks.map KindR.pure) := by rw [hF]; exact parseP_nil
      have hp := hPK _ hfin
      rw [hp]
      repeat (first|(apply spd_cond_f;(·exact eT rfl);(·exact decide_eq_false h0))|apply spd_seq|apply spd_region|apply spd_ret|apply spd_exit|apply then_n|apply spl_nil|apply then_e|apply block_here|((apply spl_pure rfl);(·(first|(apply ex_loadpartE (cs':=#[r.val ks.length]);(·exact eT rfl);(·exact Bk.own InH.mem);(·rfl);(·rfl))|((first|apply ex_move|apply ex_fieldAddr'|apply ex_gtr|apply ex_len|apply ex_nilCheck)<;>(first|exact eT rfl|exact eC))|((apply ex_loadown)<;>(first|exact eT rfl|exact Bk.own InH.mem|rfl)))))|(apply spl_store1;(·exact eT rfl);(·(first|exact eT rfl|exact eC));(·rfl);(·(repeat (first|exact Upd.here|apply Upd.there)));(·rfl))|(apply spl_stores;(·exact eT rfl);(·exact eT rfl);(·(repeat (first|exact Upd.here|apply Upd.there)));(·(rfl));(·(rfl));(·exact ones_of_all rfl)))
      refine leave_idle rfl (fun w' hh => idle_c hh) (by ((apply Res.ofThree<;>(first|(apply Res1.cell;(·rfl);(·exact InH.mem);(·(rfl)))|(apply Res1.cell1;(·rfl);(·exact InH.mem);(·rfl)))))) (fun w' hh => ⟨(r.hp (flatKd ks) 34 ++ (HI ++ []), slR r ks.length, ks), rfl, ⟨by rw [List.append_nil]; exact CatIn.row hr (by omega) hIn, rfl, RowS.le hr⟩, hh.sub ?_⟩)
      (repeat (first|exact HKeep.refl|(apply HKeep.app;(·(repeat (first|exact Split.here|apply Split.cons))))|apply HKeep.drop (by first|assumption|omega)|apply HKeep.dropA (by assumption)))
    | cons t0 q0 =>
      have h0 : (s.n : Int) > 0 := by simp only [List.length_cons] at hlen; omega
      have hKp : ∀ e, kindP (ks.map KindR.pure) (t.size : Int) (t0 :: q0) = .error e → parseR t = ([], e.1, e.2) := by
        intro e he
        obtain ⟨f', rfl⟩ : ∃ f', f = f' + 1 := ⟨f - 1, by simp only [List.length_cons] at hf; omega⟩
        exact hPE e (by rw [hF]; exact parseP_err he)
      repeat (first|(apply spd_cond_t;(·exact eT rfl);(·exact decide_eq_true h0))|apply spd_seq|apply spd_region|apply spd_block|apply spd_skip|apply then_n|apply spl_nil|((apply spl_pure rfl);(·(first|((first|apply ex_move|apply ex_fieldAddr'|apply ex_gtr|apply ex_len|apply ex_nilCheck)<;>(first|exact eT rfl|exact eC))|((apply ex_loadown)<;>(first|exact eT rfl|exact Bk.own InH.mem|rfl))))))
      have hC : CatIn (r.hp (flatKd ks) 34 ++ HI) (slR r ks.length) ks := CatIn.row hr (by omega) hIn
      have hsubC : ∀ p ∈ r.hp (flatKd ks) 34 ++ HI, p ∈ (gc, Obj.cells #[.int .i64 AT] 3 (0, 0)) :: (gb, .cells #[.int .i64 0] 27 (0, 0)) :: (ga, .cells #[.slice none 0 0] 24 (0, 0)) :: (r.hp (flatKd ks) 34 ++ (HI ++ (R0 ++ []))) := by
        intro p hp
        rcases List.mem_append.1 hp with hp | hp
        · exact InSub.sub p hp
        · exact InSub.sub p hp
      have hB1 : (t0 :: q0).length ≤ 1000000 := by omega
      refine spd_drawnP (.rd 0 (.rd 1 (.rd 2 (.rd 3 (.rd 4 (.rd 6 (.fk 5 7 (.ef 7 (.ef 8 (.ef 9 (.rd 10 (.rd 11 (.rd 12 (.ef 13 .nil))))))) (.fk 5 8 (.ef 8 (.ef 9 (.rd 10 (.rd 11 (.rd 12 (.ef 13 .nil)))))) (.ef 5 (.ef 9 (.rd 10 (.rd 11 (.rd 12 (.ef 13 .nil)))))))))))))) 13 [(2, true, .pointer (some ⟨ga, 0, none⟩)), (3, true, .pointer (some ⟨gb, 0, none⟩)), (4, true, .pointer (some ⟨gc, 0, none⟩))] ((gc, .cells #[.int .i64 AT] 3 (0, 0)) :: (gb, .cells #[.int .i64 0] 27 (0, 0)) :: (ga, .cells #[.slice none 0 0] 24 (0, 0)) :: []) mixed (by kernel_rfl) rfl (by (repeat (first|exact HKeep.refl|(apply HKeep.pick;(·(repeat (first|exact Rem.here|apply Rem.there))))|apply HKeep.drop (by first|assumption|omega)|apply HKeep.dropA (by assumption)))) ?_
      repeat (((apply wlp_read rfl rfl);(·(((first|apply ex_move|apply ex_fieldAddr'|apply ex_nilCheck)<;>(exact eT rfl))))))
      refine wlp_fork rfl rfl ?_ ?_
      ·
        repeat (first|(apply spl_callF (X:=(Heap × KindR) × Sl × List Tk) (V:=fun y => .agg y.1.2.cells) (A:=[PB gp s (t.size : Int) (slR r ks.length)]) (AA:=fun y => (gp, .cells #[.slice y.2.1.a y.2.1.n y.2.1.c, .int .i64 (t.size : Int), r.val ks.length] 71 (0, 0)) :: y.1.1) (I:=fun y => kindP (ks.map KindR.pure) (t.size : Int) (t0 :: q0) = .ok (y.1.2.pure, y.2.2) ∧ TokIn R0 y.2.1 y.2.2 ∧ KindOwn y.1.1 y.1.2 ∧ FreshH w.heap.size y.1.1) (F:=fun ch => ∃ e, kindP (ks.map KindR.pure) (t.size : Int) (t0 :: q0) = .error e ∧ ch = panE e) rfl;(·(repeat (first|exact eN|(apply eS;(·exact eT rfl)))));(·(repeat (exact Split.one)));(·(simp only [List.cons_append, List.nil_append];exact fun w' hh => kind_c hT (fun p hp => InSub.sub p hp) (hC.up hsubC) hgp hB1 hh));(·(rintro ch ⟨e_, he_, rfl⟩;(repeat (first|apply then_p|apply block_p|(apply effp_p;(·(repeat (first|exact ESub.nil|apply ESub.cons rfl))))));exact leave_rec rfl (fun w' hh => rec_c hga hgb hgc hh) (by ((apply Res.ofThree<;>(first|(apply Res1.cell;(·rfl);(·exact InH.mem);(·(rfl)))|(apply Res1.cell1;(·rfl);(·exact InH.mem);(·rfl)))))) (fun w' hh => ⟨([], ⟨none, 0, 0⟩, []), (by rw [hKp e_ he_]; rfl), ⟨fun w1 _ => ⟨RdS.none_, fun x hx => by cases hx⟩, (by rw [hKp e_ he_]; rfl), Nat.le_refl _⟩, hh.sub (by (repeat (first|exact HKeep.refl|apply HKeep.drop (by first|assumption|omega)|apply HKeep.dropA (by assumption))))⟩)));(rintro ⟨⟨HN, kr⟩, s5, q5⟩ ⟨hn5, hT5, hk5, hf5⟩;dsimp only at hn5 hT5 hk5 hf5;have hf5' : ∀ p ∈ HN, w.heap.size ≤ p.1 := hf5;simp only [List.cons_append, List.nil_append]))|((apply wlp_read rfl rfl);(·(((first|apply ex_fieldAddr'|apply ex_nilCheck)<;>(exact eT rfl)))))|apply wlp_nil|apply wlp_eff rfl|(apply effp;(·(intro h_;(first|(exact absurd h_ (by decide))|(repeat (first|exact HKeep.refl|(apply HKeep.pick;(·(repeat (first|exact Rem.here|apply Rem.there|apply Rem.app))))|apply HKeep.drop (by first|assumption|omega)|apply HKeep.dropA (by assumption)))))))|apply then_n|apply block_n|apply spl_nil|((apply spl_pure rfl);(·(((apply ex_loadown)<;>(first|exact eT rfl|exact Bk.own InH.mem|rfl)))))|(apply spl_store1;(·exact eT rfl);(·exact eT rfl);(·rfl);(·(repeat (first|exact Upd.here|apply Upd.there|apply Upd.app)));(·rfl))|(apply spl_buildSlice rfl;(·rfl);(·(repeat (first|exact eN|(apply eS;(·exact eT rfl)))));(·rfl);(·rfl);(·rfl);intro _ _)|(refine spl_append_row (r := r) (n := ks.length) (xs := flatKd ks) (news := kr.cells.toList) (m := 1) (by (exact eT rfl)) (by (exact eT rfl)) (by (repeat (first|exact Split.here|apply Split.cons|apply Split.app))) hr hfr (by omega) (fun w' hh => SrcAt.slice (CellsAt.own hh.ownI (fun j u hj => by rw [List.getElem?_toArray]; exact hj)) rfl rfl (fun u hu => (Ones.one : ∀ v ∈ kr.cells, v.oneCell' = true) u (by simpa using hu))) rfl (by omega) rfl rfl rfl rfl ?_;intro r2 hr2 hfr2;have hrow2 := RowS.drop (xs := flatKd ks ++ kr.cells.toList) (T := 34) hfr2))
        obtain ⟨f', rfl⟩ : ∃ f', f = f' + 1 := ⟨f - 1, by simp only [List.length_cons] at hf; omega⟩
        have hF2 : Fin = parseP (t.size : Int) f' ((ks ++ [kr]).map KindR.pure) q5 := by rw [hF, parseP_go hn5, List.map_append]; rfl
        have hq5 : q5.length < (t0 :: q0).length := kindP_len hn5
        have hl1 : (ks ++ [kr]).length = ks.length + 1 := by simp
        rw [flatKd_snoc] at hr2 hrow2 ⊢
        rw [← hl1] at hr2 ⊢
        exact ⟨by trivial, ((r2, HN ++ HI, ks ++ [kr]), s5, q5), ⟨⟨f', by simp only [List.length_cons] at hf hq5; show q5.length ≤ f'; omega, hF2⟩, hT5, hr2, hfr2, hIn.snoc hk5, FreshH.app hf5 hfI, by show (ks ++ [kr]).length + q5.length ≤ 1000000; simp only [List.length_cons] at hB hq5; omega⟩, hq5, (by (repeat (first|exact ESub.nil|apply ESub.cons rfl))), rfl, (by simp only [List.append_assoc]; (repeat (first|exact HKeep.refl|(apply HKeep.app;(·(repeat (first|exact Split.here|apply Split.cons))))|(apply HKeep.pick;(·(repeat (first|exact Rem.here|apply Rem.there|apply Rem.app))))|apply HKeep.drop (by first|assumption|omega))))⟩
      ·
        repeat (first|(apply spl_callF (X:=(Heap × KindR) × Sl × List Tk) (V:=fun y => .agg y.1.2.cells) (A:=[PB gp s (t.size : Int) (slR r ks.length)]) (AA:=fun y => (gp, .cells #[.slice y.2.1.a y.2.1.n y.2.1.c, .int .i64 (t.size : Int), r.val ks.length] 71 (0, 0)) :: y.1.1) (I:=fun y => kindP (ks.map KindR.pure) (t.size : Int) (t0 :: q0) = .ok (y.1.2.pure, y.2.2) ∧ TokIn R0 y.2.1 y.2.2 ∧ KindOwn y.1.1 y.1.2 ∧ FreshH w.heap.size y.1.1) (F:=fun ch => ∃ e, kindP (ks.map KindR.pure) (t.size : Int) (t0 :: q0) = .error e ∧ ch = panE e) rfl;(·(repeat (first|exact eN|(apply eS;(·exact eT rfl)))));(·(repeat (exact Split.one)));(·(simp only [List.cons_append, List.nil_append];exact fun w' hh => kind_c hT (fun p hp => InSub.sub p hp) (hC.up hsubC) hgp hB1 hh));(·(rintro ch ⟨e_, he_, rfl⟩;(repeat (first|apply then_p|apply block_p|(apply effp_p;(·(repeat (first|exact ESub.nil|apply ESub.cons rfl))))));exact leave_rec rfl (fun w' hh => rec_c hga hgb hgc hh) (by ((apply Res.ofThree<;>(first|(apply Res1.cell;(·rfl);(·exact InH.mem);(·(rfl)))|(apply Res1.cell1;(·rfl);(·exact InH.mem);(·rfl)))))) (fun w' hh => ⟨([], ⟨none, 0, 0⟩, []), (by rw [hKp e_ he_]; rfl), ⟨fun w1 _ => ⟨RdS.none_, fun x hx => by cases hx⟩, (by rw [hKp e_ he_]; rfl), Nat.le_refl _⟩, hh.sub (by (repeat (first|exact HKeep.refl|apply HKeep.drop (by first|assumption|omega)|apply HKeep.dropA (by assumption))))⟩)));(rintro ⟨⟨HN, kr⟩, s5, q5⟩ ⟨hn5, hT5, hk5, hf5⟩;dsimp only at hn5 hT5 hk5 hf5;have hf5' : ∀ p ∈ HN, w.heap.size ≤ p.1 := hf5;simp only [List.cons_append, List.nil_append]))|(apply effp;(·(intro h_;((repeat (first|exact HKeep.refl|(apply HKeep.pick;(·(repeat (first|exact Rem.here|apply Rem.there|apply Rem.app))))|apply HKeep.drop (by first|assumption|omega)|apply HKeep.dropA (by assumption)))))))|apply spl_nil)
        refine wlp_fork rfl rfl ?_ ?_
        ·
          repeat (first|((apply wlp_read rfl rfl);(·(((first|apply ex_fieldAddr'|apply ex_nilCheck)<;>(exact eT rfl)))))|apply wlp_nil|apply wlp_eff rfl|(apply effp;(·(intro h_;(first|(exact absurd h_ (by decide))|(repeat (first|exact HKeep.refl|(apply HKeep.pick;(·(repeat (first|exact Rem.here|apply Rem.there|apply Rem.app))))|apply HKeep.drop (by first|assumption|omega)|apply HKeep.dropA (by assumption)))))))|apply then_n|apply block_n|apply spl_nil|((apply spl_pure rfl);(·(((apply ex_loadown)<;>(first|exact eT rfl|exact Bk.own InH.mem|rfl)))))|(apply spl_store1;(·exact eT rfl);(·exact eT rfl);(·rfl);(·(repeat (first|exact Upd.here|apply Upd.there|apply Upd.app)));(·rfl))|(apply spl_buildSlice rfl;(·rfl);(·(repeat (first|exact eN|(apply eS;(·exact eT rfl)))));(·rfl);(·rfl);(·rfl);intro _ _)|(refine spl_append_row (r := r) (n := ks.length) (xs := flatKd ks) (news := kr.cells.toList) (m := 1) (by (exact eT rfl)) (by (exact eT rfl)) (by (repeat (first|exact Split.here|apply Split.cons|apply Split.app))) hr hfr (by omega) (fun w' hh => SrcAt.slice (CellsAt.own hh.ownI (fun j u hj => by rw [List.getElem?_toArray]; exact hj)) rfl rfl (fun u hu => (Ones.one : ∀ v ∈ kr.cells, v.oneCell' = true) u (by simpa using hu))) rfl (by omega) rfl rfl rfl rfl ?_;intro r2 hr2 hfr2;have hrow2 := RowS.drop (xs := flatKd ks ++ kr.cells.toList) (T := 34) hfr2))
          obtain ⟨f', rfl⟩ : ∃ f', f = f' + 1 := ⟨f - 1, by simp only [List.length_cons] at hf; omega⟩
          have hF2 : Fin = parseP (t.size : Int) f' ((ks ++ [kr]).map KindR.pure) q5 := by rw [hF, parseP_go hn5, List.map_append]; rfl
          have hq5 : q5.length < (t0 :: q0).length := kindP_len hn5
          have hl1 : (ks ++ [kr]).length = ks.length + 1 := by simp
          rw [flatKd_snoc] at hr2 hrow2 ⊢
          rw [← hl1] at hr2 ⊢
          exact ⟨by trivial, ((r2, HN ++ HI, ks ++ [kr]), s5, q5), ⟨⟨f', by simp only [List.length_cons] at hf hq5; show q5.length ≤ f'; omega, hF2⟩, hT5, hr2, hfr2, hIn.snoc hk5, FreshH.app hf5 hfI, by show (ks ++ [kr]).length + q5.length ≤ 1000000; simp only [List.length_cons] at hB hq5; omega⟩, hq5, (by (repeat (first|exact ESub.nil|apply ESub.cons rfl))), rfl, (by simp only [List.append_assoc]; (repeat (first|exact HKeep.refl|(apply HKeep.app;(·(repeat (first|exact Split.here|apply Split.cons))))|(apply HKeep.pick;(·(repeat (first|exact Rem.here|apply Rem.there|apply Rem.app))))|apply HKeep.drop (by first|assumption|omega))))⟩
        ·
          repeat (first|((apply wlp_read rfl rfl);(·(((first|apply ex_fieldAddr'|apply ex_nilCheck)<;>(exact eT rfl)))))|apply wlp_nil|apply wlp_eff rfl|(apply effp;(·(intro h_;(first|(exact absurd h_ (by decide))|(repeat (first|exact HKeep.refl|(apply HKeep.pick;(·(repeat (first|exact Rem.here|apply Rem.there|apply Rem.app))))|apply HKeep.drop (by first|assumption|omega)|apply HKeep.dropA (by assumption)))))))|apply then_n|apply block_n|apply spl_nil|((apply spl_pure rfl);(·(((apply ex_loadown)<;>(first|exact eT rfl|exact Bk.own InH.mem|rfl)))))|(apply spl_store1;(·exact eT rfl);(·exact eT rfl);(·rfl);(·(repeat (first|exact Upd.here|apply Upd.there|apply Upd.app)));(·rfl))|(apply spl_buildSlice rfl;(·rfl);(·(repeat (first|exact eN|(apply eS;(·exact eT rfl)))));(·rfl);(·rfl);(·rfl);intro _ _)|(refine spl_append_row (r := r) (n := ks.length) (xs := flatKd ks) (news := kr.cells.toList) (m := 1) (by (exact eT rfl)) (by (exact eT rfl)) (by (repeat (first|exact Split.here|apply Split.cons|apply Split.app))) hr hfr (by omega) (fun w' hh => SrcAt.slice (CellsAt.own hh.ownI (fun j u hj => by rw [List.getElem?_toArray]; exact hj)) rfl rfl (fun u hu => (Ones.one : ∀ v ∈ kr.cells, v.oneCell' = true) u (by simpa using hu))) rfl (by omega) rfl rfl rfl rfl ?_;intro r2 hr2 hfr2;have hrow2 := RowS.drop (xs := flatKd ks ++ kr.cells.toList) (T := 34) hfr2))
          obtain ⟨f', rfl⟩ : ∃ f', f = f' + 1 := ⟨f - 1, by simp only [List.length_cons] at hf; omega⟩
          have hF2 : Fin = parseP (t.size : Int) f' ((ks ++ [kr]).map KindR.pure) q5 := by rw [hF, parseP_go hn5, List.map_append]; rfl
          have hq5 : q5.length < (t0 :: q0).length := kindP_len hn5
          have hl1 : (ks ++ [kr]).length = ks.length + 1 := by simp
          rw [flatKd_snoc] at hr2 hrow2 ⊢
          rw [← hl1] at hr2 ⊢
          exact ⟨by trivial, ((r2, HN ++ HI, ks ++ [kr]), s5, q5), ⟨⟨f', by simp only [List.length_cons] at hf hq5; show q5.length ≤ f'; omega, hF2⟩, hT5, hr2, hfr2, hIn.snoc hk5, FreshH.app hf5 hfI, by show (ks ++ [kr]).length + q5.length ≤ 1000000; simp only [List.length_cons] at hB hq5; omega⟩, hq5, (by (repeat (first|exact ESub.nil|apply ESub.cons rfl))), rfl, (by simp only [List.append_assoc]; (repeat (first|exact HKeep.refl|(apply HKeep.app;(·(repeat (first|exact Split.here|apply Split.cons))))|(apply HKeep.pick;(·(repeat (first|exact Rem.here|apply Rem.there|apply Rem.app))))|apply HKeep.drop (by first|assumption|omega))))⟩
  · have hp : parseR t = ([], E, AT) := by unfold parseR; rw [hR]; simp only [if_neg hE]
    rw [hp]
    repeat (first|(apply spd_cond_t;(·exact eT rfl);(·(simp [hE])))|(apply spl_callh (X:=RowS) rfl;(·(repeat (first|exact eN|(apply eS;(·exact eT rfl)))));(·exact fun w' hh => hlx w');(rintro x hx hfx))|apply spd_seq|apply spd_region|apply then_n|apply spl_nil|((apply spl_pure rfl);(·(first|((first|apply ex_move|apply ex_assign|apply ex_sneq)<;>(exact eT rfl))|((apply ex_neq)<;>(first|exact eT rfl|exact eC))|((first|apply ex_loadown|apply ex_extract)<;>(first|exact eT rfl|exact Bk.own InH.mem|rfl)))))|(apply spl_alloc rfl;intro _ _)|(apply spl_store1;(·exact eT rfl);(·exact eT rfl);(·rfl);(·(repeat (first|exact Upd.here|apply Upd.there|apply Upd.app)));(·rfl)))
    rename_i ga hga gb hgb gc hgc
    refine spd_drawnP (.rd 0 (.rd 1 (.rd 2 (.ef 3 (.ef 4 (.ef 5 .nil)))))) 6 [] _ mixed (by kernel_rfl) rfl HKeep.refl ?_
    repeat (first|apply spd_ret|((apply wlp_read rfl rfl);(·(first|(apply ex_buildE (r:=#[.slice none 0 0]);(·(repeat (exact eN)));(·rfl);(·rfl))|((apply ex_loadown)<;>(first|exact eT rfl|exact Bk.own InH.mem|rfl)))))|apply wlp_nil|apply wlp_eff rfl|(apply effp;(·(intro h_;((repeat (exact HKeep.refl))))))|apply then_n|apply spl_nil|apply then_r|(apply spl_store1;(·exact eT rfl);(·exact eT rfl);(·rfl);(·(repeat (first|exact Upd.here|apply Upd.there|apply Upd.app)));(·rfl))|(apply spl_stores;(·exact eT rfl);(·exact eT rfl);(·(repeat (first|exact Upd.here|apply Upd.there|apply Upd.app)));(·(rfl));(·(rfl));(·exact ones_of_all rfl)))
    refine leave_ret rfl (by ((apply Res.ofThree<;>(first|(apply Res1.cell;(·rfl);(·exact InH.mem);(·(rfl)))|(apply Res1.cell1;(·rfl);(·exact InH.mem);(·rfl)))))) (fun w' hh => ⟨([], ⟨none, 0, 0⟩, []), rfl, ⟨fun w1 _ => ⟨RdS.none_, fun x hx => by cases hx⟩, rfl, Nat.le_refl _⟩, hh.sub ?_⟩)
    (repeat (first|exact HKeep.refl|apply HKeep.drop (by first|assumption|omega)|apply HKeep.dropA (by assumption)))
end Go.Proofs.Ytfdjlphfohnnnaa
/-
  Contracts: the line of a kind.
-/
namespace Go.Proofs.Ytfdjlphfohnnnaa
open Go.RowKit Go.Sy
set_option linter.unusedVariables false
set_option linter.unusedSimpArgs false
def sp1 : ByteArray := ⟨#[32]⟩
def sc2 : ByteArray := ⟨#[59, 32]⟩
theorem tx_join (sep : ByteArray) : ∀ xs : List ByteArray, tx (joinB sep xs) = joinX (tx sep) (xs.map tx)
  | [] => rfl
  | x :: r => by
    show tx (jn sep x r) = _
    rw [tx_jn]
    have key : ∀ (r : List ByteArray) (a : List UInt8), a ++ (r.flatMap fun y => tx sep ++ tx y) = a ++ (match r.map tx with | [] => [] | z :: q => tx sep ++ joinX (tx sep) (z :: q)) := by
      intro r
      induction r with
      | nil => intro a; rfl
      | cons y q ih =>
        intro a
        have := ih (a ++ (tx sep ++ tx y))
        rw [List.flatMap_cons, ← List.append_assoc, this]
        simp only [List.map_cons, joinX]
        cases q <;> simp [joinX]
    rw [key r (tx x)]
    cases r <;> rfl
/-- The text of a slot. -/
def slotB (s : PSlot) : ByteArray := ofL (slotX s)
def lineB (k : PKind) : ByteArray := ofL (lineX k)
theorem joinX_len {sep : List UInt8} {m : Nat} (hs : sep.length ≤ 10) : ∀ {l : List (List UInt8)}, (∀ x ∈ l, x.length ≤ m) → (joinX sep l).length ≤ l.length * (m + 10)
  | [], _ => Nat.zero_le _
  | x :: r, h => by
    have h1 := h x (.head _)
    have h2 := joinX_len (m := m) hs (l := r) fun y hy => h y (.tail _ hy)
    cases r with
    | nil => simp [joinX]; omega
    | cons y q => simp only [joinX, List.length_append, List.length_cons] at *; rw [Nat.add_mul]; omega
theorem name_size {x : ByteArray} (h : nameL (tx x) = true) : 0 < x.size ∧ x.size ≤ 24 := by
  have hl := tx_len x
  cases hx : tx x with
  | nil => rw [hx] at h; cases h
  | cons c r =>
    rw [hx] at h hl
    simp only [nameL, Bool.and_eq_true, decide_eq_true_eq] at h
    simp only [List.length_cons] at hl h
    omega
theorem slotB_size {s : PSlot} (h : SlotP s) : 0 < (slotB s).size ∧ (slotB s).size ≤ 4200 := by
  have h0 := name_size h.nm
  rw [← tx_len] at h0
  have hk : ∀ x ∈ (s.kinds.take s.normal).map tx, x.length ≤ 24 := fun x hx => by
    obtain ⟨y, hy, rfl⟩ := List.mem_map.1 hx
    rw [tx_len]; exact (name_size (h.nms y (List.mem_of_mem_take hy))).2
  have hk2 : ∀ x ∈ (s.kinds.drop s.normal).map tx, x.length ≤ 24 := fun x hx => by
    obtain ⟨y, hy, rfl⟩ := List.mem_map.1 hx
    rw [tx_len]; exact (name_size (h.nms y (List.mem_of_mem_drop hy))).2
  have j1 := joinX_len (sep := [32]) (m := 24) (by simp) hk
  have j2 := joinX_len (sep := [32]) (m := 24) (by simp) hk2
  have hf := h.few
  unfold slotB
  rw [size_ofL]
  unfold slotX
  simp only [List.length_append, List.length_cons, List.length_nil, List.length_map, List.length_take, List.length_drop] at *
  split
  · simp only [List.length_append, List.length_cons, List.length_nil]; omega
  · simp only [List.length_nil]; omega
/-! The same as the code puts it together. -/
theorem slot_one {s : PSlot} (h : ¬ s.normal < s.kinds.length) : (s.name ++ ⟨#[58, 32]⟩) ++ joinB sp1 (s.kinds.take s.normal) = slotB s := by
  apply tx_inj
  unfold slotB slotX
  rw [tx_ofL, tx_append, tx_append, tx_join, if_neg h, List.append_nil, List.append_assoc]
  all_goals rfl
theorem slot_two {s : PSlot} (h : s.normal < s.kinds.length) : ((s.name ++ ⟨#[58, 32]⟩) ++ joinB sp1 (s.kinds.take s.normal)) ++ (⟨#[32, 43, 32]⟩ ++ joinB sp1 (s.kinds.drop s.normal)) = slotB s := by
  apply tx_inj
  unfold slotB slotX
  rw [tx_ofL, tx_append, tx_append, tx_append, tx_append, tx_join, tx_join, if_pos h]
  simp only [List.append_assoc]
  rfl
def headB (v : Bool) : ByteArray := if v then wVehicle else wKind
theorem line_one {k : PKind} (h : k.slots = []) : joinB sp1 [headB k.vehicle, k.name] ++ ⟨#[59, 10]⟩ = lineB k := by
  apply tx_inj
  unfold lineB lineX headB
  rw [tx_ofL, tx_append, tx_join, h]
  cases k.vehicle <;> simp [joinX, sp1, tx]
theorem line_two {k : PKind} (h : k.slots ≠ []) : joinB sp1 [headB k.vehicle, k.name, (⟨#[40]⟩ ++ joinB sc2 (k.slots.map slotB)) ++ ⟨#[41]⟩] ++ ⟨#[59, 10]⟩ = lineB k := by
  apply tx_inj
  unfold lineB lineX headB
  cases hs : k.slots with
  | nil => exact absurd hs h
  | cons s r =>
    have hm : (slotB s :: r.map slotB).map tx = (s :: r).map slotX := by
      show ((s :: r).map slotB).map tx = _
      rw [List.map_map]
      apply List.map_congr_left
      intro x _
      show tx (ofL (slotX x)) = slotX x
      rw [tx_ofL]
    rw [tx_ofL, tx_append, tx_join]
    simp only [List.map_cons, List.map_nil, joinX]
    rw [tx_append, tx_append, tx_join, hm]
    cases k.vehicle <;> simp [bodyX, sp1, sc2, tx]
theorem lineB_size {k : PKind} (h : KindP k) : 0 < (lineB k).size ∧ (lineB k).size ≤ 60000 := by
  have h0 := name_size h.nm
  rw [← tx_len] at h0
  have hk : ∀ x ∈ k.slots.map slotX, x.length ≤ 4200 := fun x hx => by
    obtain ⟨y, hy, rfl⟩ := List.mem_map.1 hx
    have := (slotB_size (h.slots y hy)).2
    unfold slotB at this
    rwa [size_ofL] at this
  have j1 := joinX_len (sep := [59, 32]) (m := 4200) (by simp) hk
  have hf := h.few
  obtain ⟨W, hW, hw⟩ : ∃ W, (if k.vehicle then tx wVehicle else tx wKind) = W ∧ W.length ≤ 7 := ⟨_, rfl, by cases k.vehicle <;> decide⟩
  unfold lineB
  rw [size_ofL]
  unfold lineX bodyX
  rw [hW]
  rw [List.length_map] at j1
  generalize hY : joinX [59, 32] (k.slots.map slotX) = Y at j1
  cases hs : k.slots with
  | nil => simp only [List.length_append, List.length_cons, List.length_nil]; omega
  | cons s r =>
    rw [hs] at hY hf j1
    simp only [hY, List.length_append, List.length_cons, List.length_nil] at *; omega
end Go.Proofs.Ytfdjlphfohnnnaa
/-
  Contracts: the line of a kind, walked.
-/
namespace Go.Proofs.Ytfdjlphfohnnnaa
open Go.RowKit Go.Sy
set_option linter.unusedVariables false
set_option linter.unusedSimpArgs false
theorem ex_saddZ {P : Program} {Be : Nat} {w0 : World} {H : Heap} {G : Bool} {e : Env} {ty t t' : TypeId} {x y : Operand} {r s : ByteArray} (h1 : Ev G e x (.string r)) (h2 : Ev G e y (.string s)) (hr : r.size ≤ 1000000000) (hs : s.size ≤ 1000000000) : Ex P Be w0 H G e (.binOp .add t x y t') ty (.string (r ++ s)) := ex_sadd h1 h2 (by omega)
theorem ex_saddO {P : Program} {Be : Nat} {w0 : World} {H : Heap} {G : Bool} {e : Env} {ty t t' : TypeId} {x y : Operand} {r s o : ByteArray} (ho : r ++ s = o) (h1 : Ev G e x (.string r)) (h2 : Ev G e y (.string s)) (hr : r.size ≤ 1000000000) (hs : s.size ≤ 1000000000) : Ex P Be w0 H G e (.binOp .add t x y t') ty (.string o) := by
  subst ho; exact ex_sadd h1 h2 (by omega)
theorem ex_indexAddrO {P : Program} {Be : Nat} {w0 : World} {H : Heap} {G : Bool} {e : Env} {ty t el : TypeId} {x y : Operand} {k : IntKind} {i j g : Nat} {n c sz : Nat} (h : Ev G e x (.slice (some ⟨g, 0, none⟩) n c)) (h2 : Ev G e y (.int k (i : Int))) (hi : i < n) (hj : i * sz = j) [ht : TSlice P t el] [hs : TSize P el sz] :
    Ex P Be w0 H G e (.indexAddr t x y) ty (.pointer (some ⟨g, j, none⟩)) := by
  have := ex_indexAddr (P := P) (Be := Be) (w0 := w0) (H := H) (ty := ty) h h2 rfl hi (ht := ht) (hs := hs)
  rwa [addr_add, Nat.zero_add, hj] at this
theorem join_z {sep : ByteArray} {xs : List ByteArray} (h : ∀ x ∈ xs, x.size ≤ 4200) (hn : xs.length ≤ 100) (hs : sep.size ≤ 10) : (joinB sep xs).size ≤ 1000000 := by
  have := joinX_len (sep := tx sep) (m := 4200) (by rw [tx_len]; exact hs) (l := xs.map tx) fun x hx => by
    obtain ⟨y, hy, rfl⟩ := List.mem_map.1 hx
    rw [tx_len]; exact h y hy
  rw [← tx_join, tx_len, List.length_map] at this
  have h2 : xs.length * (4200 + 10) ≤ 100 * 4210 := Nat.mul_le_mul_right _ hn
  omega
attribute [local irreducible] Calls thenQ blockQ retQ retFQ Spc Spl Spq Ex Ev Evs Gd Upd ESub HKeep Res Res1 wlk effQ Rem SrcAt Split joinB slotB lineB
set_option maxRecDepth 100000 in
set_option maxHeartbeats 8000000 in
theorem line_c {w : World} {k : KindR} (h : RdSlots w w.heap.size k.ss k.slots) (hp : KindP k.pure) (hn : ∀ s ∈ k.slots, 1 ≤ s.normal) :
    Calls Try.prog 30 #[.agg k.cells] w (Ret w (.string (lineB k.pure))) := by
  obtain ⟨texts, htx⟩ : ∃ l, l = k.slots.map (fun s => slotB s.pure) := ⟨_, rfl⟩
  have hlen : k.slots.length = k.ss.n := h.1.len
  have hbd : k.ss.n ≤ 12 := by have := hp.few; simp only [KindR.pure, List.length_map] at this; omega
  have htl : texts.length = k.ss.n := by rw [htx, List.length_map]; exact hlen
  have hps : ∀ s ∈ k.slots, SlotP s.pure := fun s hs => hp.slots _ (List.mem_map.2 ⟨s, hs, rfl⟩)
  have hts : ∀ x ∈ texts, 0 < x.size ∧ x.size ≤ 4200 := fun x hx => by
    rw [htx] at hx
    obtain ⟨s, hs, rfl⟩ := List.mem_map.1 hx
    exact slotB_size (hps s hs)
  have hnm := name_size hp.nm
  refine sp_enter (vs := [_]) Try.func30 rfl Try.ntmps30 rfl ?_
  repeat (first|apply then_n|apply sp_seq|apply sp_region|apply spl_nil|apply sp_block|((apply spl_pure rfl);(·(first|((first|apply ex_move|apply ex_assign|apply ex_fieldAddr'|apply ex_len)<;>(first|exact eT rfl|exact eC))|((apply ex_loadown)<;>(first|exact eT rfl|exact Bk.own InH.mem|rfl)))))|(apply spl_box;(·exact eT rfl);(·rfl);intro _ _))
  rename_i g1 hg1
  refine sp_loop (X := Nat × RowS) (fun y => [(11, true, .int .i64 (y.1 : Int)), (10, true, .int .i64 (k.ss.n : Int)), (9, true, .slice k.ss.a k.ss.n k.ss.c), (3, true, y.2.val y.1), (1, true, .pointer (some ⟨g1, 0, none⟩))]) (fun _ => w) (fun y => y.2.hp (flatS (texts.take y.1)) 9 ++ [(g1, .cells k.cells 34 (0, 0))])
    (fun y => y.1 ≤ k.ss.n ∧ y.2.ok 1 y.1 (flatS (texts.take y.1)) ∧ y.2.fresh w.heap.size) (fun y => k.ss.n - y.1) (0, RowS.start) ⟨Nat.zero_le _, RowS.ok_start, RowS.fresh_start⟩ (by (repeat (first|exact ESub.nil|apply ESub.cons rfl))) rfl (by (repeat (exact HKeep.refl))) ?_
  rintro ⟨i, r⟩ ⟨hi, hr, hfr⟩
  dsimp only at hi hr hfr ⊢
  have hrow := RowS.drop (xs := flatS (texts.take i)) (T := 9) hfr
  by_cases hlt : i < k.ss.n
  · obtain ⟨ad, s, hA, hb, hs, hsz, hc⟩ := h.1.at_ hlt
    have hmem := List.mem_of_getElem? hs
    have hsp := hps s hmem
    have hsn := hn s hmem
    obtain ⟨hks, hkc⟩ := h.2 s hmem
    have hkl := hks.len
    have hle : s.normal.toNat ≤ s.kinds.length := hsp.le
    have hf6 : s.kinds.length ≤ 60 := hsp.few
    have hks1 : RdS w w.heap.size 1 strC s.ks.a s.normal.toNat (s.kinds.take s.normal.toNat) := hks.take (by omega)
    have hks2 := RdS.cut (c := s.ks.c) (m := s.normal.toNat) hks (by omega) hkc
    have hsm : ∀ x ∈ s.kinds, 0 < x.size ∧ x.size ≤ 24 := fun x hx => name_size (hsp.nms x hx)
    have hj1 : (joinB sp1 (s.kinds.take s.normal.toNat)).size ≤ 1000000000 := by
      have := join_z (sep := sp1) (xs := s.kinds.take s.normal.toNat) (fun x hx => by have := hsm x (List.mem_of_mem_take hx); omega) (by rw [List.length_take]; omega) (by decide)
      omega
    have hj2 : (joinB sp1 (s.kinds.drop s.normal.toNat)).size ≤ 1000000000 := by
      have := join_z (sep := sp1) (xs := s.kinds.drop s.normal.toNat) (fun x hx => by have := hsm x (List.mem_of_mem_drop hx); omega) (by rw [List.length_drop]; omega) (by decide)
      omega
    have hz0 := (name_size hsp.nm).2
    have hz0' : s.name.size ≤ 1000000000 := by show s.pure.name.size ≤ _; omega
    have hz1 : (s.name ++ ⟨#[58, 32]⟩).size ≤ 1000000000 := by rw [ByteArray.size_append]; show s.pure.name.size + 2 ≤ _; omega
    have hj1' : (joinB sp1 (s.kinds.take s.normal.toNat)).size ≤ 1000000 := join_z (sep := sp1) (xs := s.kinds.take s.normal.toNat) (fun x hx => by have := hsm x (List.mem_of_mem_take hx); omega) (by rw [List.length_take]; omega) (by decide)
    have hj2' : (joinB sp1 (s.kinds.drop s.normal.toNat)).size ≤ 1000000 := join_z (sep := sp1) (xs := s.kinds.drop s.normal.toNat) (fun x hx => by have := hsm x (List.mem_of_mem_drop hx); omega) (by rw [List.length_drop]; omega) (by decide)
    have hz2 : ((s.name ++ ⟨#[58, 32]⟩) ++ joinB sp1 (s.kinds.take s.normal.toNat)).size ≤ 1000000000 := by rw [ByteArray.size_append, ByteArray.size_append]; show s.pure.name.size + 2 + _ ≤ _; omega
    have hz3 : ((⟨#[32, 43, 32]⟩ : ByteArray) ++ joinB sp1 (s.kinds.drop s.normal.toNat)).size ≤ 1000000000 := by rw [ByteArray.size_append]; show 3 + _ ≤ _; omega
    have hnb : 0 ≤ s.normal ∧ s.normal ≤ (s.ks.c : Int) := by constructor <;> omega
    have htk : texts[i]? = some (slotB s.pure) := by rw [htx, List.getElem?_map, hs]; rfl
    have hsucc : flatS (texts.take (i + 1)) = flatS (texts.take i) ++ (strC (slotB s.pure)).toList := by rw [take_succ htk, ← flatS_snoc]
    by_cases hno : s.normal.toNat < s.kinds.length
    · have hcond : s.normal < (s.ks.n : Int) := by omega
      have hsl : (((s.name ++ ⟨#[58, 32]⟩) ++ joinB sp1 (s.kinds.take s.normal.toNat)) ++ (⟨#[32, 43, 32]⟩ ++ joinB sp1 (s.kinds.drop s.normal.toNat))) = slotB s.pure := slot_two (s := s.pure) hno
      repeat (first|(apply sp_cond_t;(·exact eT rfl);(·exact decide_eq_true hcond))|(apply spq_callp rfl;(·(repeat (first|exact eN|(apply eS;(·(first|exact eT rfl|exact eC))))));(·exact fun w' hh => join_c (hks1.hp' hh) (by omega) (fun x hx => by have := hsm x (List.mem_of_mem_take hx); omega) (by omega) (by decide)))|(apply spl_callp rfl;(·(repeat (first|exact eN|(apply eS;(·(first|exact eT rfl|exact eC))))));(·exact fun w' hh => join_c (hks2.hp' hh) (by omega) (fun x hx => by have := hsm x (List.mem_of_mem_drop hx); omega) (by omega) (by decide)))|apply then_n|apply block_n|apply sp_seq|apply sp_region|apply spl_nil|((apply sp_cond_t);(·exact eT rfl);(·(exact decide_eq_true (by omega))))|apply sp_skip|apply sp_block|((first|apply spl_pure rfl|apply spq_pure rfl);(·(first|(apply ex_loadelem;(·exact eT rfl);(·exact h.1);(·exact hA);(·exact hs))|(apply ex_saddZ;(·(first|exact eT rfl|exact eC));(·(first|exact eT rfl|exact eC));(·(first|assumption|decide));(·(first|assumption|decide)))|(apply ex_slice_h;(·exact eT rfl);(·exact eT rfl);(·exact hnb))|(apply ex_slice_lE (m:=s.normal.toNat);(·exact eT rfl);(·(rw [Int.toNat_of_nonneg hnb.1];(exact eT rfl)));(·(constructor<;>omega)))|((first|apply ex_move|apply ex_assign|apply ex_fieldAddr'|apply ex_lss|apply ex_len)<;>(exact eT rfl))|((apply ex_addn)<;>(first|exact eT rfl|exact eC|(constructor<;>omega)))|((first|apply ex_loadown|apply ex_indexAddr)<;>(first|exact eT rfl|exact Bk.own InH.mem|rfl|assumption)))))|(apply spl_alloc rfl;intro _ _)|(apply spl_stores;(·exact eT rfl);(·exact eT rfl);(·(repeat (exact Upd.here)));(·(rfl));(·(rfl));(·exact Ones.one))|(apply spl_buildSlice rfl;(·rfl);(·(repeat (first|exact eN|(apply eS;(·exact eT rfl)))));(·rfl);(·rfl);(·rfl);intro _ _)|apply spq_nil|apply sp_draw mixed (by kernel_rfl)|(refine spl_append_row (r := r) (n := i) (xs := flatS (texts.take i)) (news := (strC (((s.name ++ ⟨#[58, 32]⟩) ++ joinB sp1 (s.kinds.take s.normal.toNat)) ++ (⟨#[32, 43, 32]⟩ ++ joinB sp1 (s.kinds.drop s.normal.toNat)))).toList) (m := 1) (by (exact eT rfl)) (by (exact eT rfl)) (by (repeat (first|exact Split.here|apply Split.cons))) hr hfr (by omega) (fun w' hh => SrcAt.slice (CellsAt.own hh.ownI (fun j u hj => by rw [List.getElem?_toArray]; exact hj)) rfl rfl (fun v hv => by simp [strC] at hv; subst hv; rfl)) rfl (by omega) rfl rfl rfl rfl ?_;intro r2 hr2 hfr2;have hrow2 := RowS.drop (xs := flatS (texts.take i) ++ (strC (((s.name ++ ⟨#[58, 32]⟩) ++ joinB sp1 (s.kinds.take s.normal.toNat)) ++ (⟨#[32, 43, 32]⟩ ++ joinB sp1 (s.kinds.drop s.normal.toNat)))).toList) (T := 9) hfr2))
      rw [hsl, ← hsucc] at hr2 hrow2 ⊢
      exact ⟨(i + 1, r2), ⟨hlt, hr2, hfr2⟩, by (show k.ss.n - (i + 1) < k.ss.n - i; omega), (by (repeat (first|exact ESub.nil|apply ESub.cons rfl))), rfl, (by (repeat (first|exact HKeep.refl|(apply HKeep.app;(·(repeat (exact Split.here))))|(apply HKeep.pick;(·(repeat (first|exact Rem.here|apply Rem.there))))|apply HKeep.drop (by first|assumption|omega))))⟩
    · have hcond : ¬ s.normal < (s.ks.n : Int) := by omega
      have hsl : ((s.name ++ ⟨#[58, 32]⟩) ++ joinB sp1 (s.kinds.take s.normal.toNat)) = slotB s.pure := slot_one (s := s.pure) hno
      repeat (first|(apply sp_cond_f;(·exact eT rfl);(·exact decide_eq_false hcond))|(apply spq_callp rfl;(·(repeat (first|exact eN|(apply eS;(·(first|exact eT rfl|exact eC))))));(·exact fun w' hh => join_c (hks1.hp' hh) (by omega) (fun x hx => by have := hsm x (List.mem_of_mem_take hx); omega) (by omega) (by decide)))|apply then_n|apply block_n|apply sp_seq|apply sp_region|apply spl_nil|((apply sp_cond_t);(·exact eT rfl);(·(exact decide_eq_true (by omega))))|apply sp_skip|apply sp_block|((first|apply spl_pure rfl|apply spq_pure rfl);(·(first|(apply ex_loadelem;(·exact eT rfl);(·exact h.1);(·exact hA);(·exact hs))|(apply ex_saddZ;(·exact eT rfl);(·(first|exact eT rfl|exact eC));(·(assumption));(·(first|assumption|decide)))|(apply ex_slice_h;(·exact eT rfl);(·exact eT rfl);(·exact hnb))|((first|apply ex_move|apply ex_assign|apply ex_fieldAddr'|apply ex_lss|apply ex_len)<;>(exact eT rfl))|((apply ex_addn)<;>(first|exact eT rfl|exact eC|(constructor<;>omega)))|((first|apply ex_loadown|apply ex_indexAddr)<;>(first|exact eT rfl|exact Bk.own InH.mem|rfl|assumption)))))|(apply spl_alloc rfl;intro _ _)|(apply spl_stores;(·exact eT rfl);(·exact eT rfl);(·(repeat (exact Upd.here)));(·(rfl));(·(rfl));(·exact Ones.one))|(apply spl_buildSlice rfl;(·rfl);(·(repeat (first|exact eN|(apply eS;(·exact eT rfl)))));(·rfl);(·rfl);(·rfl);intro _ _)|apply spq_nil|apply sp_draw mixed (by kernel_rfl)|(refine spl_append_row (r := r) (n := i) (xs := flatS (texts.take i)) (news := (strC ((s.name ++ ⟨#[58, 32]⟩) ++ joinB sp1 (s.kinds.take s.normal.toNat))).toList) (m := 1) (by (exact eT rfl)) (by (exact eT rfl)) (by (repeat (first|exact Split.here|apply Split.cons))) hr hfr (by omega) (fun w' hh => SrcAt.slice (CellsAt.own hh.ownI (fun j u hj => by rw [List.getElem?_toArray]; exact hj)) rfl rfl (fun v hv => by simp [strC] at hv; subst hv; rfl)) rfl (by omega) rfl rfl rfl rfl ?_;intro r2 hr2 hfr2;have hrow2 := RowS.drop (xs := flatS (texts.take i) ++ (strC ((s.name ++ ⟨#[58, 32]⟩) ++ joinB sp1 (s.kinds.take s.normal.toNat))).toList) (T := 9) hfr2))
      rw [hsl, ← hsucc] at hr2 hrow2 ⊢
      exact ⟨(i + 1, r2), ⟨hlt, hr2, hfr2⟩, by (show k.ss.n - (i + 1) < k.ss.n - i; omega), (by (repeat (first|exact ESub.nil|apply ESub.cons rfl))), rfl, (by (repeat (first|exact HKeep.refl|(apply HKeep.app;(·(repeat (exact Split.here))))|(apply HKeep.pick;(·(repeat (first|exact Rem.here|apply Rem.there))))|apply HKeep.drop (by first|assumption|omega))))⟩
  · have hie : i = k.ss.n := by omega
    subst hie
    have hall : texts.take k.ss.n = texts := List.take_of_length_le (by omega)
    rw [hall] at hr hrow ⊢
    have hnz : k.pure.name.size ≤ 1000000000 := by omega
    have hjz : ∀ xs : List ByteArray, (∀ x ∈ xs, x.size ≤ 4200) → xs.length ≤ 100 → (joinB sp1 xs).size ≤ 1000000000 := fun xs h1 h2 => by have := join_z (sep := sp1) h1 h2 (by decide); omega
    have hm1 : ∀ v, ∀ x ∈ [headB v, k.name], 0 < x.size ∧ x.size ≤ 4200 := fun v x hx => by
      rcases List.mem_cons.1 hx with rfl | hx
      · cases v <;> decide
      · rcases List.mem_cons.1 hx with rfl | hx
        · exact ⟨hnm.1, Nat.le_trans hnm.2 (by decide)⟩
        · cases hx
    have hR1 : ∀ (v : Bool) (g : Nat) (w' : World), w'.heap[g]? = some (.cells #[.string (headB v), .string k.name] 9 (0, 0)) → Calls Try.prog 55 #[.slice (some ⟨g, 0, none⟩) 2 2, .string sp1] w' (Ret w' (.string (joinB sp1 [headB v, k.name]))) := fun v g w' hg =>
      join_c (RdS.ofFlat (C := strC) hg (Array.getElem?_eq_some_iff.1 hg).1 rfl (by decide) (fun _ _ => rfl) rfl) (Nat.le_refl _) (fun x hx => ⟨(hm1 v x hx).1, by have := (hm1 v x hx).2; omega⟩) (by decide) (by decide)
    have hz1 : ∀ v, (joinB sp1 [headB v, k.name]).size ≤ 1000000000 := fun v => hjz _ (fun x hx => (hm1 v x hx).2) (by simp)
    have hfin : ∀ v, k.vehicle = v → k.slots = [] → joinB sp1 [headB v, k.name] ++ ⟨#[59, 10]⟩ = lineB k.pure := fun v hv hs => by
      have := line_one (k := k.pure) (by show k.slots.map SlotR.pure = []; rw [hs]; rfl)
      rw [← this, ← hv]; rfl
    have hbz : (joinB sc2 texts).size ≤ 60000 := by
      have := joinX_len (sep := tx sc2) (m := 4200) (by decide) (l := texts.map tx) fun x hx => by
        obtain ⟨y, hy, rfl⟩ := List.mem_map.1 hx
        rw [tx_len]; exact (hts y hy).2
      rw [← tx_join, tx_len, List.length_map] at this
      have h2 : texts.length * (4200 + 10) ≤ 12 * 4210 := Nat.mul_le_mul_right _ (by omega)
      exact Nat.le_trans (Nat.le_trans this h2) (by decide)
    obtain ⟨body, hbody⟩ : ∃ b, b = ((⟨#[40]⟩ : ByteArray) ++ joinB sc2 texts) ++ ⟨#[41]⟩ := ⟨_, rfl⟩
    have hbz1 : (joinB sc2 texts).size ≤ 1000000000 := by omega
    have hbz2 : ((⟨#[40]⟩ : ByteArray) ++ joinB sc2 texts).size ≤ 1000000000 := by rw [ByteArray.size_append]; show 1 + _ ≤ _; omega
    have hbz3 : 0 < body.size ∧ body.size ≤ 100000 := by rw [hbody, ByteArray.size_append, ByteArray.size_append]; show 0 < 1 + _ + 1 ∧ 1 + _ + 1 ≤ _; omega
    have hR2 : ∀ (v : Bool) (g c : Nat) (tl : List Value) (w' : World), 3 ≤ c → w'.heap[g]? = some (.cells ([Value.string (headB v), .string k.name, .string body] ++ tl).toArray 9 (0, 0)) → Calls Try.prog 55 #[.slice (some ⟨g, 0, none⟩) 3 c, .string sp1] w' (Ret w' (.string (joinB sp1 [headB v, k.name, body]))) := fun v g c tl w' hc hg =>
      join_c (RdS.ofRow (C := strC) (tail := tl) (xs := [headB v, k.name, body]) hg (Array.getElem?_eq_some_iff.1 hg).1 rfl (by decide) (fun _ _ => rfl)) hc (fun x hx => by
        rcases List.mem_cons.1 hx with rfl | hx
        · have := hm1 v _ (.head _); omega
        · rcases List.mem_cons.1 hx with rfl | hx
          · have := hm1 v _ (.tail _ (.head _)); omega
          · rcases List.mem_cons.1 hx with rfl | hx
            · exact hbz3
            · cases hx) (by decide) (by decide)
    have hz3 : ∀ v, (joinB sp1 [headB v, k.name, body]).size ≤ 1000000000 := fun v => by
      have := jn_size (sep := sp1) (x0 := headB v) (r := [k.name, body]) (m := 100000) (fun x hx => by
        rcases List.mem_cons.1 hx with rfl | hx
        · have := (hm1 v _ (.head _)).2; omega
        · rcases List.mem_cons.1 hx with rfl | hx
          · have := (hm1 v _ (.tail _ (.head _))).2; omega
          · rcases List.mem_cons.1 hx with rfl | hx
            · exact hbz3.2
            · cases hx) (by decide)
      unfold joinB
      exact Nat.le_trans this (by simp only [List.length_cons, List.length_nil]; omega)
    have hfin3 : ∀ v, k.vehicle = v → k.slots ≠ [] → joinB sp1 [headB v, k.name, body] ++ ⟨#[59, 10]⟩ = lineB k.pure := fun v hv hs => by
      have := line_two (k := k.pure) (by show k.slots.map SlotR.pure ≠ []; simpa using hs)
      rw [← this, ← hv, hbody, htx]
      simp only [KindR.pure, List.map_map]
      rfl
    repeat (first|apply then_n|apply sp_seq|apply sp_region|apply spl_nil|apply then_e|apply block_here|(apply sp_cond_f;(·exact eT rfl);(·(exact decide_eq_false (by omega))))|apply sp_exit|((apply spl_pure rfl);(·(first|((first|apply ex_assign|apply ex_fieldAddr'|apply ex_lss)<;>(exact eT rfl))|((apply ex_loadown)<;>(first|exact eT rfl|exact Bk.own InH.mem|rfl)))))|(apply spl_buildSlice rfl;(·rfl);(·(repeat (first|exact eN|(apply eS;(·(first|exact eT rfl|exact eC))))));(·rfl);(·rfl);(·rfl);intro _ _))
    rename_i g7 hg7
    cases hv : k.vehicle with
    | false =>
      refine sp_cond_f (by (exact eT rfl)) (by with_reducible exact hv) ?_
      by_cases hz : k.ss.n = 0
      · have hsl : k.slots = [] := List.eq_nil_of_length_eq_zero (by omega)
        have hfin := hfin false hv hsl
        repeat (first|(apply spl_callp rfl;(·(repeat (first|exact eN|(apply eS;(·(first|exact eT rfl|exact eC))))));(·exact fun w' hh => hR1 false _ w' hh.ownI))|apply then_n|apply sp_seq|apply sp_region|apply spl_nil|(apply sp_cond_f;(·exact eT rfl);(·(exact decide_eq_false (by omega))))|apply sp_skip|apply sp_ret|((apply spl_pure rfl);(·(first|(apply ex_saddZ;(·exact eT rfl);(·exact eC);(·exact hz1 false);(·decide))|((first|apply ex_move|apply ex_assign|apply ex_gtr|apply ex_len)<;>(first|exact eT rfl|exact eC))))))
        (apply ret_ok rfl;(·((apply Res.ofOne;((apply Res1.tmp;(·rfl))))))); exact congrArg Value.string hfin
      · have hsl : k.slots ≠ [] := fun h0 => hz (by rw [← hlen, h0]; rfl)
        have hfin := hfin3 false hv hsl
        repeat (first|(apply spl_callp rfl;(·(repeat (first|exact eN|(apply eS;(·(first|exact eT rfl|exact eC))))));(·exact fun w' hh => join_c (RdS.ofRowS (T := 9) hh (by unfold flatS; (repeat (first|exact Split.here|apply Split.cons))) htl (by omega) (fun _ _ => rfl) hr) (RowS.le hr) (fun x hx => by have := hts x hx; omega) (by omega) (by decide)))|(apply spl_callp rfl;(·(repeat (first|exact eN|(apply eS;(·(first|exact eT rfl|exact eC))))));(·exact fun w' hh => hR2 false _ _ _ w' (by assumption) hh.ownI))|apply then_n|apply sp_seq|apply sp_region|apply spl_nil|((apply sp_cond_t);(·exact eT rfl);(·(exact decide_eq_true (by omega))))|apply sp_skip|apply sp_ret|((apply spl_pure rfl);(·(first|(apply ex_saddO hbody.symm;(·exact eT rfl);(·exact eC);(·exact hbz2);(·decide))|(apply ex_saddZ;(·(first|exact eT rfl|exact eC));(·(first|exact eT rfl|exact eC));(·(first|decide|exact hz3 false));(·(first|exact hbz1|decide)))|((first|apply ex_move|apply ex_assign|apply ex_gtr|apply ex_len)<;>(first|exact eT rfl|exact eC)))))|(apply spl_buildSlice rfl;(·rfl);(·(repeat (first|exact eN|(apply eS;(·exact eT rfl)))));(·rfl);(·rfl);(·rfl);intro _ _)|(refine spl_append_own (xs := [Value.string (headB false), .string k.name]) (tail := []) (news := [.string body]) (m := 1) (by (exact eT rfl)) (by (exact eT rfl)) (by (repeat (first|exact Rem.here|apply Rem.there))) (by assumption) rfl rfl (Nat.le_refl 2) (fun w' hh => SrcAt.slice (CellsAt.own hh.ownI (fun j u hj => by rw [List.getElem?_toArray]; exact hj)) rfl rfl (fun v hv => by simp at hv; subst hv; rfl)) rfl (by omega) rfl rfl rfl rfl ?_;intro gA capA tA hgA hcA hlA))
        (apply ret_ok rfl;(·((apply Res.ofOne;((apply Res1.tmp;(·rfl))))))); exact congrArg Value.string hfin
    | true =>
      refine sp_cond_t (by (exact eT rfl)) (by with_reducible exact hv) ?_
      repeat (first|apply then_n|apply sp_seq|apply sp_region|apply spl_nil|((apply spl_pure rfl);(·(first|(apply ex_indexAddrO (i:=0) (j:=0);(·exact eT rfl);(·exact eC);(·decide);(·rfl))|((first|apply ex_move|apply ex_gtr|apply ex_len)<;>(first|exact eT rfl|exact eC)))))|(apply spl_store1;(·exact eT rfl);(·exact eC);(·rfl);(·(repeat (exact Upd.here)));(·rfl)))
      refine Spc.keep (H' := (g7, .cells #[.string (headB true), .string k.name] 9 (0, 0)) :: (r.hp (flatS texts) 9 ++ [(g1, .cells k.cells 34 (0, 0))])) (by (repeat (exact HKeep.refl))) ?_
      by_cases hz : k.ss.n = 0
      · have hsl : k.slots = [] := List.eq_nil_of_length_eq_zero (by omega)
        have hfin := hfin true hv hsl
        repeat (first|(apply spl_callp rfl;(·(repeat (first|exact eN|(apply eS;(·(first|exact eT rfl|exact eC))))));(·exact fun w' hh => hR1 true _ w' hh.ownI))|apply then_n|apply sp_seq|apply sp_region|apply spl_nil|(apply sp_cond_f;(·exact eT rfl);(·(exact decide_eq_false (by omega))))|apply sp_skip|apply sp_ret|((apply spl_pure rfl);(·(first|(apply ex_saddZ;(·exact eT rfl);(·exact eC);(·exact hz1 true);(·decide))|((first|apply ex_move|apply ex_assign)<;>(exact eT rfl))))))
        (apply ret_ok rfl;(·((apply Res.ofOne;((apply Res1.tmp;(·rfl))))))); exact congrArg Value.string hfin
      · have hsl : k.slots ≠ [] := fun h0 => hz (by rw [← hlen, h0]; rfl)
        have hfin := hfin3 true hv hsl
        repeat (first|(apply spl_callp rfl;(·(repeat (first|exact eN|(apply eS;(·(first|exact eT rfl|exact eC))))));(·exact fun w' hh => join_c (RdS.ofRowS (T := 9) hh (by unfold flatS; (repeat (first|exact Split.here|apply Split.cons))) htl (by omega) (fun _ _ => rfl) hr) (RowS.le hr) (fun x hx => by have := hts x hx; omega) (by omega) (by decide)))|(apply spl_callp rfl;(·(repeat (first|exact eN|(apply eS;(·(first|exact eT rfl|exact eC))))));(·exact fun w' hh => hR2 true _ _ _ w' (by assumption) hh.ownI))|apply then_n|apply sp_seq|apply sp_region|apply spl_nil|((apply sp_cond_t);(·exact eT rfl);(·(exact decide_eq_true (by omega))))|apply sp_ret|((apply spl_pure rfl);(·(first|(apply ex_saddO hbody.symm;(·exact eT rfl);(·exact eC);(·exact hbz2);(·decide))|(apply ex_saddZ;(·(first|exact eT rfl|exact eC));(·(first|exact eT rfl|exact eC));(·(first|decide|exact hz3 true));(·(first|exact hbz1|decide)))|((first|apply ex_move|apply ex_assign)<;>(exact eT rfl)))))|(apply spl_buildSlice rfl;(·rfl);(·(repeat (first|exact eN|(apply eS;(·exact eT rfl)))));(·rfl);(·rfl);(·rfl);intro _ _)|(refine spl_append_own (xs := [Value.string (headB true), .string k.name]) (tail := []) (news := [.string body]) (m := 1) (by (exact eT rfl)) (by (exact eT rfl)) (by (repeat (first|exact Rem.here|apply Rem.there))) (by assumption) rfl rfl (Nat.le_refl 2) (fun w' hh => SrcAt.slice (CellsAt.own hh.ownI (fun j u hj => by rw [List.getElem?_toArray]; exact hj)) rfl rfl (fun v hv => by simp at hv; subst hv; rfl)) rfl (by omega) rfl rfl rfl rfl ?_;intro gA capA tA hgA hcA hlA))
        (apply ret_ok rfl;(·((apply Res.ofOne;((apply Res1.tmp;(·rfl))))))); exact congrArg Value.string hfin
end Go.Proofs.Ytfdjlphfohnnnaa
/-
  Contracts: the text of a catalog.
-/
namespace Go.Proofs.Ytfdjlphfohnnnaa
open Go.RowKit Go.Sy
set_option linter.unusedVariables false
set_option linter.unusedSimpArgs false
section
variable {P : Program} {N Be : Nat} {Q : Post} {e : Env} {w0 : World} {H : Heap} {ops : Array Oper} {rest : List Oper} {ty : TypeId} {pos : String} {after : Array Edge} {d : Nat}
/-- unsafe.String where the bytes stay in sight, frozen. -/
theorem spl_unsafeStringK {x y : Operand} {pt it T : TypeId} {g : Nat} {s : ByteArray} {cs : Array Value} {fz : Nat × Nat} {H' : Heap} (hN : Nat.blt d N = true) (hx : Ev true e x (.pointer (some ⟨g, 0, none⟩))) (hy : Ev true e y (.int .i64 (s.size : Int))) (hu : Upd H g (.cells cs T fz) (.cells cs T (0, s.size)) H') (hfz : fz = (0, 0) ∨ fz = (0, s.size))
    [hp : TPtr P pt T] (hc : P.cellsOf T = 1) (h0 : 0 < s.size) (hn : s.size ≤ cs.size) (h63 : s.size ≤ 9223372036854775807) (hcell : ∀ (j : Nat) (v : Value), (byteCells s)[j]? = some v → cs[j]? = some v)
    (k : Spl P N Be ops Q rest ((d, true, .string s) :: e) w0 H') :
    Spl P N Be ops Q (⟨some d, .call ⟨.builtin .unsafeString, #[x, y], #[pt, it]⟩, ty, pos, after, none⟩ :: rest) e w0 H := by
  intro a w hf hh
  have hd : d < N := by simpa [Nat.blt_eq] using hN
  refine wpList_plain rfl fun K hK => ?_
  have hg : w.heap[g]? = some (.cells cs T fz) := hh.own _ hu.mem
  have hlen : s.data.toList.length = s.size := by simp
  have hr := Lib.run_unsafeString_row (P := P) w pt it ty T hp.ptr hc g cs.size (by simp [World.shape?, hg]) s.data.toList (by intro h; rw [h] at hlen; simp at hlen; omega) (by rw [hlen]; exact hn) (by rw [hlen]; exact h63)
    (fun j b hb => by
      have h1 : (byteCells s)[j]? = some (.int .u8 b.toNat) := by simp only [byteCells, List.getElem?_map, hb, Option.map_some]
      have h2 := hcell j _ h1
      rw [addr_add]
      simp [World.cell?, hg, h2])
  rw [hlen] at hr
  have hs : (⟨s.data.toList.toArray⟩ : ByteArray) = s := by simp
  rw [hs] at hr
  have hr' : (execOp a.eval ⟨some d, .call ⟨.builtin .unsafeString, #[x, y], #[pt, it]⟩, ty, pos, after, none⟩).run P w = .ok (.value (.string s)) (w.freeze ⟨g, 0, none⟩ s.size) := by
    simp only [execOp, resolve, invoke, Sem.run_bind, Sem.run_pure, Result.andThen_ok, List.map_toArray, List.map_cons, List.map_nil, hx N a hf rfl, hy N a hf rfl, bi_us, hr, Sem.run_bind, Sem.run_pure, Result.andThen_ok]
  unfold Oper.wp
  rw [hr', Oper.upon_value]
  have hne : ¬ s.size = 0 := by omega
  have hfr : ∀ k, (w.freeze ⟨g, 0, none⟩ s.size).heap[k]? = if g = k then some (.cells cs T (0, s.size)) else w.heap[k]? := by
    intro k
    unfold World.freeze
    rw [if_neg hne]
    simp only [Array.getElem?_modify]
    by_cases hk : g = k
    · subst hk
      rw [if_pos rfl, if_pos rfl, hg]
      rcases hfz with rfl | rfl
      · simp
      · have : ¬ (0 = s.size) := fun q => hne q.symm
        simp [this]
    · rw [if_neg hk, if_neg hk]
  refine hK _ _ (k _ _ (hf.puttrue hd) (hh.upd hu ?_ ?_ ?_ ?_ (fun k _ hk => ?_) ?_))
  · unfold World.freeze; rw [if_neg hne]
  · unfold World.freeze; rw [if_neg hne]
  · unfold World.freeze; rw [if_neg hne]
  · unfold World.freeze; rw [if_neg hne]; simp
  · rw [hfr k, if_neg (fun q => hk q.symm)]
  · rw [hfr g, if_pos rfl]
end
/-- A builder's blocks, frozen or not. -/
def BHf (b : Nat) (p : Option Addr) (r : RowS) (s : ByteArray) (fz : Nat × Nat) : Heap := (b, .cells #[.pointer p, r.val s.size] 60 (0, 0)) :: (match r.g with | none => [] | some g => [(g, .cells (byteCells s ++ r.tail).toArray 5 fz)])
theorem BHf_0 {b : Nat} {p : Option Addr} {r : RowS} {s : ByteArray} : BH b p r s = BHf b p r s (0, 0) := by
  rcases r with ⟨_ | g, cap, tail⟩ <;> rfl
theorem BHf_n {b : Nat} {p : Option Addr} {s : ByteArray} {cap : Nat} {tl : List Value} {R : Heap} {fz : Nat × Nat} : BHf b p ⟨none, cap, tl⟩ s fz ++ R = (b, .cells #[.pointer p, .slice none s.size cap] 60 (0, 0)) :: R := rfl
theorem BHf_s {b g : Nat} {p : Option Addr} {s : ByteArray} {cap : Nat} {tl : List Value} {R : Heap} {fz : Nat × Nat} : BHf b p ⟨some g, cap, tl⟩ s fz ++ R = (b, .cells #[.pointer p, .slice (some ⟨g, 0, none⟩) s.size cap] 60 (0, 0)) :: (g, .cells (byteCells s ++ tl).toArray 5 fz) :: R := rfl
def textB (ps : List PKind) : ByteArray := ofL (textX ps)
theorem tx_textB (ps : List PKind) : tx (textB ps) = textX ps := tx_ofL _
theorem textB_snoc (ps : List PKind) (k : PKind) : textB (ps ++ [k]) = textB ps ++ lineB k := by
  apply tx_inj
  rw [tx_append, tx_textB, tx_textB]
  unfold lineB
  rw [tx_ofL]
  simp [textX]
theorem textB_size {ps : List PKind} (h : ∀ k ∈ ps, KindP k) : (textB ps).size ≤ ps.length * 60000 := by
  induction ps with
  | nil => exact Nat.zero_le _
  | cons k r ih =>
    have h1 := (lineB_size (h k (.head _))).2
    have h2 := ih fun x hx => h x (.tail _ hx)
    unfold lineB at h1
    unfold textB at *
    rw [size_ofL] at *
    simp only [textX, List.flatMap_cons, List.length_append, List.length_cons] at *
    omega
/-- What Text hands back. -/
def textR (ks : List KindR) : ByteArray × Int := if validB ks = true then (if (lexR (textB (ks.map KindR.pure))).2.1 = 0 then (textB (ks.map KindR.pure), 0) else (⟨#[]⟩, 7)) else (⟨#[]⟩, 1)
attribute [local irreducible] Calls thenQ blockQ retQ retFQ Spc Spl Spq Ex Ev Evs Gd Upd ESub HKeep Res Res1 wlk effQ Rem SrcAt Split joinB slotB lineB
set_option maxRecDepth 100000 in
set_option maxHeartbeats 1000000 in
theorem stringK_c {Be : Nat} {w0 w : World} {b : Nat} {p : Option Addr} {r : RowS} {s : ByteArray} {R : Heap} {fz : Nat × Nat} (hr : BOk w0 r s) (hs : s.size < 100000000) (hb : w0.heap.size ≤ b) (hfz : fz = (0, 0) ∨ fz = (0, s.size)) (hh : Hp Be w0 (BHf b p r s fz ++ R) w) :
    Calls Try.prog 31 #[.pointer (some ⟨b, 0, none⟩)] w (RetX Be w0 (fun _ : Unit => .string s) (fun _ => BHf b p r s (0, s.size) ++ R) (fun _ => True)) := by
  refine sp_enterM (vs := [_]) Try.func31 rfl Try.ntmps31 rfl hh ?_
  rcases r with ⟨_ | g, cap, tail⟩
  · obtain ⟨⟨h0, rfl, hb0⟩, -⟩ := hr
    rw [BHf_n (fz := fz), h0]
    repeat (first|apply then_n|apply sp_seq|apply sp_region|apply spl_nil|((apply spl_pure rfl);(·(((apply ex_assign)<;>(exact eC))))))
    refine sp_drawn [(0, true), (1, true), (2, true), (3, true), (5, true), (6, true), (7, true), (8, true), (9, true), (4, false), (10, false), (11, true)] 12 ((b, .cells #[.pointer p, .slice none 0 0] 60 (0, 0)) :: R) mixed (by kernel_rfl) (by (repeat (exact HKeep.refl))) ?_
    repeat (first|apply then_n|apply spl_nil|apply sp_ret|((first|apply spl_pure rfl|apply wlk_read rfl rfl);(·(first|(apply ex_sliceDataN;(·exact eT rfl))|(apply ex_unsafeStringN;(·exact eT rfl);(·exact eT rfl))|((first|apply ex_move|apply ex_assign|apply ex_fieldAddr'|apply ex_len|apply ex_nilCheck)<;>(exact eT rfl))|(apply ex_loadown<;>(first|exact eT rfl|exact Bk.own InH.mem|rfl)))))|(apply effq;(·(intro h_;((repeat (exact HKeep.refl))))))|apply wlk_nil|apply wlk_eff rfl)
    (apply retX_ok rfl;(·((apply Res.ofOne;((apply Res1.tmp;(·rfl)))))))
    have hs0 : s = .empty := by
      apply ByteArray.ext
      apply Array.ext'
      have : s.data.toList.length = 0 := by simpa using h0
      exact List.length_eq_zero_iff.1 this
    exact ⟨(), by rw [hs0], trivial, by rw [BHf_n, h0]; (repeat (exact HKeep.refl))⟩
  · obtain ⟨⟨h0, h1, h2⟩, h3⟩ := hr
    obtain ⟨h3, h4⟩ := h3 g rfl
    rw [BHf_s (fz := fz)]
    have h0' : s.size ≤ cap := h0
    have hlt : (byteCells s ++ tail).length = cap := by have : (byteCells s ++ tail).length = cap * 1 := h1; omega
    repeat (first|apply then_n|apply sp_seq|apply sp_region|apply spl_nil|((apply spl_pure rfl);(·(((apply ex_assign)<;>(exact eC))))))
    refine sp_drawn [(0, true), (1, true), (2, true), (3, true), (5, true), (6, true), (7, true), (8, true), (9, true), (4, false), (10, false), (11, true)] 12 ((b, .cells #[.pointer p, .slice (some ⟨g, 0, none⟩) s.size cap] 60 (0, 0)) :: R) mixed (by kernel_rfl) (by (repeat (first|exact HKeep.refl|apply HKeep.keep|apply HKeep.drop (by first|assumption|omega)))) ?_
    repeat (first|apply then_n|apply spl_nil|apply sp_ret|((first|apply spl_pure rfl|apply wlk_read rfl rfl);(·(first|(apply ex_sliceData;(·exact eT rfl);(·omega))|((first|apply ex_move|apply ex_assign|apply ex_fieldAddr'|apply ex_len|apply ex_nilCheck)<;>(exact eT rfl))|(apply ex_loadown<;>(first|exact eT rfl|exact Bk.own InH.mem|rfl)))))|(apply effq;(·(intro h_;((repeat (first|exact HKeep.refl|apply HKeep.keep|apply HKeep.drop (by first|assumption|omega)))))))|apply wlk_nil|apply wlk_eff rfl|(refine spl_unsafeStringK rfl (by (exact eT rfl)) (by (exact eT rfl)) (by (repeat (first|exact Upd.here|apply Upd.there))) hfz cellsB h4 ?_ (by omega) ?_ ?_;rotate_left 2))
    · (apply retX_ok rfl;(·((apply Res.ofOne;((apply Res1.tmp;(·rfl)))))))
      exact ⟨(), rfl, trivial, by rw [BHf_s]; (repeat (exact HKeep.refl))⟩
    · rw [List.size_toArray, hlt]; exact h0'
    · intro j v hj
      rw [List.getElem?_toArray, List.getElem?_append_left (List.getElem?_eq_some_iff.1 hj).1]
      exact hj
attribute [local irreducible] BH BHf textB lexR
set_option maxRecDepth 100000 in
set_option maxHeartbeats 8000000 in
theorem text_c {w : World} {A : Option Addr} {n c : Nat} {ks : List KindR} (h : RdKinds w w.heap.size ⟨A, n, c⟩ ks) (hsm : ∀ k ∈ ks, k.name.size < 9223372036854775808 ∧ ∀ s ∈ k.slots, s.name.size < 9223372036854775808) :
    Calls Try.prog 11 #[.agg #[.slice A n c]] w (Ret w (.tuple #[.string (textR ks).1, .int .i64 (textR ks).2])) := by
  have hlen : ks.length = n := h.1.len
  have hbd : n ≤ 9223372036854775807 := h.1.bound
  have hval := fun (w' : World) (h' : RdKinds w' w'.heap.size ⟨A, n, c⟩ ks) => valid_c (c := c) h' hsm
  refine sp_enter (vs := [_]) Try.func11 rfl Try.ntmps11 rfl ?_
  cases hv : validB ks with
  | false =>
    rw [hv] at hval
    have ht : textR ks = (⟨#[]⟩, 1) := by unfold textR; rw [hv]; rfl
    rw [ht]
    repeat (first|(apply spl_callp rfl;(·(repeat (first|exact eN|(apply eS;(·exact eT rfl)))));(·exact fun w' hh => hval w' (h.hp hh)))|(apply sp_cond_t;(·exact eT rfl);(·rfl))|apply then_n|apply sp_seq|apply sp_region|apply spl_nil|apply then_r|apply sp_ret|((apply spl_pure rfl);(·(first|(apply ex_loadpartE (cs':=#[.slice A n c]);(·exact eT rfl);(·exact Bk.own InH.mem);(·rfl);(·rfl))|((first|apply ex_assign|apply ex_not)<;>(first|exact eT rfl|exact eC)))))|(apply spl_box;(·exact eT rfl);(·rfl);intro _ _))
    (apply ret_ok rfl;(·((apply Res.ofTwo<;>((apply Res1.tmp;(·rfl))))))); rfl
  | true =>
    rw [hv] at hval
    have hcv := (valid_iff h.lens).1 hv
    have hP := (catV_all hcv).2
    have h60 := (catV_all hcv).1
    rw [List.length_map] at h60
    have hnorm := valid_normal h.lens hv
    have hsz : ∀ i, (textB ((ks.take i).map KindR.pure)).size ≤ 3600000 := fun i => by
      have := textB_size (ps := (ks.take i).map KindR.pure) fun k hk => by
        obtain ⟨x, hx, rfl⟩ := List.mem_map.1 hk
        exact hP _ (List.mem_map.2 ⟨x, List.mem_of_mem_take hx, rfl⟩)
      rw [List.length_map, List.length_take] at this
      have h2 : min i ks.length * 60000 ≤ 60 * 60000 := Nat.mul_le_mul_right _ (by omega)
      exact Nat.le_trans this h2
    repeat (first|(apply spl_callp rfl;(·(repeat (first|exact eN|(apply eS;(·exact eT rfl)))));(·exact fun w' hh => hval w' (h.hp hh)))|(apply sp_cond_f;(·exact eT rfl);(·rfl))|apply then_n|apply sp_seq|apply sp_region|apply spl_nil|apply sp_skip|apply sp_block|((apply spl_pure rfl);(·(first|(apply ex_loadpartE (cs':=#[.slice A n c]);(·exact eT rfl);(·exact Bk.own InH.mem);(·rfl);(·rfl))|((first|apply ex_move|apply ex_assign|apply ex_fieldAddr'|apply ex_not|apply ex_len)<;>(first|exact eT rfl|exact eC))|((apply ex_loadown)<;>(first|exact eT rfl|exact Bk.own InH.mem|rfl)))))|(apply spl_box;(·exact eT rfl);(·rfl);intro _ _)|(apply spl_alloc rfl;intro _ _))
    rename_i g1 hg1 b hb
    have hb0 : textB (([] : List KindR).map KindR.pure) = ⟨#[]⟩ := by unfold textB; rfl
    refine sp_loop (X := Nat × Option Addr × RowS) (fun y => [(16, true, .int .i64 (y.1 : Int)), (15, true, .int .i64 (n : Int)), (14, true, .slice A n c), (4, true, .pointer (some ⟨b, 0, none⟩)), (1, true, .pointer (some ⟨g1, 0, none⟩))]) (fun _ => w) (fun y => BH b y.2.1 y.2.2 (textB ((ks.take y.1).map KindR.pure)) ++ [(g1, .cells #[.slice A n c] 24 (0, 0))])
      (fun y => y.1 ≤ n ∧ (y.2.1 = none ∨ y.2.1 = some ⟨b, 0, none⟩) ∧ BOk w y.2.2 (textB ((ks.take y.1).map KindR.pure))) (fun y => n - y.1) (0, none, RowS.start) ⟨Nat.zero_le _, .inl rfl, by show BOk w RowS.start (textB (([] : List KindR).map KindR.pure)); rw [hb0]; exact BOk.start⟩ (by (repeat (first|exact ESub.nil|apply ESub.cons rfl))) rfl (by show HKeep w (BH b none RowS.start (textB (([] : List KindR).map KindR.pure)) ++ _) _; rw [hb0, ← BH_start]; (repeat (exact HKeep.refl))) ?_
    rintro ⟨i, p, r⟩ ⟨hi, hp, hr⟩
    dsimp only at hi hp hr ⊢
    have hs := hsz i
    by_cases hlt : i < n
    · obtain ⟨ad, x, hA, hbl, hx, hxz, hxc⟩ := h.1.at_ hlt
      have hmem := List.mem_of_getElem? hx
      have hxP := hP _ (List.mem_map.2 ⟨x, hmem, rfl⟩)
      have hln := lineB_size hxP
      have hsnoc : textB ((ks.take (i + 1)).map KindR.pure) = textB ((ks.take i).map KindR.pure) ++ lineB x.pure := by rw [take_succ hx, List.map_append]; exact textB_snoc _ _
      generalize textB ((ks.take i).map KindR.pure) = s at hr hs hsnoc ⊢
      repeat (first|(apply spl_callp rfl;(·(repeat (first|exact eN|(apply eS;(·exact eT rfl)))));(·exact fun w' hh => line_c ((h.hp hh).2 x hmem) hxP (hnorm x hmem)))|(apply spl_callM (X:=RowS) (V:=fun _ => .tuple #[.int .i64 ((lineB x.pure).size : Int), .nilIface]) (A:=BH b p r s) (AA:=fun r' => BH b (some ⟨b, 0, none⟩) r' (s ++ lineB x.pure)) (I:=fun r' => BOk w r' (s ++ lineB x.pure)) rfl;(·(repeat (first|exact eN|(apply eS;(·exact eT rfl)))));(·(repeat (first|exact Split.here|apply Split.cons)));(·exact fun w' hh => writeString_c hp hr (by omega) (lineB x.pure) hln.1 (by omega) hh);(intro r2 hr2))|apply then_n|apply block_n|apply sp_seq|apply sp_region|apply spl_nil|((apply sp_cond_t);(·exact eT rfl);(·(exact decide_eq_true (by omega))))|apply sp_skip|apply sp_block|((apply spl_pure rfl);(·(first|(apply ex_loadelem;(·exact eT rfl);(·exact h.1);(·exact hA);(·exact hx))|((first|apply ex_move|apply ex_lss)<;>(exact eT rfl))|(apply ex_addn<;>(first|exact eT rfl|exact eC|(constructor<;>omega)))|((apply ex_indexAddr)<;>(first|exact eT rfl|assumption))|((apply ex_loadowns)<;>(first|exact eT rfl|exact Bk.own InH.mem|(rfl))))))|(apply spl_alloc rfl;intro _ _)|(apply spl_stores;(·exact eT rfl);(·exact eT rfl);(·(repeat (exact Upd.here)));(·(rfl));(·(rfl));(·exact Ones.one)))
      exact ⟨(i + 1, some ⟨b, 0, none⟩, r2), ⟨hlt, .inr rfl, by show BOk w r2 (textB ((ks.take (i + 1)).map KindR.pure)); rw [hsnoc]; exact hr2⟩, by (show n - (i + 1) < n - i; omega), (by (repeat (first|exact ESub.nil|apply ESub.cons rfl))), rfl, (by show HKeep w (BH b _ r2 (textB ((ks.take (i + 1)).map KindR.pure)) ++ _) _; rw [hsnoc]; (repeat (first|exact HKeep.refl|(apply HKeep.app;(·(repeat (exact Split.here))))|(apply HKeep.pick;(·(repeat (first|exact Rem.here|apply Rem.there))))|apply HKeep.drop (by first|assumption|omega))))⟩
    · have hie : i = n := by omega
      subst hie
      have hall : ks.take i = ks := List.take_of_length_le (by omega)
      rw [hall] at hr hs ⊢
      obtain ⟨s, hsE⟩ : ∃ s, s = textB (ks.map KindR.pure) := ⟨_, rfl⟩
      rw [← hsE] at hr hs ⊢
      obtain ⟨l, e, m, hL⟩ : ∃ l e m, lexR s = (l, e, m) := ⟨_, _, _, rfl⟩
      have hlx := fun w' => lex_e (w := w') hL (by omega)
      rw [BHf_0]
      by_cases he : e = 0
      · have ht : textR ks = (s, 0) := by unfold textR; rw [hv, ← hsE, hL]; simp [he]
        rw [ht]
        subst he
        repeat (first|(apply spl_callM (X:=Unit) (V:=fun _ => .string s) (A:=BHf b p r s (0, 0)) (AA:=fun _ => BHf b p r s (0, s.size)) (I:=fun _ => True) rfl;(·(repeat (first|exact eN|(apply eS;(·exact eT rfl)))));(·(repeat (first|exact Split.here|apply Split.cons|apply Split.app)));(·exact fun w' hh => stringK_c hr (by omega) hb (.inl rfl) hh);(rintro ⟨⟩ -))|(apply spl_callM (X:=Unit) (V:=fun _ => .string s) (A:=BHf b p r s (0, s.size)) (AA:=fun _ => BHf b p r s (0, s.size)) (I:=fun _ => True) rfl;(·(repeat (first|exact eN|(apply eS;(·exact eT rfl)))));(·(repeat (first|exact Split.here|apply Split.app)));(·exact fun w' hh => stringK_c hr (by omega) hb (.inr rfl) hh);(rintro ⟨⟩ -))|(apply spl_callh (X:=RowS) rfl;(·(repeat (first|exact eN|(apply eS;(·exact eT rfl)))));(·exact fun w' hh => hlx w');(rintro x hx hfx))|apply then_n|apply sp_seq|apply sp_region|apply spl_nil|apply then_e|apply block_here|(apply sp_cond_f;(·exact eT rfl);(·(first|exact decide_eq_false (by omega)|rfl)))|apply sp_skip|apply sp_ret|apply sp_exit|((apply spl_pure rfl);(·(first|((first|apply ex_move|apply ex_assign|apply ex_lss|apply ex_sneq)<;>(first|exact eT rfl|exact eC))|((apply ex_neq)<;>(first|exact eT rfl|exact eC))|((apply ex_extract)<;>(first|exact eT rfl|rfl))))))
        (apply ret_ok rfl;(·((apply Res.ofTwo<;>((apply Res1.tmp;(·rfl))))))); rfl
      · have ht : textR ks = (⟨#[]⟩, 7) := by unfold textR; rw [hv, ← hsE, hL]; simp [he]
        rw [ht]
        repeat (first|(apply sp_cond_t;(·exact eT rfl);(·(simp [he])))|(apply spl_callM (X:=Unit) (V:=fun _ => .string s) (A:=BHf b p r s (0, 0)) (AA:=fun _ => BHf b p r s (0, s.size)) (I:=fun _ => True) rfl;(·(repeat (first|exact eN|(apply eS;(·exact eT rfl)))));(·(repeat (first|exact Split.here|apply Split.cons|apply Split.app)));(·exact fun w' hh => stringK_c hr (by omega) hb (.inl rfl) hh);(rintro ⟨⟩ -))|(apply spl_callh (X:=RowS) rfl;(·(repeat (first|exact eN|(apply eS;(·exact eT rfl)))));(·exact fun w' hh => hlx w');(rintro x hx hfx))|apply then_n|apply sp_seq|apply sp_region|apply spl_nil|apply then_r|apply then_e|apply block_here|(apply sp_cond_f;(·exact eT rfl);(·(exact decide_eq_false (by omega))))|apply sp_ret|apply sp_exit|((apply spl_pure rfl);(·(first|((first|apply ex_move|apply ex_assign|apply ex_lss|apply ex_sneq)<;>(first|exact eT rfl|exact eC))|((apply ex_neq)<;>(first|exact eT rfl|exact eC))|((apply ex_extract)<;>(first|exact eT rfl|rfl))))))
        (apply ret_ok rfl;(·((apply Res.ofTwo<;>((apply Res1.tmp;(·rfl))))))); rfl
end Go.Proofs.Ytfdjlphfohnnnaa
/-
  The chapter's examples in plain terms.
-/
namespace Go.Proofs.Ytfdjlphfohnnnaa
open Go.RowKit Go.Sy
set_option linter.unusedVariables false
set_option linter.unusedSimpArgs false
def ex1T : ByteArray := ⟨#[107, 105, 110, 100, 32, 97, 120, 108, 101, 59, 32, 107, 105, 110, 100, 32, 109, 111, 116, 111, 114, 59, 32, 118, 101, 104, 105, 99, 108, 101, 32, 99, 111, 97, 99, 104, 32, 40, 114, 101, 97, 114, 58, 32, 97, 120, 108, 101, 59, 32, 109, 58, 32, 109, 111, 116, 111, 114, 32, 43, 32, 97, 120, 108, 101, 41, 59]⟩
def ex2T : ByteArray := ⟨#[107, 105, 110, 100, 32, 97, 59, 32, 107, 105, 110, 100, 32, 97, 59]⟩
def ex3T : ByteArray := ⟨#[118, 101, 104, 105, 99, 108, 101, 32, 118, 59, 32, 107, 105, 110, 100, 32, 98, 32, 40, 115, 58, 32, 118, 41, 59]⟩
def ex4T : ByteArray := ⟨#[107, 105, 110, 100, 32, 98, 32, 40, 115, 58, 32, 98, 41, 59]⟩
def ex5T : ByteArray := ⟨#[107, 105, 110, 100, 32, 97, 120, 108, 101, 59, 10, 107, 105, 110, 100, 32, 109, 111, 116, 111, 114, 59, 10, 118, 101, 104, 105, 99, 108, 101, 32, 99, 111, 97, 99, 104, 32, 40, 114, 101, 97, 114, 58, 32, 97, 120, 108, 101, 59, 32, 109, 58, 32, 109, 111, 116, 111, 114, 32, 43, 32, 97, 120, 108, 101, 41, 59, 10]⟩
def sAxle : ByteArray := ⟨#[97, 120, 108, 101]⟩
def sMotor : ByteArray := ⟨#[109, 111, 116, 111, 114]⟩
def sCoach : ByteArray := ⟨#[99, 111, 97, 99, 104]⟩
def sRear : ByteArray := ⟨#[114, 101, 97, 114]⟩
def sM : ByteArray := ⟨#[109]⟩
def exCat : List PKind := [⟨sAxle, false, []⟩, ⟨sMotor, false, []⟩, ⟨sCoach, true, [⟨sRear, [sAxle], 1⟩, ⟨sM, [sMotor, sAxle], 1⟩]⟩]
set_option maxRecDepth 100000 in
theorem ex1 : parseR ex1T = (exCat, 0, 0) := by kernel_rfl
set_option maxRecDepth 100000 in
theorem ex2 : parseR ex2T = ([], 3, 13) := by kernel_rfl
set_option maxRecDepth 100000 in
theorem ex3 : parseR ex3T = ([], 4, 22) := by kernel_rfl
set_option maxRecDepth 100000 in
theorem ex4 : parseR ex4T = ([], 2, 11) := by kernel_rfl
set_option maxRecDepth 100000 in
theorem exText : textB exCat = ex5T := by kernel_rfl
set_option maxRecDepth 100000 in
theorem exLex : (lexR ex5T).2.1 = 0 := by kernel_rfl
set_option maxRecDepth 100000 in
theorem exTakes : takesP exCat sCoach sM sAxle = true ∧ normalP exCat sCoach sM sAxle = false ∧ normalP exCat sCoach sM sMotor = true := ⟨by kernel_rfl, by kernel_rfl, by kernel_rfl⟩
end Go.Proofs.Ytfdjlphfohnnnaa
/-
  The head of the laws: the chapter's examples, walked.
-/
namespace Go.Proofs.Ytfdjlphfohnnnaa
open Go.RowKit Go.Sy
set_option linter.unusedVariables false
set_option linter.unusedSimpArgs false
section
variable {P : Program} {N Be : Nat} {Q : Post} {e : Env} {w0 : World} {H : Heap}
/-- What every such world tells. -/
theorem spc_know {c : Code} {X : Prop} (hX : ∀ w, Hp Be w0 H w → X) (k : X → Spc P N Be c Q e w0 H) : Spc P N Be c Q e w0 H := fun a w hf hh => k (hX w hh) a w hf hh
theorem spl_know {ops : Array Oper} {l : List Oper} {X : Prop} (hX : ∀ w, Hp Be w0 H w → X) (k : X → Spl P N Be ops Q l e w0 H) : Spl P N Be ops Q l e w0 H := fun a w hf hh => k (hX w hh) a w hf hh
end
attribute [local irreducible] Calls thenQ blockQ retQ retFQ Spc Spl Spq Ex Ev Evs Gd Upd ESub HKeep Res Res1 wlk effQ Rem SrcAt Split joinB slotB lineB textB lexR parseR
theorem parse_e {w : World} {t : ByteArray} {ps : List PKind} {e a : Int} (hR : parseR t = (ps, e, a)) (ht : t.size < 1000000000) :
    Calls Try.prog 13 #[.string t] w (RetH w (fun y : Heap × Sl × List KindR => .tuple #[.agg #[.slice y.2.1.a y.2.1.n y.2.1.c], .int .i64 e, .int .i64 a]) (fun y => y.1) (fun y => CatIn y.1 y.2.1 y.2.2 ∧ y.2.2.map KindR.pure = ps ∧ y.2.1.n ≤ y.2.1.c)) := by
  have := parse_c (w := w) ht
  rw [hR] at this
  exact this
theorem text_e {w : World} {A : Option Addr} {n c : Nat} {ks : List KindR} {s : ByteArray} {e : Int} (hR : textR ks = (s, e)) (h : RdKinds w w.heap.size ⟨A, n, c⟩ ks) (hsm : ∀ k ∈ ks, k.name.size < 9223372036854775808 ∧ ∀ s ∈ k.slots, s.name.size < 9223372036854775808) :
    Calls Try.prog 11 #[.agg #[.slice A n c]] w (Ret w (.tuple #[.string s, .int .i64 e])) := by
  have := text_c h hsm
  rw [hR] at this
  exact this
theorem find_e {w : World} {A : Option Addr} {n c : Nat} {ks : List KindR} {s : ByteArray} {k : KindR} {b : Bool} (hk : (findK ks s).getD KindR.zero = k) (hb : (findK ks s).isSome = b) (h : RdS w w.heap.size 3 KindR.cells A n ks) :
    Calls Try.prog 15 #[.agg #[.slice A n c], .string s] w (Ret w (.tuple #[.agg k.cells, .bool b])) := by
  have := catFind_c (c := c) (s := s) h
  rw [hk, hb] at this
  exact this
theorem named_size {ks : List KindR} (h : Named (ks.map KindR.pure)) : ∀ k ∈ ks, k.name.size < 9223372036854775808 ∧ ∀ s ∈ k.slots, s.name.size < 9223372036854775808 := by
  intro k hk
  obtain ⟨h1, h2⟩ := h k.pure (List.mem_map.2 ⟨k, hk, rfl⟩)
  refine ⟨?_, fun s hs => ?_⟩
  · have := (name_size h1).2
    show k.pure.name.size < _
    omega
  · have := (name_size (h2 s.pure (List.mem_map.2 ⟨s, hs, rfl⟩)).1).2
    show s.pure.name.size < _
    omega
def exCoach : PKind := ⟨sCoach, true, [⟨sRear, [sAxle], 1⟩, ⟨sM, [sMotor, sAxle], 1⟩]⟩
theorem exFind : exCat.find? (fun k => decide (k.name = sCoach)) = some exCoach := by kernel_rfl
theorem exZ : ex1T.size < 1000000000 ∧ ex2T.size < 1000000000 ∧ ex3T.size < 1000000000 ∧ ex4T.size < 1000000000 := by decide
set_option maxRecDepth 100000 in
set_option maxHeartbeats 8000000 in
theorem head_c {w : World} : Calls Try.prog 9 #[] w (Ret w (.bool true)) := by
  refine sp_enter (vs := []) Try.func9 rfl Try.ntmps9 rfl ?_
  repeat (first|(apply spl_callh (X:=Heap × Sl × List KindR) rfl;(·(repeat (first|exact eN|(apply eS;(·exact eC)))));(·exact fun w' hh => parse_e (t:=ex1T) ex1 exZ.1);(rintro ⟨HA, sA, kA⟩ ⟨hcA, hpA, hnA⟩ hfA;dsimp only at hcA hpA hnA hfA))|apply then_n|apply sp_seq|apply sp_region|apply spl_nil|((apply spl_pure rfl);(·(first|((first|apply ex_move|apply ex_assign)<;>(first|exact eT rfl|exact eC))|((apply ex_extract)<;>(first|exact eT rfl|rfl)))))|(apply spl_alloc rfl;intro _ _)|(apply spl_stores;(·exact eT rfl);(·exact eT rfl);(·(repeat (exact Upd.here)));(·(rfl));(·(rfl));(·exact ones_of_all rfl)))
  refine spl_know (X := ∀ k ∈ kA, LensK k) (fun w' hh => RdKinds.lens (hcA w' hh.holds)) fun hlA => ?_
  have hvA := (parseR_v ex1).1
  have hvB : validB kA = true := (valid_iff hlA).2 (by rw [hpA]; exact hvA)
  have hszA := named_size (ks := kA) (by rw [hpA]; exact catV_named hvA)
  have hTA : textR kA = (ex5T, 0) := by
    unfold textR
    rw [if_pos hvB, hpA, exText, if_pos exLex]
  obtain ⟨kC, hkC, hkC2⟩ : ∃ k, findK kA sCoach = some k ∧ k.pure = exCoach := by
    have := find_pure kA sCoach
    rw [hpA, exFind] at this
    cases hf : findK kA sCoach with
    | none => rw [hf] at this; cases this
    | some k => rw [hf] at this; exact ⟨k, rfl, (Option.some.inj this).symm⟩
  have hnA3 : sA.n = 3 ∨ True := .inr trivial
  have hCv : kC.vehicle = true := congrArg PKind.vehicle hkC2
  have hCn : kC.ss.n = 2 := by
    have h1 := (hlA kC (List.mem_of_find?_eq_some hkC)).len
    have h2 := congrArg (fun k => k.slots.length) hkC2
    simp only [KindR.pure, List.length_map] at h2
    rw [h1, h2]; rfl
  have hT1 : takesB kA sCoach sM sAxle = true := by rw [takes_pure, hpA]; exact exTakes.1
  have hT2 : normalB kA sCoach sM sAxle = false := by rw [normal_pure, hpA]; exact exTakes.2.1
  have hT3 : normalB kA sCoach sM sMotor = true := by rw [normal_pure, hpA]; exact exTakes.2.2
  refine spl_know (X := sA.n = 3) (fun w' hh => by
    have h1 := (hcA w' hh.holds).1.len
    have h2 := congrArg List.length hpA
    rw [List.length_map] at h2
    rw [← h1, h2]; rfl) fun hsn => ?_
  repeat (first|(apply spl_callh (X:=Heap × Sl × List KindR) rfl;(·(repeat (first|exact eN|(apply eS;(·(first|exact eT rfl|exact eC))))));(·exact fun w' hh => parse_e (t:=ex2T) ex2 exZ.2.1);(rintro ⟨HB, sB, kB⟩ - hfB;dsimp only at hfB))|(apply spl_callh (X:=Heap × Sl × List KindR) rfl;(·(repeat (first|exact eN|(apply eS;(·(first|exact eT rfl|exact eC))))));(·exact fun w' hh => parse_e (t:=ex3T) ex3 exZ.2.2.1);(rintro ⟨HC, sC, kC'⟩ - hfC;dsimp only at hfC))|(apply spl_callh (X:=Heap × Sl × List KindR) rfl;(·(repeat (first|exact eN|(apply eS;(·(first|exact eT rfl|exact eC))))));(·exact fun w' hh => parse_e (t:=ex4T) ex4 exZ.2.2.2);(rintro ⟨HD, sD, kD⟩ - hfD;dsimp only at hfD))|(apply spl_callp rfl;(·(repeat (first|exact eN|(apply eS;(·(first|exact eT rfl|exact eC))))));(·exact fun w' hh => text_e hTA (hcA w' hh.holds) hszA))|(apply spl_callp rfl;(·(repeat (first|exact eN|(apply eS;(·(first|exact eT rfl|exact eC))))));(·exact fun w' hh => find_e (s:=sCoach) (k:=kC) (b:=true) (by rw [hkC]; rfl) (by rw [hkC]; rfl) (hcA w' hh.holds).1))|apply then_n|apply sp_seq|apply sp_region|apply spl_nil|((first|apply spl_pure rfl|(apply spl_pure_g rfl;(·exact Gd.tf rfl rfl)));(·(first|(apply ex_loadpartE (cs':=#[.slice sA.a sA.n sA.c]);(·exact eT rfl);(·exact Bk.own InH.mem);(·rfl);(·rfl))|((first|apply ex_move|apply ex_assign|apply ex_fieldAddr'|apply ex_sneq|apply ex_len)<;>(first|exact eT rfl|exact eG rfl))|((first|apply ex_neq|apply ex_orT)<;>(first|exact eT rfl|exact eC|exact eG rfl))|((first|apply ex_loadown|apply ex_extract)<;>(first|exact eT rfl|exact eG rfl|exact Bk.own InH.mem|rfl)))))|(apply spl_alloc rfl;intro _ _)|(apply spl_stores;(·exact eT rfl);(·exact eT rfl);(·(repeat (exact Upd.here)));(·(rfl));(·(rfl));(·(first|exact Ones.one|exact ones_of_all rfl))))
  refine sp_cond_f (by (exact eT rfl)) (by simp [hsn, hCn]) ?_
  repeat (first|(apply spl_callp_g rfl;(·exact Gd.tt rfl rfl);(·(repeat (first|exact eN|(apply eS;(·(first|exact eC|exact eG rfl))))));(·exact fun _ w' hh => takes_c (s:=sCoach) (t:=sM) (o:=sAxle) (hcA w' hh.holds)))|(apply spl_callp_g rfl;(·exact Gd.tt rfl rfl);(·(repeat (first|exact eN|(apply eS;(·(first|exact eC|exact eG rfl))))));(·exact fun _ w' hh => normal_c (s:=sCoach) (t:=sM) (o:=sAxle) (hcA w' hh.holds)))|(apply spl_callp_g rfl;(·exact Gd.tt rfl rfl);(·(repeat (first|exact eN|(apply eS;(·(first|exact eC|exact eG rfl))))));(·exact fun _ w' hh => normal_c (s:=sCoach) (t:=sM) (o:=sMotor) (hcA w' hh.holds)))|(apply spl_callp_g rfl;(·exact Gd.tt rfl rfl);(·(repeat (first|exact eN|(apply eS;(·exact eG rfl)))));(·exact fun _ w' hh => valid_c (hcA w' hh.holds) hszA))|apply then_n|apply sp_seq|apply sp_region|apply spl_nil|apply sp_skip|apply sp_ret|((first|apply spl_pure rfl|(apply spl_pure_g rfl;(·exact Gd.tt rfl rfl)));(·(first|(apply ex_loadpartE (cs':=#[.slice sA.a sA.n sA.c]);(·exact eT rfl);(·exact Bk.own InH.mem);(·rfl);(·rfl))|((first|apply ex_move|apply ex_assign|apply ex_fieldAddr'|apply ex_not|apply ex_seql|apply ex_andT)<;>(first|exact eT rfl|exact eC|exact eG rfl))|((apply ex_eql)<;>(first|exact eT rfl|exact eC))|((apply ex_loadown)<;>(first|exact eT rfl|exact Bk.own InH.mem|rfl))))))
  (apply ret_ok rfl;(·((apply Res.ofOne;((apply Res1.tmp;(·rfl)))))))
  rw [hT1, hT2, hT3, hvB, hCv]

  kernel_rfl
end Go.Proofs.Ytfdjlphfohnnnaa
/-
  CatalogOrders, walked.
-/
namespace Go.Proofs.Ytfdjlphfohnnnaa
open Go.RowKit Go.Sy
set_option linter.unusedVariables false
set_option linter.unusedSimpArgs false
theorem idx_map {α β : Type} (f : α → β) (xs : List α) (p : β → Bool) : idx (xs.map f) p = idx xs (fun x => p (f x)) := by
  unfold idx
  rw [List.findIdx?_map]
  all_goals rfl
theorem find_place (ks : List KindR) (s : ByteArray) : decide (0 ≤ idx ks fun x => decide (x.name = s)) = (findK ks s).isSome := by
  unfold findK
  rcases idx_cases ks (fun x => decide (x.name = s)) with ⟨hf, hi⟩ | ⟨k, x, hf, hi, hx, hk⟩
  · rw [hf, hi]; rfl
  · rw [hf, hi]; simp
theorem few1_c {w : World} {A : Option Addr} {n c g : Nat} {ks : List KindR} (hK : RdKinds w w.heap.size ⟨A, n, c⟩ ks) (hg : w.heap[g]? = some (.cells #[.slice A n c] 24 (0, 0))) :
    Calls Try.prog 10 #[.slice (some ⟨g, 0, none⟩) 1 1] w (Ret w (.bool (fewB ks))) := by
  have := few_c (w := w) (A := some ⟨g, 0, none⟩) (n := 1) (c := 1) (cs := [(⟨A, n, c⟩, ks)]) ⟨RdS.ofFlat (C := catC) hg (Array.getElem?_eq_some_iff.1 hg).1 rfl (by decide) (fun _ _ => rfl) rfl, fun y hy => by
    rw [List.mem_singleton] at hy; subst hy; exact hK⟩
  simpa using this
attribute [local irreducible] Calls thenQ blockQ retQ retFQ Spc Spl Spq Ex Ev Evs Gd Upd ESub HKeep Res Res1 wlk effQ Rem SrcAt Split fewB validB takesB normalB
set_option maxRecDepth 100000 in
set_option maxHeartbeats 8000000 in
theorem lawOrders {w : World} {A : Option Addr} {n c : Nat} {ks : List KindR} {kind slot other : ByteArray} (hK : RdKinds w w.heap.size ⟨A, n, c⟩ ks) :
    Calls Try.prog 5 #[.agg #[.slice A n c], .string kind, .string slot, .string other] w (Ret w (.bool true)) := by
  have hbd : n ≤ 9223372036854775807 := hK.1.bound
  refine sp_enter (vs := [_, _, _, _]) Try.func5 rfl Try.ntmps5 rfl ?_
  repeat (first|(apply spl_callp rfl;(·(repeat (first|exact eN|(apply eS;(·exact eT rfl)))));(·exact fun w' hh => head_c))|(apply spl_callp rfl;(·(repeat (first|exact eN|(apply eS;(·exact eT rfl)))));(·exact fun w' hh => few1_c (hK.hp hh) hh.ownI))|(apply spl_callp_g rfl;(·exact Gd.tf rfl rfl);(·(repeat (first|exact eN|(apply eS;(·exact eG rfl)))));(·exact fun hG w' hh => valid_c (hK.hp hh) (few_sized (by simpa using hG)).2))|apply then_n|apply sp_seq|apply sp_region|apply spl_nil|((first|apply spl_pure rfl|(apply spl_pure_g rfl;(·exact Gd.tf rfl rfl)));(·(first|(apply ex_loadpartE (cs':=#[.slice A n c]);(·exact eT rfl);(·exact Bk.own InH.mem);(·rfl);(·rfl))|((first|apply ex_move|apply ex_assign|apply ex_not|apply ex_gtr)<;>(first|exact eT rfl|exact eC|exact eG rfl))|((first|apply ex_slen|apply ex_orT)<;>(first|exact eT rfl|exact eG rfl))|(apply ex_add<;>(exact eG rfl)))))|(apply spl_box;(·exact eT rfl);(·rfl);intro _ _)|(apply spl_buildSlice rfl;(·rfl);(·(repeat (first|exact eN|(apply eS;(·exact eT rfl)))));(·rfl);(·rfl);(·rfl);intro _ _))
  rename_i g4 hg4 gS hgS
  refine sp_cond (eT rfl) (fun hp => ?_) (fun hp => ?_)
  ·
    repeat (first|apply then_n|apply sp_seq|apply sp_region|apply spl_nil|apply then_r|apply sp_ret|((apply spl_pure rfl);(·(((first|apply ex_move|apply ex_assign)<;>(exact eT rfl))))))
    (apply ret_ok rfl;(·((apply Res.ofOne;((apply Res1.tmp;(·rfl))))))); rfl
  · have hfew : fewB ks = true := by
      cases hf : fewB ks with
      | true => rfl
      | false => rw [hf] at hp; simp at hp
    have hval : validB ks = true := by
      cases hf : validB ks with
      | true => rfl
      | false => rw [hf] at hp; simp at hp
    clear hp
    refine spc_know (X := ∀ k ∈ ks, LensK k) (fun w' hh => (hK.hp hh).lens) fun hl => ?_
    have hcv := (valid_iff hl).1 hval
    have hsz := (few_sized hfew).2
    have hfp := find_place ks kind
    obtain ⟨b0, hb0⟩ : ∃ b, (findK ks kind).isSome = b := ⟨_, rfl⟩
    rw [hb0] at hfp
    obtain ⟨x, hx⟩ : ∃ x, (findK ks kind).getD KindR.zero = x := ⟨_, rfl⟩
    have hX : RdSlots w w.heap.size x.ss x.slots := hx ▸ findK_rd (s := kind) hK
    have hTc := fun (w' : World) (h' : RdKinds w' w'.heap.size ⟨A, n, c⟩ ks) => takes_c (s := kind) (t := slot) (o := other) h'
    have hNc := fun (w' : World) (h' : RdKinds w' w'.heap.size ⟨A, n, c⟩ ks) => normal_c (s := kind) (t := slot) (o := other) h'
    have hPk := fun (w' : World) (h' : RdKinds w' w'.heap.size ⟨A, n, c⟩ ks) => place_c (c := c) (s := kind) h'.1
    have hPo := fun (w' : World) (h' : RdKinds w' w'.heap.size ⟨A, n, c⟩ ks) => place_c (c := c) (s := other) h'.1
    have hF := fun (w' : World) (h' : RdKinds w' w'.heap.size ⟨A, n, c⟩ ks) => find_e (c := c) hx hb0 h'.1
    cases hT : takesB ks kind slot other with
    | true =>
      obtain ⟨i, j, o, hi, hj, hji, ho, hov⟩ := takes_before hcv (by rw [← takes_pure]; exact hT)
      rw [idx_map] at hi hj
      have hi' : idx ks (fun x => decide (x.name = kind)) = (i : Int) := hi
      have hj' : idx ks (fun x => decide (x.name = other)) = (j : Int) := hj
      rw [List.getElem?_map] at ho
      obtain ⟨oR, hoR, rfl⟩ := Option.map_eq_some_iff.1 ho
      have hov' : oR.vehicle = false := hov
      have hjn : j < n := by have := (List.getElem?_eq_some_iff.1 hoR).1; rw [hK.1.len] at this; exact this
      obtain ⟨ad, oR2, hA, hbb, hoR2, -, -⟩ := hK.1.at_ hjn
      rw [hT] at hTc
      have hPk2 := hPk
      rw [hi'] at hPk2
      rw [hj'] at hPo
      obtain ⟨bN, hbN⟩ : ∃ b, normalB ks kind slot other = b := ⟨_, rfl⟩
      rw [hbN] at hNc
      repeat (first|(apply sp_cond_f;(·exact eT rfl);(·(cases bN<;>rfl)))|(apply spq_callp rfl;(·(repeat (first|exact eN|(apply eS;(·exact eT rfl)))));(·exact fun w' hh => hTc w' (hK.hp hh)))|(apply spq_callp rfl;(·(repeat (first|exact eN|(apply eS;(·exact eT rfl)))));(·exact fun w' hh => hNc w' (hK.hp hh)))|(apply spq_callp rfl;(·(repeat (first|exact eN|(apply eS;(·exact eT rfl)))));(·exact fun w' hh => hPk2 w' (hK.hp hh)))|(apply spq_callp rfl;(·(repeat (first|exact eN|(apply eS;(·exact eT rfl)))));(·exact fun w' hh => hPo w' (hK.hp hh)))|(apply spl_callp rfl;(·(repeat (first|exact eN|(apply eS;(·exact eT rfl)))));(·exact fun w' hh => hPk w' (hK.hp hh)))|(apply spl_callp rfl;(·(repeat (first|exact eN|(apply eS;(·exact eT rfl)))));(·exact fun w' hh => hF w' (hK.hp hh)))|(apply sp_cond_f;(·exact eT rfl);(·(rw [hov', decide_eq_false (show ¬ (j : Int) < 0 by omega), decide_eq_false (show ¬ (i : Int) ≤ (j : Int) by omega)];rfl)))|apply then_n|apply sp_seq|apply sp_region|apply spl_nil|((apply sp_cond_t);(·exact eT rfl);(·(rfl)))|apply sp_skip|((first|apply spl_pure rfl|apply spq_pure rfl|(apply spl_pure_g rfl;(·(first|exact Gd.tt rfl rfl|exact Gd.tf rfl rfl))));(·(first|(apply ex_loadfield (ad:=ad) (i:=j) (k:=1);(·exact eG rfl);(·exact hK.1);(·exact hA);(·exact hoR);(·rfl))|(apply ex_loadpartE (cs':=#[.slice A n c]);(·exact eT rfl);(·exact Bk.own InH.mem);(·rfl);(·rfl))|((first|apply ex_move|apply ex_assign|apply ex_fieldAddr'|apply ex_not|apply ex_lss|apply ex_geq|apply ex_sneq|apply ex_andT)<;>(first|exact eT rfl|exact eC|exact eG rfl))|((first|apply ex_fieldAddr|apply ex_neq|apply ex_orT)<;>(first|exact eT rfl|exact eG rfl))|((apply ex_bneq)<;>(exact eT rfl))|((first|apply ex_loadown|apply ex_extract|apply ex_indexAddr)<;>(first|exact eT rfl|exact eG rfl|exact Bk.own InH.mem|rfl|assumption)))))|(apply spl_alloc rfl;intro _ _)|(apply spl_stores;(·exact eT rfl);(·exact eT rfl);(·(repeat (exact Upd.here)));(·(rfl));(·(rfl));(·exact Ones.one))|apply spq_nil|apply sp_draw mixed (by kernel_rfl))
      refine sp_cond_f (by (exact eT rfl)) (by rw [hfp]; cases b0 <;> rfl) ?_
      repeat (first|apply then_n|apply sp_seq|apply sp_region|apply spl_nil|apply sp_skip|apply sp_block|((apply spl_pure rfl);(·(((apply ex_assign)<;>(exact eC))))))
      rename_i g14 hg14
      refine sp_loop (X := Nat) (fun q => [(16, true, .int .i64 (q : Int)), (14, true, .pointer (some ⟨g14, 0, none⟩)), (4, true, .pointer (some ⟨g4, 0, none⟩)), (1, true, .string kind), (9, true, .bool true)]) (fun _ => w) (fun _ => [(g14, .cells x.cells 34 (0, 0)), (g4, .cells #[.slice A n c] 24 (0, 0))]) (fun q => q ≤ x.ss.n) (fun q => x.ss.n - q) 0 (Nat.zero_le _) (by (repeat (first|exact ESub.nil|apply ESub.cons rfl))) rfl (by (repeat (first|exact HKeep.refl|apply HKeep.keep|(apply HKeep.pick;(·(repeat (first|exact Rem.here|apply Rem.there))))|apply HKeep.drop (by first|assumption|omega)))) ?_
      intro q hq
      by_cases hlt : q < x.ss.n
      · obtain ⟨ad2, s, hA2, hb2, hs, -, -⟩ := hX.1.at_ hlt
        have hst := hX.2 s (List.mem_of_getElem? hs)
        have hbd3 := hst.1.bound
        have hbd2 := hX.1.bound
        have hfk : findN (ks.map KindR.pure) kind = some x.pure := by
          unfold findN
          rw [find_pure]
          cases hf : findK ks kind with
          | none => rw [hf] at hx; subst hx; cases hs
          | some y => rw [hf] at hx; cases hx; rfl
        have hsp : x.pure.slots[q]? = some s.pure := by show (x.slots.map SlotR.pure)[q]? = _; rw [List.getElem?_map, hs]; rfl
        obtain ⟨-, hv1, hv2⟩ := slot_valid hcv hfk hsp
        have hkl : s.kinds.length = s.ks.n := hst.1.len
        have hv1' : 1 ≤ s.normal.toNat := hv1
        have hv2' : s.normal.toNat ≤ s.kinds.length := hv2
        have how : ∀ (m : Nat) (z : ByteArray), s.kinds[m]? = some z → takesB ks kind s.name z = true ∧ normalB ks kind s.name z = decide (m < s.normal.toNat) := fun m z hz => by
          have := takes_own hcv hfk hsp hz
          rw [takes_pure, normal_pure]
          exact this
        repeat (first|apply then_n|apply sp_seq|apply sp_region|apply spl_nil|((apply sp_cond_t);(·exact eT rfl);(·(exact decide_eq_true (by omega))))|apply sp_skip|apply sp_block|((apply spl_pure rfl);(·(first|((first|apply ex_move|apply ex_assign|apply ex_fieldAddr'|apply ex_lss|apply ex_len)<;>(first|exact eT rfl|exact eC))|((apply ex_loadown)<;>(first|exact eT rfl|exact Bk.own InH.mem|rfl))))))
        refine sp_loop (X := Nat) (fun m => [(18, true, .int .i64 (m : Int)), (17, true, .int .i64 ((min m s.normal.toNat : Nat) : Int)), (16, true, .int .i64 (q : Int)), (14, true, .pointer (some ⟨g14, 0, none⟩)), (4, true, .pointer (some ⟨g4, 0, none⟩)), (1, true, .string kind), (9, true, .bool true)]) (fun _ => w) (fun _ => [(g14, .cells x.cells 34 (0, 0)), (g4, .cells #[.slice A n c] 24 (0, 0))]) (fun m => m ≤ s.ks.n) (fun m => s.ks.n - m) 0 (Nat.zero_le _) (by rw [Nat.zero_min]; (repeat (first|exact ESub.nil|apply ESub.cons rfl))) rfl (by (repeat (exact HKeep.refl))) ?_
        intro m hm
        by_cases hlt3 : m < s.ks.n
        · obtain ⟨ad3, z, hA3, hb3, hz, -, -⟩ := hst.1.at_ hlt3
          obtain ⟨h1, h2⟩ := how m z hz
          have hT2 := fun (w' : World) (h' : RdKinds w' w'.heap.size ⟨A, n, c⟩ ks) => takes_c (s := kind) (t := s.name) (o := z) h'
          have hN2 := fun (w' : World) (h' : RdKinds w' w'.heap.size ⟨A, n, c⟩ ks) => normal_c (s := kind) (t := s.name) (o := z) h'
          rw [h1] at hT2
          rw [h2] at hN2
          by_cases hmn : m < s.normal.toNat
          · rw [decide_eq_true hmn] at hN2
            have hmin : min (m + 1) s.normal.toNat = min m s.normal.toNat + 1 := by omega
            have hmb : min m s.normal.toNat ≤ m := Nat.min_le_left _ _
            generalize hM : min m s.normal.toNat = M at hmin hmb
            repeat (first|(apply sp_cond_t;(·exact eT rfl);(·rfl))|(apply sp_cond_f;(·exact eT rfl);(·rfl))|(apply spq_callp rfl;(·(repeat (first|exact eN|(apply eS;(·exact eT rfl)))));(·exact fun w' hh => hN2 w' (hK.hp hh)))|(apply spq_callp rfl;(·(repeat (first|exact eN|(apply eS;(·exact eT rfl)))));(·exact fun w' hh => hT2 w' (hK.hp hh)))|apply then_n|apply block_n|apply sp_seq|apply sp_region|apply spl_nil|((apply sp_cond_t);(·exact eT rfl);(·(exact decide_eq_true (by omega))))|apply sp_skip|apply sp_block|((first|apply spl_pure rfl|apply spq_pure rfl);(·(first|(apply ex_loadpartE (cs':=#[.slice A n c]);(·exact eT rfl);(·exact Bk.own InH.mem);(·rfl);(·rfl))|(apply ex_loadfield (ad:=ad2) (i:=q) (k:=0);(·exact eT rfl);(·exact hX.1);(·exact hA2);(·exact hs);(·rfl))|(apply ex_loadfield (ad:=ad2) (i:=q) (k:=1);(·exact eT rfl);(·exact hX.1);(·exact hA2);(·exact hs);(·rfl))|(apply ex_loadfield (ad:=ad3) (i:=m) (k:=0);(·exact eT rfl);(·exact hst.1);(·exact hA3);(·exact hz);(·rfl))|((first|apply ex_move|apply ex_assign|apply ex_fieldAddr'|apply ex_not|apply ex_lss|apply ex_len)<;>(exact eT rfl))|((apply ex_fieldAddr)<;>(exact eT rfl))|(apply ex_addn<;>(first|exact eT rfl|exact eC|(constructor<;>omega)))|((first|apply ex_loadown|apply ex_indexAddr)<;>(first|exact eT rfl|exact Bk.own InH.mem|rfl|assumption)))))|apply spq_nil|apply sp_draw mixed (by kernel_rfl))
            exact ⟨m + 1, hlt3, by (show s.ks.n - (m + 1) < s.ks.n - m; omega), (by rw [hmin]; (repeat (first|exact ESub.nil|apply ESub.cons rfl))), rfl, (by (repeat (exact HKeep.refl)))⟩
          · rw [decide_eq_false hmn] at hN2
            have hmin : min (m + 1) s.normal.toNat = min m s.normal.toNat := by omega
            repeat (first|(apply sp_cond_f;(·exact eT rfl);(·rfl))|(apply spq_callp rfl;(·(repeat (first|exact eN|(apply eS;(·exact eT rfl)))));(·exact fun w' hh => hN2 w' (hK.hp hh)))|(apply spq_callp rfl;(·(repeat (first|exact eN|(apply eS;(·exact eT rfl)))));(·exact fun w' hh => hT2 w' (hK.hp hh)))|apply then_n|apply block_n|apply sp_seq|apply sp_region|apply spl_nil|((apply sp_cond_t);(·exact eT rfl);(·(exact decide_eq_true (by omega))))|apply sp_skip|apply sp_block|((first|apply spl_pure rfl|apply spq_pure rfl);(·(first|(apply ex_loadpartE (cs':=#[.slice A n c]);(·exact eT rfl);(·exact Bk.own InH.mem);(·rfl);(·rfl))|(apply ex_loadfield (ad:=ad2) (i:=q) (k:=0);(·exact eT rfl);(·exact hX.1);(·exact hA2);(·exact hs);(·rfl))|(apply ex_loadfield (ad:=ad2) (i:=q) (k:=1);(·exact eT rfl);(·exact hX.1);(·exact hA2);(·exact hs);(·rfl))|(apply ex_loadfield (ad:=ad3) (i:=m) (k:=0);(·exact eT rfl);(·exact hst.1);(·exact hA3);(·exact hz);(·rfl))|((first|apply ex_move|apply ex_assign|apply ex_fieldAddr'|apply ex_not|apply ex_lss|apply ex_len)<;>(exact eT rfl))|((apply ex_fieldAddr)<;>(exact eT rfl))|(apply ex_addn<;>(first|exact eT rfl|exact eC|(constructor<;>omega)))|((first|apply ex_loadown|apply ex_indexAddr)<;>(first|exact eT rfl|exact Bk.own InH.mem|rfl|assumption)))))|apply spq_nil|apply sp_draw mixed (by kernel_rfl))
            exact ⟨m + 1, hlt3, by (show s.ks.n - (m + 1) < s.ks.n - m; omega), (by rw [hmin]; (repeat (first|exact ESub.nil|apply ESub.cons rfl))), rfl, (by (repeat (exact HKeep.refl)))⟩
        · have hmin : ((min m s.normal.toNat : Nat) : Int) = s.normal := by omega
          rw [hmin]
          have hno : ¬ s.normal < 1 := by omega
          repeat (first|(apply sp_cond_f;(·exact eT rfl);(·(rw [decide_eq_false hno];simp)))|apply then_n|apply block_n|apply sp_seq|apply sp_region|apply spl_nil|apply then_e|apply block_here|(apply sp_cond_f;(·exact eT rfl);(·(exact decide_eq_false (by omega))))|apply sp_skip|apply sp_exit|((first|apply spl_pure rfl|(apply spl_pure_g rfl;(·exact Gd.tf rfl rfl)));(·(first|(apply ex_loadfield (ad:=ad2) (i:=q) (k:=1);(·exact eT rfl);(·exact hX.1);(·exact hA2);(·exact hs);(·rfl))|(apply ex_loadfield (ad:=ad2) (i:=q) (k:=2);(·exact eT rfl);(·exact hX.1);(·exact hA2);(·exact hs);(·rfl))|((first|apply ex_move|apply ex_assign|apply ex_fieldAddr'|apply ex_lss|apply ex_sneq|apply ex_len)<;>(first|exact eT rfl|exact eC|exact eG rfl))|((first|apply ex_fieldAddr|apply ex_neq|apply ex_orT)<;>(first|exact eT rfl|exact eG rfl))|(apply ex_addn<;>(first|exact eT rfl|exact eC|(constructor<;>omega)))|((first|apply ex_loadown|apply ex_indexAddr)<;>(first|exact eT rfl|exact Bk.own InH.mem|rfl|assumption))))))
          exact ⟨q + 1, hlt, by (show x.ss.n - (q + 1) < x.ss.n - q; omega), (by (repeat (first|exact ESub.nil|apply ESub.cons rfl))), rfl, (by (repeat (exact HKeep.refl)))⟩
      ·
        repeat (first|apply then_n|apply sp_seq|apply sp_region|apply spl_nil|apply then_e|apply block_here|(apply sp_cond_f;(·exact eT rfl);(·(exact decide_eq_false (by omega))))|apply sp_ret|apply sp_exit|((apply spl_pure rfl);(·(first|((first|apply ex_move|apply ex_assign|apply ex_fieldAddr'|apply ex_lss|apply ex_len)<;>(exact eT rfl))|((apply ex_loadown)<;>(first|exact eT rfl|exact Bk.own InH.mem|rfl))))))
        (apply ret_ok rfl;(·((apply Res.ofOne;((apply Res1.tmp;(·rfl))))))); rfl
    | false =>
      have hN : normalB ks kind slot other = false := by
        cases h : normalB ks kind slot other with
        | false => rfl
        | true =>
          rw [takes_pure] at hT
          rw [normal_pure] at h
          rw [normal_takes h] at hT
          cases hT
      rw [hT] at hTc
      rw [hN] at hNc
      repeat (first|(apply sp_cond_f;(·exact eT rfl);(·rfl))|(apply spq_callp rfl;(·(repeat (first|exact eN|(apply eS;(·exact eT rfl)))));(·exact fun w' hh => hTc w' (hK.hp hh)))|(apply spq_callp rfl;(·(repeat (first|exact eN|(apply eS;(·exact eT rfl)))));(·exact fun w' hh => hNc w' (hK.hp hh)))|(apply spl_callp rfl;(·(repeat (first|exact eN|(apply eS;(·exact eT rfl)))));(·exact fun w' hh => hPk w' (hK.hp hh)))|(apply spl_callp rfl;(·(repeat (first|exact eN|(apply eS;(·exact eT rfl)))));(·exact fun w' hh => hF w' (hK.hp hh)))|apply then_n|apply sp_seq|apply sp_region|apply spl_nil|apply sp_skip|((first|apply spl_pure rfl|apply spq_pure rfl|(apply spl_pure_g rfl;(·exact Gd.tt rfl rfl)));(·(first|(apply ex_loadpartE (cs':=#[.slice A n c]);(·exact eT rfl);(·exact Bk.own InH.mem);(·rfl);(·rfl))|((first|apply ex_move|apply ex_assign|apply ex_not|apply ex_geq|apply ex_sneq|apply ex_andT)<;>(first|exact eT rfl|exact eC|exact eG rfl))|((apply ex_bneq)<;>(exact eT rfl))|((apply ex_extract)<;>(first|exact eT rfl|rfl)))))|(apply spl_alloc rfl;intro _ _)|(apply spl_stores;(·exact eT rfl);(·exact eT rfl);(·(repeat (exact Upd.here)));(·(rfl));(·(rfl));(·exact Ones.one))|apply spq_nil|apply sp_draw mixed (by kernel_rfl))
      refine sp_cond_f (by (exact eT rfl)) (by rw [hfp]; cases b0 <;> rfl) ?_
      repeat (first|apply then_n|apply sp_seq|apply sp_region|apply spl_nil|apply sp_skip|apply sp_block|((apply spl_pure rfl);(·(((apply ex_assign)<;>(exact eC))))))
      rename_i g14 hg14
      refine sp_loop (X := Nat) (fun q => [(16, true, .int .i64 (q : Int)), (14, true, .pointer (some ⟨g14, 0, none⟩)), (4, true, .pointer (some ⟨g4, 0, none⟩)), (1, true, .string kind), (9, true, .bool true)]) (fun _ => w) (fun _ => [(g14, .cells x.cells 34 (0, 0)), (g4, .cells #[.slice A n c] 24 (0, 0))]) (fun q => q ≤ x.ss.n) (fun q => x.ss.n - q) 0 (Nat.zero_le _) (by (repeat (first|exact ESub.nil|apply ESub.cons rfl))) rfl (by (repeat (first|exact HKeep.refl|apply HKeep.keep|(apply HKeep.pick;(·(repeat (first|exact Rem.here|apply Rem.there))))|apply HKeep.drop (by first|assumption|omega)))) ?_
      intro q hq
      by_cases hlt : q < x.ss.n
      · obtain ⟨ad2, s, hA2, hb2, hs, -, -⟩ := hX.1.at_ hlt
        have hst := hX.2 s (List.mem_of_getElem? hs)
        have hbd3 := hst.1.bound
        have hbd2 := hX.1.bound
        have hfk : findN (ks.map KindR.pure) kind = some x.pure := by
          unfold findN
          rw [find_pure]
          cases hf : findK ks kind with
          | none => rw [hf] at hx; subst hx; cases hs
          | some y => rw [hf] at hx; cases hx; rfl
        have hsp : x.pure.slots[q]? = some s.pure := by show (x.slots.map SlotR.pure)[q]? = _; rw [List.getElem?_map, hs]; rfl
        obtain ⟨-, hv1, hv2⟩ := slot_valid hcv hfk hsp
        have hkl : s.kinds.length = s.ks.n := hst.1.len
        have hv1' : 1 ≤ s.normal.toNat := hv1
        have hv2' : s.normal.toNat ≤ s.kinds.length := hv2
        have how : ∀ (m : Nat) (z : ByteArray), s.kinds[m]? = some z → takesB ks kind s.name z = true ∧ normalB ks kind s.name z = decide (m < s.normal.toNat) := fun m z hz => by
          have := takes_own hcv hfk hsp hz
          rw [takes_pure, normal_pure]
          exact this
        repeat (first|apply then_n|apply sp_seq|apply sp_region|apply spl_nil|((apply sp_cond_t);(·exact eT rfl);(·(exact decide_eq_true (by omega))))|apply sp_skip|apply sp_block|((apply spl_pure rfl);(·(first|((first|apply ex_move|apply ex_assign|apply ex_fieldAddr'|apply ex_lss|apply ex_len)<;>(first|exact eT rfl|exact eC))|((apply ex_loadown)<;>(first|exact eT rfl|exact Bk.own InH.mem|rfl))))))
        refine sp_loop (X := Nat) (fun m => [(18, true, .int .i64 (m : Int)), (17, true, .int .i64 ((min m s.normal.toNat : Nat) : Int)), (16, true, .int .i64 (q : Int)), (14, true, .pointer (some ⟨g14, 0, none⟩)), (4, true, .pointer (some ⟨g4, 0, none⟩)), (1, true, .string kind), (9, true, .bool true)]) (fun _ => w) (fun _ => [(g14, .cells x.cells 34 (0, 0)), (g4, .cells #[.slice A n c] 24 (0, 0))]) (fun m => m ≤ s.ks.n) (fun m => s.ks.n - m) 0 (Nat.zero_le _) (by rw [Nat.zero_min]; (repeat (first|exact ESub.nil|apply ESub.cons rfl))) rfl (by (repeat (exact HKeep.refl))) ?_
        intro m hm
        by_cases hlt3 : m < s.ks.n
        · obtain ⟨ad3, z, hA3, hb3, hz, -, -⟩ := hst.1.at_ hlt3
          obtain ⟨h1, h2⟩ := how m z hz
          have hT2 := fun (w' : World) (h' : RdKinds w' w'.heap.size ⟨A, n, c⟩ ks) => takes_c (s := kind) (t := s.name) (o := z) h'
          have hN2 := fun (w' : World) (h' : RdKinds w' w'.heap.size ⟨A, n, c⟩ ks) => normal_c (s := kind) (t := s.name) (o := z) h'
          rw [h1] at hT2
          rw [h2] at hN2
          by_cases hmn : m < s.normal.toNat
          · rw [decide_eq_true hmn] at hN2
            have hmin : min (m + 1) s.normal.toNat = min m s.normal.toNat + 1 := by omega
            have hmb : min m s.normal.toNat ≤ m := Nat.min_le_left _ _
            generalize hM : min m s.normal.toNat = M at hmin hmb
            repeat (first|(apply sp_cond_t;(·exact eT rfl);(·rfl))|(apply sp_cond_f;(·exact eT rfl);(·rfl))|(apply spq_callp rfl;(·(repeat (first|exact eN|(apply eS;(·exact eT rfl)))));(·exact fun w' hh => hN2 w' (hK.hp hh)))|(apply spq_callp rfl;(·(repeat (first|exact eN|(apply eS;(·exact eT rfl)))));(·exact fun w' hh => hT2 w' (hK.hp hh)))|apply then_n|apply block_n|apply sp_seq|apply sp_region|apply spl_nil|((apply sp_cond_t);(·exact eT rfl);(·(exact decide_eq_true (by omega))))|apply sp_skip|apply sp_block|((first|apply spl_pure rfl|apply spq_pure rfl);(·(first|(apply ex_loadpartE (cs':=#[.slice A n c]);(·exact eT rfl);(·exact Bk.own InH.mem);(·rfl);(·rfl))|(apply ex_loadfield (ad:=ad2) (i:=q) (k:=0);(·exact eT rfl);(·exact hX.1);(·exact hA2);(·exact hs);(·rfl))|(apply ex_loadfield (ad:=ad2) (i:=q) (k:=1);(·exact eT rfl);(·exact hX.1);(·exact hA2);(·exact hs);(·rfl))|(apply ex_loadfield (ad:=ad3) (i:=m) (k:=0);(·exact eT rfl);(·exact hst.1);(·exact hA3);(·exact hz);(·rfl))|((first|apply ex_move|apply ex_assign|apply ex_fieldAddr'|apply ex_not|apply ex_lss|apply ex_len)<;>(exact eT rfl))|((apply ex_fieldAddr)<;>(exact eT rfl))|(apply ex_addn<;>(first|exact eT rfl|exact eC|(constructor<;>omega)))|((first|apply ex_loadown|apply ex_indexAddr)<;>(first|exact eT rfl|exact Bk.own InH.mem|rfl|assumption)))))|apply spq_nil|apply sp_draw mixed (by kernel_rfl))
            exact ⟨m + 1, hlt3, by (show s.ks.n - (m + 1) < s.ks.n - m; omega), (by rw [hmin]; (repeat (first|exact ESub.nil|apply ESub.cons rfl))), rfl, (by (repeat (exact HKeep.refl)))⟩
          · rw [decide_eq_false hmn] at hN2
            have hmin : min (m + 1) s.normal.toNat = min m s.normal.toNat := by omega
            repeat (first|(apply sp_cond_f;(·exact eT rfl);(·rfl))|(apply spq_callp rfl;(·(repeat (first|exact eN|(apply eS;(·exact eT rfl)))));(·exact fun w' hh => hN2 w' (hK.hp hh)))|(apply spq_callp rfl;(·(repeat (first|exact eN|(apply eS;(·exact eT rfl)))));(·exact fun w' hh => hT2 w' (hK.hp hh)))|apply then_n|apply block_n|apply sp_seq|apply sp_region|apply spl_nil|((apply sp_cond_t);(·exact eT rfl);(·(exact decide_eq_true (by omega))))|apply sp_skip|apply sp_block|((first|apply spl_pure rfl|apply spq_pure rfl);(·(first|(apply ex_loadpartE (cs':=#[.slice A n c]);(·exact eT rfl);(·exact Bk.own InH.mem);(·rfl);(·rfl))|(apply ex_loadfield (ad:=ad2) (i:=q) (k:=0);(·exact eT rfl);(·exact hX.1);(·exact hA2);(·exact hs);(·rfl))|(apply ex_loadfield (ad:=ad2) (i:=q) (k:=1);(·exact eT rfl);(·exact hX.1);(·exact hA2);(·exact hs);(·rfl))|(apply ex_loadfield (ad:=ad3) (i:=m) (k:=0);(·exact eT rfl);(·exact hst.1);(·exact hA3);(·exact hz);(·rfl))|((first|apply ex_move|apply ex_assign|apply ex_fieldAddr'|apply ex_not|apply ex_lss|apply ex_len)<;>(exact eT rfl))|((apply ex_fieldAddr)<;>(exact eT rfl))|(apply ex_addn<;>(first|exact eT rfl|exact eC|(constructor<;>omega)))|((first|apply ex_loadown|apply ex_indexAddr)<;>(first|exact eT rfl|exact Bk.own InH.mem|rfl|assumption)))))|apply spq_nil|apply sp_draw mixed (by kernel_rfl))
            exact ⟨m + 1, hlt3, by (show s.ks.n - (m + 1) < s.ks.n - m; omega), (by rw [hmin]; (repeat (first|exact ESub.nil|apply ESub.cons rfl))), rfl, (by (repeat (exact HKeep.refl)))⟩
        · have hmin : ((min m s.normal.toNat : Nat) : Int) = s.normal := by omega
          rw [hmin]
          have hno : ¬ s.normal < 1 := by omega
          repeat (first|(apply sp_cond_f;(·exact eT rfl);(·(rw [decide_eq_false hno];simp)))|apply then_n|apply block_n|apply sp_seq|apply sp_region|apply spl_nil|apply then_e|apply block_here|(apply sp_cond_f;(·exact eT rfl);(·(exact decide_eq_false (by omega))))|apply sp_skip|apply sp_exit|((first|apply spl_pure rfl|(apply spl_pure_g rfl;(·exact Gd.tf rfl rfl)));(·(first|(apply ex_loadfield (ad:=ad2) (i:=q) (k:=1);(·exact eT rfl);(·exact hX.1);(·exact hA2);(·exact hs);(·rfl))|(apply ex_loadfield (ad:=ad2) (i:=q) (k:=2);(·exact eT rfl);(·exact hX.1);(·exact hA2);(·exact hs);(·rfl))|((first|apply ex_move|apply ex_assign|apply ex_fieldAddr'|apply ex_lss|apply ex_sneq|apply ex_len)<;>(first|exact eT rfl|exact eC|exact eG rfl))|((first|apply ex_fieldAddr|apply ex_neq|apply ex_orT)<;>(first|exact eT rfl|exact eG rfl))|(apply ex_addn<;>(first|exact eT rfl|exact eC|(constructor<;>omega)))|((first|apply ex_loadown|apply ex_indexAddr)<;>(first|exact eT rfl|exact Bk.own InH.mem|rfl|assumption))))))
          exact ⟨q + 1, hlt, by (show x.ss.n - (q + 1) < x.ss.n - q; omega), (by (repeat (first|exact ESub.nil|apply ESub.cons rfl))), rfl, (by (repeat (exact HKeep.refl)))⟩
      ·
        repeat (first|apply then_n|apply sp_seq|apply sp_region|apply spl_nil|apply then_e|apply block_here|(apply sp_cond_f;(·exact eT rfl);(·(exact decide_eq_false (by omega))))|apply sp_ret|apply sp_exit|((apply spl_pure rfl);(·(first|((first|apply ex_move|apply ex_assign|apply ex_fieldAddr'|apply ex_lss|apply ex_len)<;>(exact eT rfl))|((apply ex_loadown)<;>(first|exact eT rfl|exact Bk.own InH.mem|rfl))))))
        (apply ret_ok rfl;(·((apply Res.ofOne;((apply Res1.tmp;(·rfl))))))); rfl
end Go.Proofs.Ytfdjlphfohnnnaa
/-
  CatalogBegins, walked.
-/
namespace Go.Proofs.Ytfdjlphfohnnnaa
open Go.RowKit Go.Sy
set_option linter.unusedVariables false
set_option linter.unusedSimpArgs false
theorem ex_slice_hE {P : Program} {Be : Nat} {w0 : World} {H : Heap} {G : Bool} {e : Env} {ty : TypeId} {t el : TypeId} {x y : Operand} {A : Option Addr} {n c sz m : Nat} {k : IntKind} (h1 : Ev G e x (.slice A n c)) (h2 : Ev G e y (.int k (m : Int))) (hb : m ≤ c) [ht : TSlice P t el] [hs : TSize P el sz] :
    Ex P Be w0 H G e (.slice t x none (some y) none) ty (.slice A m c) := by
  have := ex_slice_h (P := P) (Be := Be) (w0 := w0) (H := H) (ty := ty) h1 h2 ⟨by omega, by omega⟩ (ht := ht) (hs := hs)
  rwa [Int.toNat_natCast] at this
theorem ex_remL {P : Program} {Be : Nat} {w0 : World} {H : Heap} {G : Bool} {e : Env} {ty t t' : TypeId} {x y : Operand} {k : IntKind} {m n q : Nat} (hq : m % n = q) (hn : n ≠ 0) (h1 : Ev G e x (.int k (m : Int))) (h2 : Ev G e y (.int k (n : Int))) : Ex P Be w0 H G e (.binOp .rem t x y t') ty (.int k (q : Int)) := by
  have := ex_rem (P := P) (Be := Be) (w0 := w0) (H := H) (ty := ty) (t := t) (t' := t') h1 h2 (by omega)
  rwa [show (m : Int).tmod (n : Int) = (q : Int) from by rw [← hq]; rfl] at this
theorem RdKinds.take {w : World} {Be n c m : Nat} {A : Option Addr} {ks : List KindR} (h : RdKinds w Be ⟨A, n, c⟩ ks) (hm : m ≤ n) : RdKinds w Be ⟨A, m, c⟩ (ks.take m) := ⟨h.1.take hm, fun x hx => h.2 x (List.mem_of_mem_take hx)⟩
attribute [local irreducible] Calls thenQ blockQ retQ retFQ Spc Spl Spq Ex Ev Evs Gd Upd ESub HKeep Res Res1 wlk effQ Rem SrcAt Split fewB validB takesB normalB
set_option maxRecDepth 100000 in
set_option maxHeartbeats 8000000 in
theorem lawBegins {w : World} {A : Option Addr} {n c raw : Nat} {ks : List KindR} {kind slot other : ByteArray} (hraw : raw < 256) (hK : RdKinds w w.heap.size ⟨A, n, c⟩ ks) (hnc : n ≤ c) :
    Calls Try.prog 6 #[.agg #[.slice A n c], .int .u8 (raw : Int), .string kind, .string slot, .string other] w (Ret w (.bool true)) := by
  have hbd : n ≤ 9223372036854775807 := hK.1.bound
  refine sp_enter (vs := [_, _, _, _, _]) Try.func6 rfl Try.ntmps6 rfl ?_
  repeat (first|(apply spl_callp rfl;(·(repeat (first|exact eN|(apply eS;(·exact eT rfl)))));(·exact fun w' hh => head_c))|(apply spl_callp rfl;(·(repeat (first|exact eN|(apply eS;(·exact eT rfl)))));(·exact fun w' hh => few1_c (hK.hp hh) hh.ownI))|(apply spl_callp_g rfl;(·exact Gd.tf rfl rfl);(·(repeat (first|exact eN|(apply eS;(·exact eG rfl)))));(·exact fun hG w' hh => valid_c (hK.hp hh) (few_sized (by simpa using hG)).2))|apply then_n|apply sp_seq|apply sp_region|apply spl_nil|((first|apply spl_pure rfl|(apply spl_pure_g rfl;(·exact Gd.tf rfl rfl)));(·(first|(apply ex_loadpartE (cs':=#[.slice A n c]);(·exact eT rfl);(·exact Bk.own InH.mem);(·rfl);(·rfl))|((first|apply ex_move|apply ex_assign|apply ex_not|apply ex_gtr)<;>(first|exact eT rfl|exact eC|exact eG rfl))|((first|apply ex_slen|apply ex_orT)<;>(first|exact eT rfl|exact eG rfl))|(apply ex_add<;>(exact eG rfl)))))|(apply spl_box;(·exact eT rfl);(·rfl);intro _ _)|(apply spl_buildSlice rfl;(·rfl);(·(repeat (first|exact eN|(apply eS;(·exact eT rfl)))));(·rfl);(·rfl);(·rfl);intro _ _))
  rename_i g4 hg4 gS hgS
  refine sp_cond (eT rfl) (fun hp => ?_) (fun hp => ?_)
  ·
    repeat (first|apply then_n|apply sp_seq|apply sp_region|apply spl_nil|apply then_r|apply sp_ret|((apply spl_pure rfl);(·(((first|apply ex_move|apply ex_assign)<;>(exact eT rfl))))))
    (apply ret_ok rfl;(·((apply Res.ofOne;((apply Res1.tmp;(·rfl))))))); rfl
  · have hfew : fewB ks = true := by
      cases hf : fewB ks with
      | true => rfl
      | false => rw [hf] at hp; simp at hp
    have hval : validB ks = true := by
      cases hf : validB ks with
      | true => rfl
      | false => rw [hf] at hp; simp at hp
    clear hp
    refine spc_know (X := ∀ k ∈ ks, LensK k) (fun w' hh => (hK.hp hh).lens) fun hl => ?_
    have hcv := (valid_iff hl).1 hval
    have hsz := (few_sized hfew).2
    have h65 : n ≤ 65 := by have := (few_sized hfew).1; rw [hK.1.len] at this; exact this
    obtain ⟨m, hm⟩ : ∃ m, raw % (n + 1) = m := ⟨_, rfl⟩
    have hmn : m ≤ n := by have := Nat.mod_lt raw (show 0 < n + 1 by omega); omega
    have hw8 : IntKind.i64.wrap (raw : Int) = (raw : Int) := wrap64_in (by omega)
    have hKm := hK.take hmn
    have hlm : ∀ k ∈ ks.take m, LensK k := fun k hk => hl k (List.mem_of_mem_take hk)
    have hvm : validB (ks.take m) = true := (valid_iff hlm).2 (by rw [List.map_take]; exact catV_take hcv m)
    have hszm : ∀ k ∈ ks.take m, k.name.size < 9223372036854775808 ∧ ∀ s ∈ k.slots, s.name.size < 9223372036854775808 := fun k hk => hsz k (List.mem_of_mem_take hk)
    have hV := fun (w' : World) (h' : RdKinds w' w'.heap.size ⟨A, m, c⟩ (ks.take m)) => valid_c (c := c) h' hszm
    rw [hvm] at hV
    obtain ⟨b0, hb0⟩ : ∃ b, (findK (ks.take m) kind).isSome = b := ⟨_, rfl⟩
    have heq : b0 = true → takesB (ks.take m) kind slot other = takesB ks kind slot other ∧ normalB (ks.take m) kind slot other = normalB ks kind slot other := fun hb => by
      have hi : (findN ((ks.map KindR.pure).take m) kind).isSome = true := by
        rw [← List.map_take]
        unfold findN
        rw [find_pure, Option.isSome_map, hb0, hb]
      rw [takes_pure, takes_pure, normal_pure, normal_pure, List.map_take]
      exact takes_take hi
    have hF := fun (w' : World) (h' : RdKinds w' w'.heap.size ⟨A, m, c⟩ (ks.take m)) => find_e (c := c) rfl hb0 h'.1
    have hT1 := fun (w' : World) (h' : RdKinds w' w'.heap.size ⟨A, m, c⟩ (ks.take m)) => takes_c (s := kind) (t := slot) (o := other) h'
    have hT2 := fun (w' : World) (h' : RdKinds w' w'.heap.size ⟨A, n, c⟩ ks) => takes_c (s := kind) (t := slot) (o := other) h'
    have hN1 := fun (w' : World) (h' : RdKinds w' w'.heap.size ⟨A, m, c⟩ (ks.take m)) => normal_c (s := kind) (t := slot) (o := other) h'
    have hN2 := fun (w' : World) (h' : RdKinds w' w'.heap.size ⟨A, n, c⟩ ks) => normal_c (s := kind) (t := slot) (o := other) h'
    generalize takesB (ks.take m) kind slot other = t1 at *
    generalize takesB ks kind slot other = t2 at *
    generalize normalB (ks.take m) kind slot other = n1 at *
    generalize normalB ks kind slot other = n2 at *
    repeat (first|apply then_n|apply sp_seq|apply sp_skip)
    refine sp_drawn [(0, true), (1, true), (2, true), (3, true), (4, true), (5, true), (6, true), (7, true), (8, true), (9, true), (10, true), (11, false), (12, false)] 13 _ mixed (by kernel_rfl) HKeep.refl ?_
    repeat (first|apply then_n|apply sp_seq|apply sp_region|apply spl_nil|((first|apply spl_pure rfl|apply wlk_read rfl rfl);(·(first|(apply ex_convin;(·exact eT rfl);(·exact hw8))|(apply ex_remL (m:=raw) (n:=n+1) hm (by omega);(·exact eT rfl);(·exact eT rfl))|(apply ex_addE2 (r:=((n + 1 : Nat) : Int));(·exact eT rfl);(·exact eC);(·omega);(·(constructor<;>omega)))|(apply ex_slice_hE (m:=m);(·exact eT rfl);(·exact eT rfl);(·omega))|(apply ex_buildE (r:=#[.slice A m c]);(·(repeat (first|exact eN|(apply eS;(·exact eT rfl)))));(·rfl);(·rfl))|((first|apply ex_move|apply ex_fieldAddr'|apply ex_len)<;>(exact eT rfl))|((apply ex_loadown)<;>(first|exact eT rfl|exact Bk.own InH.mem|rfl))|(apply ex_loadowns<;>(first|exact eT rfl|exact Bk.own InH.mem|(rfl))))))|(apply spl_alloc rfl;intro _ _)|(apply spl_stores;(·exact eT rfl);(·exact eT rfl);(·(repeat (exact Upd.here)));(·(rfl));(·(rfl));(·exact ones_of_all rfl))|(apply effq;(·(intro h_;((repeat (first|exact HKeep.refl|(apply HKeep.pick;(·(repeat (first|exact Rem.here|apply Rem.there))))|apply HKeep.drop (by first|assumption|omega)))))))|apply wlk_nil|apply wlk_eff rfl)
    rename_i g12 hg12
    repeat (first|(apply sp_cond_f;(·exact eT rfl);(·rfl))|(apply spl_callp rfl;(·(repeat (first|exact eN|(apply eS;(·exact eT rfl)))));(·exact fun w' hh => hV w' (hKm.hp hh)))|(apply spl_callp rfl;(·(repeat (first|exact eN|(apply eS;(·exact eT rfl)))));(·exact fun w' hh => hF w' (hKm.hp hh)))|(apply spq_callp_g rfl;(·(first|exact Gd.tf rfl rfl|exact Gd.gt rfl rfl));(·(repeat (first|exact eN|(apply eS;(·exact eG rfl)))));(·exact fun _ w' hh => hT1 w' (hKm.hp hh)))|(apply spq_callp_g rfl;(·(first|exact Gd.tf rfl rfl|exact Gd.gt rfl rfl));(·(repeat (first|exact eN|(apply eS;(·exact eG rfl)))));(·exact fun _ w' hh => hT2 w' (hK.hp hh)))|(apply spq_callp_g rfl;(·exact Gd.gt rfl rfl);(·(repeat (first|exact eN|(apply eS;(·exact eG rfl)))));(·exact fun _ w' hh => hN1 w' (hKm.hp hh)))|(apply spq_callp_g rfl;(·exact Gd.gt rfl rfl);(·(repeat (first|exact eN|(apply eS;(·exact eG rfl)))));(·exact fun _ w' hh => hN2 w' (hK.hp hh)))|apply then_n|apply sp_seq|apply sp_region|apply spl_nil|apply sp_skip|apply sp_ret|((first|apply spl_pure rfl|apply spq_pure rfl|(apply spq_pure_g rfl;(·(first|exact Gd.tt rfl rfl|exact Gd.tf rfl rfl|exact Gd.gt rfl rfl))));(·(first|(apply ex_loadpartE (cs':=#[.slice A m c]);(·exact eT rfl);(·exact Bk.own InH.mem);(·rfl);(·rfl))|(apply ex_loadpartE (cs':=#[.slice A n c]);(·exact eT rfl);(·exact Bk.own InH.mem);(·rfl);(·rfl))|((first|apply ex_move|apply ex_assign|apply ex_not|apply ex_seql|apply ex_andT)<;>(first|exact eT rfl|exact eG rfl))|((first|apply ex_eql|apply ex_orT)<;>(first|exact eT rfl|exact eG rfl))|((first|apply ex_beql|apply ex_and)<;>(exact eG rfl))|((apply ex_extract)<;>(first|exact eT rfl|rfl)))))|(apply spl_alloc rfl;intro _ _)|(apply spl_stores;(·exact eT rfl);(·exact eT rfl);(·(repeat (exact Upd.here)));(·(rfl));(·(rfl));(·exact Ones.one))|apply spq_nil|apply sp_draw mixed (by kernel_rfl))
    (apply ret_ok rfl;(·((apply Res.ofOne;((apply Res1.tmp;(·rfl)))))))
    cases b0 with
    | false => rfl
    | true =>
      obtain ⟨rfl, rfl⟩ := heq rfl
      simp
end Go.Proofs.Ytfdjlphfohnnnaa
