/-
  A disk, in plain terms: its state, and what each call makes of it.
-/
import Derived.Test.YtmlodiiijicghaaSm
namespace Go.Proofs.Ytmlodiiijicghaa
open Go.RowKit Go.Sy
set_option linter.unusedVariables false
set_option linter.unusedSimpArgs false

/-- The contents of the sectors; the writes that are pending; whether it is off; when and how the power fails. -/
structure St where
  st : List ByteArray
  q : List (Nat × ByteArray)
  off : Bool
  ar : Option (Nat × Int × Int)

/-- The text over the first bytes. -/
def mixB (t o : ByteArray) : ByteArray := ⟨(t.data.toList ++ o.data.toList.drop t.size).toArray⟩
def secP (l : List ByteArray) (s : Nat) : ByteArray := l[s]?.getD ByteArray.empty
def setP (l : List ByteArray) (s : Nat) (t : ByteArray) : List ByteArray := l.set s (mixB t (secP l s))
def settleP (ps : List (Nat × ByteArray)) (l : List ByteArray) : List ByteArray := ps.foldl (fun l p => setP l p.1 p.2) l
def clampN (x : Int) (n : Nat) : Nat := (min (max x 0) n).toNat
def tornP (l : List ByteArray) (p : Option (Nat × ByteArray)) (k : Nat) : List ByteArray := match p with | some p => if 0 < k then setP l p.1 (p.2.extract 0 k) else l | none => l
def St.fail (S : St) (w b : Int) : St := if S.off then S else
  ⟨tornP (settleP (S.q.take (clampN w S.q.length)) S.st) S.q[clampN w S.q.length]? (clampN b 64), [], true, none⟩
def St.count (S : St) : St × Int := match S.ar with
  | none => (S, 0)
  | some (0, w, b) => (S.fail w b, 18)
  | some (n + 1, w, b) => ({ S with ar := some (n, w, b) }, 0)
def St.at_ (S : St) (s : Int) : Int := if S.off then 18 else if 0 ≤ s ∧ s < S.st.length then 0 else 1
def St.write (S : St) (s : Int) (t : ByteArray) : St × Int := if S.at_ s = 0 then (if t.size = 64 then ({ S with q := S.q ++ [(s.toNat, t)] } : St).count else (S, 1)) else (S, S.at_ s)
def lastQ (q : List (Nat × ByteArray)) (i : Nat) : Option ByteArray := (q.reverse.find? fun p => decide (p.1 = i)).map (·.2)
def St.cur (S : St) (i : Nat) : ByteArray := (lastQ S.q i).getD (secP S.st i)
def St.read (S : St) (s : Int) : ByteArray × Int := if S.at_ s = 0 then (S.cur s.toNat, 0) else (ByteArray.empty, S.at_ s)
def St.settled (S : St) : St := { S with st := settleP S.q S.st, q := [] }
def St.sync (S : St) : St × Int := if S.off then (S, 18) else if S.count.2 = 0 then (S.count.1.settled, 0) else S.count
def St.arm (S : St) (a w b : Int) : St := if S.off then S else { S with ar := if 0 ≤ a then some (a.toNat, w, b) else none }
def St.start (S : St) : St := { S with off := false, ar := none }
def rotB (t : ByteArray) (i m : Nat) : ByteArray := ⟨(t.data.toList.set i (UInt8.ofNat ((t.data.toList[i]?.getD 0).toNat ^^^ m))).toArray⟩
def St.rot (S : St) (s i m : Int) : St := if 0 ≤ s ∧ s < S.st.length ∧ 0 ≤ i ∧ i < 64 ∧ 0 < m ∧ m < 256 then { S with st := S.st.set s.toNat (rotB (secP S.st s.toNat) i.toNat m.toNat) } else S
def joinB (l : List ByteArray) : ByteArray := ⟨(l.flatMap fun s => s.data.toList).toArray⟩
def St.raw (S : St) : ByteArray := joinB S.st
def zeroB : ByteArray := ⟨(List.replicate 64 0).toArray⟩
def St.new (n : Nat) : St := ⟨List.replicate n zeroB, [], false, none⟩

structure Inv (S : St) : Prop where
  sz : ∀ x ∈ S.st, x.size = 64
  qs : ∀ p ∈ S.q, p.1 < S.st.length ∧ p.2.size = 64
  lo : 0 < S.st.length
  hi : S.st.length ≤ 8000

theorem size_mk (l : List UInt8) : (ByteArray.mk l.toArray).size = l.length := rfl
theorem size_mixB {t o : ByteArray} (h : t.size ≤ o.size) : (mixB t o).size = o.size := by
  unfold mixB
  rw [size_mk]
  have h1 : o.data.toList.length = o.size := by simp
  have h2 : t.data.toList.length = t.size := by simp
  simp only [List.length_append, List.length_drop, h1, h2]
  omega
theorem size_rotB (t : ByteArray) (i m : Nat) : (rotB t i m).size = t.size := by
  unfold rotB
  rw [size_mk]
  simp
theorem secP_size {l : List ByteArray} (hl : ∀ x ∈ l, x.size = 64) {s : Nat} (hs : s < l.length) : (secP l s).size = 64 := by
  unfold secP
  rw [List.getElem?_eq_getElem hs]
  exact hl _ (List.getElem_mem hs)
theorem length_setP (l : List ByteArray) (s : Nat) (t : ByteArray) : (setP l s t).length = l.length := by simp [setP]
theorem setP_sz {l : List ByteArray} (hl : ∀ x ∈ l, x.size = 64) {s : Nat} {t : ByteArray} (hs : s < l.length) (ht : t.size ≤ 64) : ∀ x ∈ setP l s t, x.size = 64 := by
  intro x hx
  rcases List.mem_or_eq_of_mem_set hx with h | h
  · exact hl x h
  · subst h
    rw [size_mixB] <;> rw [secP_size hl hs]; exact ht
theorem length_settleP : ∀ (ps : List (Nat × ByteArray)) (l : List ByteArray), (settleP ps l).length = l.length
  | [], l => rfl
  | p :: ps, l => by
    show (settleP ps (setP l p.1 p.2)).length = _
    rw [length_settleP ps, length_setP]
theorem settleP_sz : ∀ (ps : List (Nat × ByteArray)) (l : List ByteArray), (∀ x ∈ l, x.size = 64) → (∀ p ∈ ps, p.1 < l.length ∧ p.2.size = 64) → ∀ x ∈ settleP ps l, x.size = 64
  | [], l, h, _ => h
  | p :: ps, l, h, hp => by
    refine settleP_sz ps (setP l p.1 p.2) (setP_sz h (hp p (.head _)).1 (by rw [(hp p (.head _)).2]; omega)) fun q hq => ?_
    rw [length_setP]
    exact hp q (.tail _ hq)
theorem settleP_append (ps qs : List (Nat × ByteArray)) (l : List ByteArray) : settleP (ps ++ qs) l = settleP qs (settleP ps l) := by simp [settleP, List.foldl_append]
theorem size_extract0 (t : ByteArray) {k : Nat} (hk : k ≤ t.size) : (t.extract 0 k).size = k := by
  rw [ByteArray.size_extract]; omega
theorem clampN_le (x : Int) (n : Nat) : clampN x n ≤ n := by unfold clampN; omega
theorem length_tornP (l : List ByteArray) (p : Option (Nat × ByteArray)) (k : Nat) : (tornP l p k).length = l.length := by
  unfold tornP
  split
  · split
    · exact length_setP _ _ _
    · rfl
  · rfl

theorem Inv.settled {S : St} (h : Inv S) : Inv S.settled :=
  ⟨settleP_sz _ _ h.sz h.qs, fun p hp => by simp [St.settled] at hp, by simpa [St.settled, length_settleP] using h.lo, by simpa [St.settled, length_settleP] using h.hi⟩
theorem Inv.fail {S : St} (h : Inv S) (w b : Int) : Inv (S.fail w b) := by
  unfold St.fail
  split
  · exact h
  · have hq : ∀ p ∈ S.q.take (clampN w S.q.length), p.1 < S.st.length ∧ p.2.size = 64 := fun p hp => h.qs p (List.mem_of_mem_take hp)
    have h1 := settleP_sz _ _ h.sz hq
    have hlen : (tornP (settleP (S.q.take (clampN w S.q.length)) S.st) S.q[clampN w S.q.length]? (clampN b 64)).length = S.st.length := by rw [length_tornP, length_settleP]
    refine ⟨?_, fun p hp => (by cases hp), ?_, ?_⟩
    · show ∀ x ∈ tornP _ _ _, _
      unfold tornP
      split
      · rename_i p hp
        have hp' := h.qs p (List.mem_of_getElem? hp)
        split
        · refine setP_sz h1 (by rw [length_settleP]; exact hp'.1) ?_
          have := clampN_le b 64
          rw [size_extract0 _ (by omega)]; exact this
        · exact h1
      · exact h1
    · show 0 < (tornP _ _ _).length
      rw [hlen]; exact h.lo
    · show (tornP _ _ _).length ≤ 8000
      rw [hlen]; exact h.hi
theorem Inv.count {S : St} (h : Inv S) : Inv S.count.1 := by
  unfold St.count
  split
  · exact h
  · exact h.fail _ _
  · exact ⟨h.sz, h.qs, h.lo, h.hi⟩
theorem Inv.push {S : St} (h : Inv S) {s : Nat} {t : ByteArray} (hs : s < S.st.length) (ht : t.size = 64) : Inv { S with q := S.q ++ [(s, t)] } :=
  ⟨h.sz, fun p hp => by
    rcases List.mem_append.1 hp with hp | hp
    · exact h.qs p hp
    · simp at hp; subst hp; exact ⟨hs, ht⟩, h.lo, h.hi⟩
theorem at0 {S : St} {s : Int} (h : S.at_ s = 0) : S.off = false ∧ 0 ≤ s ∧ s < S.st.length := by
  unfold St.at_ at h
  split at h
  · omega
  · split at h
    · rename_i h1 h2; exact ⟨by simpa using h1, h2⟩
    · omega
theorem Inv.write {S : St} (h : Inv S) (s : Int) (t : ByteArray) : Inv (S.write s t).1 := by
  unfold St.write
  split
  · rename_i h0
    split
    · rename_i h1
      have := at0 h0
      exact (h.push (by omega) h1).count
    · exact h
  · exact h
theorem Inv.sync {S : St} (h : Inv S) : Inv S.sync.1 := by
  unfold St.sync
  split
  · exact h
  · split
    · exact h.count.settled
    · exact h.count
theorem Inv.arm {S : St} (h : Inv S) (a w b : Int) : Inv (S.arm a w b) := by
  unfold St.arm
  split
  · exact h
  · exact ⟨h.sz, h.qs, h.lo, h.hi⟩
theorem Inv.start {S : St} (h : Inv S) : Inv S.start := ⟨h.sz, h.qs, h.lo, h.hi⟩
theorem Inv.rot {S : St} (h : Inv S) (s i m : Int) : Inv (S.rot s i m) := by
  unfold St.rot
  split
  · rename_i hc
    refine ⟨fun x hx => ?_, fun p hp => by simpa using h.qs p hp, by simpa using h.lo, by simpa using h.hi⟩
    rcases List.mem_or_eq_of_mem_set hx with h1 | h1
    · exact h.sz x h1
    · subst h1
      rw [size_rotB, secP_size h.sz (by omega)]
  · exact h
theorem Inv.new {n : Nat} (h : 0 < n) (h2 : n ≤ 8000) : Inv (St.new n) :=
  ⟨fun x hx => by simp [St.new] at hx; rw [hx.2]; rfl, fun p hp => (by cases hp), by simpa [St.new] using h, by simpa [St.new] using h2⟩
theorem joinB_size : ∀ (l : List ByteArray), (∀ x ∈ l, x.size = 64) → (joinB l).size = l.length * 64 := by
  intro l h
  have : (l.flatMap fun s => s.data.toList).length = l.length * 64 := by
    induction l with
    | nil => rfl
    | cons x l ih =>
      rw [List.flatMap_cons, List.length_append, ih fun y hy => h y (.tail _ hy)]
      have h1 : x.data.toList.length = 64 := by have := h x (.head _); simpa using this
      rw [h1, List.length_cons]; omega
  unfold joinB
  rw [size_mk, this]

/-! ### Cells -/
def flatC (l : List ByteArray) : List Value := l.flatMap byteCells
theorem len_byteCells {s : ByteArray} (h : s.size = 64) : (byteCells s).length = 64 := by rw [byteCells_length, h]
theorem len_flatC {l : List ByteArray} (h : ∀ x ∈ l, x.size = 64) : (flatC l).length = l.length * 64 := by
  induction l with
  | nil => rfl
  | cons x l ih =>
    have h1 := ih fun y hy => h y (.tail _ hy)
    unfold flatC at h1 ⊢
    rw [List.flatMap_cons, List.length_append, h1, len_byteCells (h x (.head _)), List.length_cons]; omega
theorem byteCells_mix {t o : ByteArray} : byteCells (mixB t o) = byteCells t ++ (byteCells o).drop t.size := by
  simp [byteCells, mixB, List.map_drop]
/-- Some bytes of a sector replaced, in the whole. -/
theorem flatC_set : ∀ (l : List ByteArray) (s : Nat) (x : ByteArray), (∀ x ∈ l, x.size = 64) → s < l.length → x.size = 64 → flatC (l.set s x) = (flatC l).take (s * 64) ++ byteCells x ++ (flatC l).drop (s * 64 + 64)
  | [], s, x, _, hs, _ => by simp at hs
  | y :: l, 0, x, h, hs, hx => by
    have hy := len_byteCells (h y (.head _))
    simp only [List.set_cons_zero, flatC, List.flatMap_cons, Nat.zero_mul, List.take_zero, List.nil_append, Nat.zero_add]
    rw [List.drop_append, List.drop_eq_nil_of_le (by omega), hy]
    simp
  | y :: l, s + 1, x, h, hs, hx => by
    have hy := len_byteCells (h y (.head _))
    have ih := flatC_set l s x (fun z hz => h z (.tail _ hz)) (by simpa using hs) hx
    unfold flatC at ih ⊢
    simp only [List.set_cons_succ, List.flatMap_cons, ih]
    generalize l.flatMap byteCells = F
    generalize byteCells y = Y at hy
    have h1 : (Y ++ F).take ((s + 1) * 64) = Y ++ F.take (s * 64) := by
      rw [List.take_append, List.take_of_length_le (by omega), hy, show (s + 1) * 64 - 64 = s * 64 by omega]
    have h2 : (Y ++ F).drop ((s + 1) * 64 + 64) = F.drop (s * 64 + 64) := by
      rw [List.drop_append, List.drop_eq_nil_of_le (by omega), hy, show (s + 1) * 64 + 64 - 64 = s * 64 + 64 by omega, List.nil_append]
    rw [h1, h2]
    simp
theorem flatC_sec {l : List ByteArray} (h : ∀ x ∈ l, x.size = 64) {s : Nat} (hs : s < l.length) : ∀ j v, (byteCells (secP l s))[j]? = some v → (flatC l)[s * 64 + j]? = some v := by
  intro j v hj
  unfold secP at hj
  rw [List.getElem?_eq_getElem hs] at hj
  exact flatMap_get (f := byteCells) (sz := 64) l (fun x hx => len_byteCells (h x hx)) s _ (List.getElem?_eq_getElem hs) j v hj
theorem flatC_drop {l : List ByteArray} (h : ∀ x ∈ l, x.size = 64) {s : Nat} (hs : s < l.length) {k : Nat} (hk : k ≤ 64) : (flatC l).drop (s * 64 + k) = (byteCells (secP l s)).drop k ++ (flatC l).drop (s * 64 + 64) := by
  have h1 := flatC_set l s (secP l s) h hs (secP_size h hs)
  have h2 : l.set s (secP l s) = l := by
    unfold secP
    rw [List.getElem?_eq_getElem hs]
    exact List.set_getElem_self hs
  rw [h2] at h1
  have h3 : (flatC l).length = l.length * 64 := len_flatC h
  have h4 : ((flatC l).take (s * 64)).length = s * 64 := by rw [List.length_take, h3]; omega
  conv => lhs; rw [h1]
  rw [List.append_assoc, List.drop_append, h4, List.drop_eq_nil_of_le (by omega), show s * 64 + k - s * 64 = k by omega, List.nil_append, List.drop_append, len_byteCells (secP_size h hs), show k - 64 = 0 by omega, List.drop_zero]
theorem flatC_setP {l : List ByteArray} (h : ∀ x ∈ l, x.size = 64) {s : Nat} {t : ByteArray} (hs : s < l.length) (ht : t.size ≤ 64) :
    flatC (setP l s t) = (flatC l).take (s * 64) ++ byteCells t ++ (flatC l).drop (s * 64 + t.size) := by
  unfold setP
  rw [flatC_set l s _ h hs (by rw [size_mixB] <;> rw [secP_size h hs]; exact ht), byteCells_mix, flatC_drop h hs ht]
  simp
theorem bytes_of_join (l : List ByteArray) : byteCells (joinB l) = flatC l := by
  unfold joinB flatC byteCells
  simp [List.map_flatMap]
theorem flatC_zero (n : Nat) : flatC (List.replicate n zeroB) = List.replicate (n * 64) (.int .u8 0) := by
  have h0 : byteCells zeroB = List.replicate 64 (.int .u8 0) := rfl
  induction n with
  | zero => rfl
  | succ n ih =>
    rw [List.replicate_succ]
    unfold flatC at ih ⊢
    rw [List.flatMap_cons, ih, h0, List.replicate_append_replicate]
    congr 1; omega

/-! ### Where it lies -/
structure Rep where
  s : Nat
  q : Option (Nat × Nat × List Value)
  a : Nat
def pcells (p : Nat × ByteArray) : Array Value := #[.int .i64 ((p.1 : Int) * 64), .int .i64 (((p.1 : Int) + 1) * 64), .string p.2]
def qflat (l : List (Nat × ByteArray)) : List Value := l.flatMap fun p => (pcells p).toList
def qval (D : Rep) (n : Nat) : Value := match D.q with | none => .slice none 0 0 | some (g, c, _) => .slice (some ⟨g, 0, none⟩) n c
def qH (D : Rep) (l : List (Nat × ByteArray)) : Heap := match D.q with | none => [] | some (g, _, t) => [(g, .cells (qflat l ++ t).toArray 70 (0, 0))]
def aval (D : Rep) (ar : Option (Nat × Int × Int)) : Value := match ar with | none => .pointer none | some _ => .pointer (some ⟨D.a, 0, none⟩)
def aH (D : Rep) (ar : Option (Nat × Int × Int)) : Heap := match ar with | none => [] | some (n, w, b) => [(D.a, .cells #[.int .i64 n, .int .i64 w, .int .i64 b] 76 (0, 0))]
def dcells (D : Rep) (S : St) : Array Value := #[.slice (some ⟨D.s, 0, none⟩) (S.st.length * 64) (S.st.length * 64), qval D S.q.length, .bool S.off, aval D S.ar]
def DH (g : Nat) (D : Rep) (S : St) : Heap := (g, .cells (dcells D S) 60 (0, 0)) :: (D.s, .cells (flatC S.st).toArray 5 (0, 0)) :: (qH D S.q ++ aH D S.ar)
structure Rep.ok (D : Rep) (S : St) (b : Nat) : Prop where
  inv : Inv S
  s : b ≤ D.s
  qn : D.q = none → S.q = []
  qs : ∀ g c t, D.q = some (g, c, t) → b ≤ g ∧ S.q.length ≤ c ∧ (qflat S.q ++ t).length = c * 3
  a : S.ar ≠ none → b ≤ D.a
  ql : S.q.length ≤ 1073741824
  af : ∀ n w b, S.ar = some (n, w, b) → n < 9223372036854775808
/-- What a call with a disk hands back. -/
abbrev RetD (Be : Nat) (w0 : World) (g : Nat) (R : Heap) (v : Value) (S : St) : Ending → World → Prop := RetX (X := Rep) Be w0 (fun _ => v) (fun D => DH g D S ++ R) (fun D => D.ok S w0.heap.size)
/-- What is seen of a disk in a world. -/
structure DB (w : World) (g : Nat) (D : Rep) (S : St) : Prop where
  d : w.heap[g]? = some (.cells (dcells D S) 60 (0, 0))
  s : w.heap[D.s]? = some (.cells (flatC S.st).toArray 5 (0, 0))
  q : ∀ h c t, D.q = some (h, c, t) → w.heap[h]? = some (.cells (qflat S.q ++ t).toArray 70 (0, 0))
theorem DB.of {Be : Nat} {w0 w : World} {g : Nat} {D : Rep} {S : St} {R : Heap} (h : Hp Be w0 (DH g D S ++ R) w) : DB w g D S :=
  ⟨h.own (g, _) (by simp [DH]), h.own (D.s, _) (by simp [DH]), fun k c t hq => h.own (k, _) (by simp [DH, qH, hq])⟩
theorem DB.ofS {Be : Nat} {w0 w : World} {g : Nat} {D : Rep} {S : St} {H R : Heap} (hs : Split H (DH g D S) R) (h : Hp Be w0 H w) : DB w g D S := DB.of (h.perm hs)
theorem bk_d {Be : Nat} {w0 : World} {g : Nat} {D : Rep} {S : St} {H R : Heap} (hs : Split H (DH g D S) R) : Bk Be w0 H g (.cells (dcells D S) 60 (0, 0)) := fun _ h => (DB.ofS hs h).d
theorem bk_s {Be : Nat} {w0 : World} {g : Nat} {D : Rep} {S : St} {H R : Heap} (hs : Split H (DH g D S) R) : Bk Be w0 H D.s (.cells (flatC S.st).toArray 5 (0, 0)) := fun _ h => (DB.ofS hs h).s
theorem bk_q {Be : Nat} {w0 : World} {g : Nat} {D : Rep} {S : St} {H R : Heap} {h c : Nat} {t : List Value} (hq : D.q = some (h, c, t)) (hs : Split H (DH g D S) R) : Bk Be w0 H h (.cells (qflat S.q ++ t).toArray 70 (0, 0)) := fun _ hh => (DB.ofS hs hh).q _ _ _ hq
theorem DB.below {w w' : World} {g : Nat} {D : Rep} {S : St} (h : DB w g D S) (hb : Below w.heap.size w w') : DB w' g D S :=
  ⟨old_block h.d hb, old_block h.s hb, fun k c t hq => old_block (h.q k c t hq) hb⟩
theorem DB.hp {Be : Nat} {w0 w : World} {H : Heap} {g : Nat} {D : Rep} {S : St} (h : DB w0 g D S) (hBe : Be = w0.heap.size) (hh : Hp Be w0 H w) : DB w g D S := h.below (by subst hBe; exact hh.belowBe)
theorem size_pcells (p : Nat × ByteArray) : (pcells p).size = 3 := rfl
theorem len_qflat (l : List (Nat × ByteArray)) : (qflat l).length = l.length * 3 := flat_len (sz := 3) (C := pcells) fun x _ => rfl
theorem lastQ_none {q : List (Nat × ByteArray)} {i : Nat} (h : ∀ p ∈ q, p.1 ≠ i) : lastQ q i = none := by
  unfold lastQ
  have : (q.reverse.find? fun p => decide (p.1 = i)) = none := by
    rw [List.find?_eq_none]
    intro p hp
    simpa using h p (by simpa using hp)
  rw [this]; rfl
theorem lastQ_hit {q : List (Nat × ByteArray)} {i k : Nat} {p : Nat × ByteArray} (hp : q[k]? = some p) (hi : p.1 = i) (h : ∀ p ∈ q.drop (k + 1), p.1 ≠ i) : lastQ q i = some p.2 := by
  have hq := take_split hp
  have hn := lastQ_none h
  unfold lastQ at hn ⊢
  rw [hq, List.reverse_append, List.find?_append, List.reverse_cons, List.find?_append]
  have h1 : ((q.drop (k + 1)).reverse.find? fun p => decide (p.1 = i)) = none := by
    cases hc : (q.drop (k + 1)).reverse.find? fun p => decide (p.1 = i) with
    | none => rfl
    | some x => rw [hc] at hn; cases hn
  rw [h1]
  simp [hi]
theorem drop_step {q : List (Nat × ByteArray)} {i k : Nat} {p : Nat × ByteArray} (hp : q[k]? = some p) (hi : p.1 ≠ i) (h : ∀ p ∈ q.drop (k + 1), p.1 ≠ i) : ∀ p ∈ q.drop k, p.1 ≠ i := by
  obtain ⟨hk, hp'⟩ := List.getElem?_eq_some_iff.1 hp
  rw [← List.getElem_cons_drop hk]
  intro x hx
  cases hx with
  | head => rw [hp']; exact hi
  | tail _ hx => exact h x hx
theorem byteCells_rot {t : ByteArray} {i m : Nat} {x : UInt8} (hx : t.data.toList[i]? = some x) (hm : m < 256) : byteCells (rotB t i m) = (byteCells t).set i (.int .u8 ((x.toNat ^^^ m : Nat) : Int)) := by
  unfold byteCells rotB
  simp only [List.map_set, hx, Option.getD_some]
  congr 2
  have h1 : x.toNat ^^^ m < 256 := Nat.xor_lt_two_pow (n := 8) (by have := x.toNat_lt; omega) hm
  simp [Nat.mod_eq_of_lt h1, Nat.mod_eq_of_lt hm]
theorem flatC_rot {l : List ByteArray} (h : ∀ x ∈ l, x.size = 64) {s i m : Nat} {x : UInt8} (hs : s < l.length) (hi : i < 64) (hx : (secP l s).data.toList[i]? = some x) (hm : m < 256) :
    flatC (l.set s (rotB (secP l s) i m)) = (flatC l).set (s * 64 + i) (.int .u8 ((x.toNat ^^^ m : Nat) : Int)) := by
  have hsz := secP_size h hs
  have h0 := flatC_set l s (secP l s) h hs hsz
  have h2 : l.set s (secP l s) = l := by
    unfold secP
    rw [List.getElem?_eq_getElem hs]
    exact List.set_getElem_self hs
  rw [h2] at h0
  have h3 : (flatC l).length = l.length * 64 := len_flatC h
  have h4 : ((flatC l).take (s * 64)).length = s * 64 := by rw [List.length_take, h3]; omega
  have h5 := len_byteCells hsz
  rw [flatC_set l s _ h hs (by rw [size_rotB]; exact hsz), byteCells_rot hx hm]
  conv => rhs; rw [h0]
  rw [List.append_assoc, List.append_assoc, List.set_append_right _ _ (by omega), h4, show s * 64 + i - s * 64 = i by omega, List.set_append_left _ _ (by omega)]
theorem cell_byte {l : List ByteArray} (h : ∀ x ∈ l, x.size = 64) {s i : Nat} (hs : s < l.length) (hi : i < 64) : ∃ x, (secP l s).data.toList[i]? = some x ∧ (flatC l)[s * 64 + i]? = some (.int .u8 (x.toNat : Int)) := by
  have hsz := secP_size h hs
  have hl : i < (secP l s).data.toList.length := by have : (secP l s).data.toList.length = (secP l s).size := by simp
                                                    omega
  refine ⟨_, List.getElem?_eq_getElem hl, flatC_sec h hs i _ ?_⟩
  simp only [byteCells, List.getElem?_map, List.getElem?_eq_getElem hl, Option.map_some]
theorem Rep.ok.mono {D : Rep} {S : St} {b b' : Nat} {g : Nat} (h : D.ok S b) (hf : ∀ p ∈ DH g D S, b' ≤ p.1) : D.ok S b' ∧ b' ≤ g := by
  unfold DH at hf
  simp only [List.mem_cons, List.mem_append] at hf
  refine ⟨⟨h.inv, hf (D.s, _) (.inr (.inl rfl)), h.qn, fun g' c t hg => ⟨?_, (h.qs g' c t hg).2⟩, fun ha => ?_, h.ql, h.af⟩, hf (g, _) (.inl rfl)⟩
  · exact hf (g', _) (.inr (.inr (.inl (by unfold qH; rw [hg]; exact List.mem_singleton.2 rfl))))
  · cases har : S.ar with
    | none => exact (ha har).elim
    | some x =>
      obtain ⟨n, w, b⟩ := x
      exact hf (D.a, _) (.inr (.inr (.inr (by unfold aH; rw [har]; exact List.mem_singleton.2 rfl))))
section
variable {P : Program} {N Be : Nat} {Q : Post} {e : Env} {w0 : World} {H : Heap} {ops : Array Oper} {rest : List Oper} {ty : TypeId} {pos : String} {after : Array Edge} {d : Nat}
/-- A call that only reads a disk. -/
theorem spl_callDB {f : FuncId} {xs : List Operand} {ts : Array TypeId} {vs : List Value} {v : Value} {g : Nat} {D : Rep} {S : St} {R : Heap} [TFn P f] (hN : Nat.blt d N = true) (hx : Evs true e xs vs) (hs : Split H (DH g D S) R) (hc : ∀ w, DB w g D S → Calls P f vs.toArray w (Ret w v))
    (k : Spl P N Be ops Q rest ((d, true, v) :: e) w0 H) : Spl P N Be ops Q (⟨some d, .call ⟨.value (.func f), xs.toArray, ts⟩, ty, pos, after, none⟩ :: rest) e w0 H :=
  spl_callp hN hx (fun w hh => hc w (DB.ofS hs hh)) k
theorem spl_callDBH {f : FuncId} {xs : List Operand} {ts : Array TypeId} {vs : List Value} {X : Type} {V : X → Value} {HH : X → Heap} {I : X → Prop} {g : Nat} {D : Rep} {S : St} {R : Heap} [TFn P f] (hN : Nat.blt d N = true) (hx : Evs true e xs vs) (hs : Split H (DH g D S) R)
    (hc : ∀ w, DB w g D S → Calls P f vs.toArray w (RetH w V HH I))
    (k : ∀ x, I x → (∀ p ∈ HH x, w0.heap.size ≤ p.1) → Spl P N Be ops Q rest ((d, true, V x) :: e) w0 (HH x ++ H)) : Spl P N Be ops Q (⟨some d, .call ⟨.value (.func f), xs.toArray, ts⟩, ty, pos, after, none⟩ :: rest) e w0 H :=
  spl_callh hN hx (fun w hh => hc w (DB.ofS hs hh)) k
end
end Go.Proofs.Ytmlodiiijicghaa
