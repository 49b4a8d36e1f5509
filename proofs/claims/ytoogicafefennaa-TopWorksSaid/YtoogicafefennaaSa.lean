/-
  append: onto a new row where there is no room, in place where there is room in an own block.
-/
import Derived.Test.YtoogicafefennaaSd
import Derived.Deep.AppendSrc
import Derived.Laws.IdiomCopy
import Derived.Laws.Append
namespace Go.Sy
open Go.RowKit
set_option linter.unusedVariables false
set_option linter.unusedSimpArgs false

/-- The cells that lie behind an address. -/
def CellsAt (w : World) (A : Option Addr) (xs : List Value) : Prop := ∀ (j : Nat) (u : Value), xs[j]? = some u → ∃ a, A = some a ∧ w.cell? (a.add j) = some u
theorem CellsAt.nil {w : World} {A : Option Addr} : CellsAt w A [] := fun j u h => by simp at h
theorem CellsAt.own {w : World} {g : Nat} {cs : Array Value} {T : TypeId} {xs : List Value} (h : w.heap[g]? = some (.cells cs T (0, 0))) (hp : ∀ (j : Nat) (u : Value), xs[j]? = some u → cs[j]? = some u) : CellsAt w (some ⟨g, 0, none⟩) xs :=
  fun j u hj => ⟨_, rfl, by rw [show (⟨g, 0, none⟩ : Addr).add j = ⟨g, j, none⟩ by simp [addr_add]]; simp [World.cell?, h, hp j u hj]⟩
theorem add_add' (a : Addr) (i j : Nat) : (a.add i).add j = a.add (i + j) := by
  unfold Addr.add
  by_cases hi : i = 0 <;> by_cases hj : j = 0 <;> simp [hi, hj, Nat.add_assoc]
theorem CellsAt.rd {α : Type} {w : World} {Be sz : Nat} {C : α → Array Value} {A : Option Addr} {n : Nat} {xs : List α} (h : RdS w Be sz C A n xs) : CellsAt w A (xs.flatMap fun x => (C x).toList) := by
  intro j u hj
  have hall : ∀ x ∈ xs, (C x).size = sz := fun x hx => by
    obtain ⟨i, hi⟩ := List.getElem?_of_mem hx
    obtain ⟨_, _, _, hs, _⟩ := h.elems i x hi
    exact hs
  have key : ∀ (ys : List α) (j : Nat), (∀ x ∈ ys, (C x).size = sz) → (ys.flatMap fun x => (C x).toList)[j]? = some u → ∃ (i k : Nat) (x : α), ys[i]? = some x ∧ (C x)[k]? = some u ∧ j = i * sz + k := by
    intro ys
    induction ys with
    | nil => intro j _ h; simp at h
    | cons y ys ih =>
      intro j hs hj
      simp only [List.flatMap_cons] at hj
      by_cases hlt : j < (C y).toList.length
      · rw [List.getElem?_append_left hlt] at hj
        exact ⟨0, j, y, rfl, by simpa using hj, by omega⟩
      · rw [List.getElem?_append_right (by omega)] at hj
        obtain ⟨i, k, x, h1, h2, h3⟩ := ih _ (fun x hx => hs x (.tail _ hx)) hj
        have := hs y (.head _)
        refine ⟨i + 1, k, x, by simpa using h1, h2, ?_⟩
        simp at hlt h3
        rw [Nat.succ_mul]; omega
  obtain ⟨i, k, x, h1, h2, rfl⟩ := key xs j hall hj
  obtain ⟨a, ha, _, _, hc⟩ := h.elems i x h1
  refine ⟨a, ha, ?_⟩
  have := hc k u h2
  rwa [show (a.add (i * sz)).add k = a.add (i * sz + k) from add_add' _ _ _] at this

/-- What an append takes. -/
def SrcAt (P : Program) (size : Nat) (tx : TypeId) (x : Value) (m : Nat) (news : List Value) (w : World) : Prop := Src P size tx x m news w
theorem SrcAt.slice {P : Program} {size : Nat} {tx e' : TypeId} {B : Option Addr} {m c : Nat} {news : List Value} {w : World} [ht : TSlice P tx e'] (hc : CellsAt w B news) (hl : news.length = m * size) (hp : Nat.blt 0 size = true) (h1 : ∀ u ∈ news, u.oneCell' = true) : SrcAt P size tx (.slice B m c) m news w := by
  have hp' : 0 < size := by simpa [Nat.blt_eq] using hp
  cases B with
  | none =>
    have : news = [] := by
      cases news with
      | nil => rfl
      | cons u r => obtain ⟨a, h, _⟩ := hc 0 u rfl; cases h
    subst this
    have : m = 0 := by
      cases m with
      | zero => rfl
      | succ m => rw [Nat.succ_mul] at hl; simp at hl; omega
    subst this
    exact Src.ofNil w ht.slice c
  | some a =>
    exact Src.ofSlice w ht.slice a m c news hl (fun j u hj => by obtain ⟨b, hb, hcell⟩ := hc j u hj; cases hb; exact hcell) h1
theorem SrcAt.string {P : Program} {tx : TypeId} {s : ByteArray} {w : World} [ht : TStr P tx] : SrcAt P 1 tx (.string s) s.size (byteCells s) w := Src.ofString w ht.str s

def setL (cs : Array Value) : Nat → List Value → Array Value
  | _, [] => cs
  | o, v :: r => setL (cs.setIfInBounds o v) (o + 1) r
theorem setL_size (vs : List Value) : ∀ (cs : Array Value) (o : Nat), (setL cs o vs).size = cs.size := by
  induction vs with
  | nil => intro cs o; rfl
  | cons v r ih => intro cs o; rw [setL, ih]; simp
theorem setL_toList (vs : List Value) : ∀ (cs : Array Value) (o : Nat), o + vs.length ≤ cs.size → (setL cs o vs).toList = cs.toList.take o ++ vs ++ cs.toList.drop (o + vs.length) := by
  induction vs with
  | nil => intro cs o _; simp [setL]
  | cons v r ih =>
    intro cs o h
    simp only [List.length_cons] at h
    rw [setL, ih _ _ (by simp; omega)]
    simp only [Array.toList_setIfInBounds]
    rw [List.take_set, List.drop_set]
    rw [if_pos (by omega)]
    rw [show o + (v :: r).length = o + 1 + r.length by simp; omega]
    have : (List.take (o + 1) cs.toList).set o v = cs.toList.take o ++ [v] := by
      rw [List.take_add_one, List.getElem?_eq_getElem (by simp; omega)]
      simp only [Option.toList]
      rw [List.set_append_right _ _ (by simp; omega)]
      simp only [List.length_take, Array.length_toList]
      rw [show o - min o cs.size = 0 by omega]
      rfl
    rw [this]
    simp
theorem Hp.setCells {Be : Nat} {w0 : World} {g : Nat} {T : TypeId} : ∀ (vs : List Value) (o : Nat) (cs : Array Value) (w : World) (H H' : Heap), Hp Be w0 H w → Upd H g (.cells cs T (0, 0)) (.cells (setL cs o vs) T (0, 0)) H' → Hp Be w0 H' (w.setCells g o vs)
  | [], o, cs, w, H, H', h, hu => by
    obtain ⟨a, b, rfl, rfl⟩ := hu
    exact h
  | v :: r, o, cs, w, H, H', h, hu => by
    obtain ⟨a, b, rfl, rfl⟩ := hu
    exact Hp.setCells r (o + 1) (cs.setIfInBounds o v) _ (a ++ (g, .cells (cs.setIfInBounds o v) T (0, 0)) :: b) _ (h.setCell ⟨a, b, rfl, rfl⟩) ⟨a, b, rfl, rfl⟩

section
variable {P : Program} {N Be : Nat} {Q : Post} {e : Env} {w0 : World} {H : Heap} {ops : Array Oper} {rest : List Oper} {ty : TypeId} {pos : String} {after : Array Edge} {d : Nat}

theorem fits_of {need old bytes : Nat} (h : old < need) (hb : need * bytes ≤ 140737488355328) : Builtin.nextslicecap need old * bytes ≤ 281474976710656 := growslice_fits h hb

/-- No room: a new row. -/
theorem spl_append_grow {t tx el size bytes : Nat} {z : Value} {x y : Operand} {A : Option Addr} {n cap m : Nat} {yv : Value} {olds news : List Value} [ht : TSlice P t el] [hz : TZero P el z] [hs : TSize P el size] [hby : TBytes P el bytes]
    (hx : Ev true e x (.slice A n cap)) (hy : Ev true e y yv) (ho : ∀ w, Hp Be w0 H w → CellsAt w A olds) (hol : olds.length = n * size) (hn : ∀ w, Hp Be w0 H w → SrcAt P size tx yv m news w)
    (hg : cap < n + m) (hb : (n + m) * bytes ≤ 140737488355328) (hpos : Nat.blt 0 bytes = true) (hp2 : Nat.blt 0 size = true) (hzs : Nat.beq z.cells.size size = true) (hN : Nat.blt d N = true)
    (k : ∀ g cap' tail, w0.heap.size ≤ g → n + m ≤ cap' → (olds ++ news ++ tail).length = cap' * size → Spl P N Be ops Q rest ((d, true, .slice (some ⟨g, 0, none⟩) (n + m) cap') :: e) w0 ((g, .cells (olds ++ news ++ tail).toArray el (0, 0)) :: H)) :
    Spl P N Be ops Q (⟨some d, .call ⟨.builtin .append, #[x, y], #[t, tx]⟩, ty, pos, after, none⟩ :: rest) e w0 H := by
  intro a w hf hh
  have hd : d < N := by simpa [Nat.blt_eq] using hN
  have hpos' : 0 < bytes := by simpa [Nat.blt_eq] using hpos
  have hp2' : 0 < size := by simpa [Nat.blt_eq] using hp2
  refine wpList_plain rfl fun K hK => ?_
  obtain ⟨i, hi⟩ : ∃ i, P.info? el = some i := by
    have := hs.size
    cases h : P.info? el with
    | none => rw [h] at this; cases this
    | some i => exact ⟨i, rfl⟩
  have hiz : i.zero = some z := by have := hz.zero; rw [hi] at this; exact this
  have his : i.size = size := by have := hs.size; rw [hi] at this; simpa using this
  have hib : i.bytes = bytes := by have := hby.bytes; rw [hi] at this; simpa using this
  have hle : n + m ≤ (n + m) * bytes := Nat.le_mul_of_pos_right _ hpos'
  have hold : (Builtin.firstCells i.size n (.slice A n cap)).run P w.drew = .ok olds.toArray w.drew := by
    rw [his]
    have hc := ho w hh
    cases A with
    | none =>
      have : olds = [] := by
        cases olds with
        | nil => rfl
        | cons u r => obtain ⟨a, h, _⟩ := hc 0 u rfl; cases h
      subst this
      have : n = 0 := by
        cases n with
        | zero => rfl
        | succ n => rw [Nat.succ_mul] at hol; simp at hol; omega
      subst this
      exact run_firstCells_none w.drew size 0 0 cap
    | some b => exact run_firstCells_some w.drew size n b n cap olds hol (fun j u hj => by obtain ⟨b', hb', hcell⟩ := hc j u hj; cases hb'; simpa using hcell)
  have hr := run_append_grow_src (P := P) w t tx ty el i z ht.slice hi hiz A n cap olds hold yv m news (by rw [his]; exact hn w hh) hg (by omega) (by rw [hib]; exact fits_of hg hb)
  have hcs : (olds ++ news).toArray ++ Builtin.zeroCells z.cells (grownCap w (n + m) cap el - (n + m)) = (olds ++ news ++ (Builtin.zeroCells z.cells (grownCap w (n + m) cap el - (n + m))).toList).toArray := by
    apply Array.ext'; simp
  rw [hcs] at hr
  unfold Oper.wp
  simp only [execOp, resolve, invoke, builtin, hx N a hf rfl, hy N a hf rfl, hr, Sem.run_bind, Sem.run_pure, Result.andThen_ok, List.map_toArray, List.map_cons, List.map_nil]
  have hge := grownCap_ge w (n + m) cap el
  have hzs' : z.cells.size = size := by simpa using hzs
  have hsum : (olds ++ news ++ (Builtin.zeroCells z.cells (grownCap w (n + m) cap el - (n + m))).toList).length = grownCap w (n + m) cap el * size := by
    simp only [List.length_append, Array.length_toList, size_zeroCells, hzs', hol, (hn w hh).newsLen, ← Nat.add_mul]
    congr 1
    omega
  exact hK _ _ (k _ _ _ hh.size hge hsum _ _ (hf.puttrue hd) (hh.drew.alloc _))

/-- Room in an own block. -/
theorem spl_append_room {t tx el size : Nat} {x y : Operand} {g off n cap m : Nat} {yv : Value} {news : List Value} {cs : Array Value} {T : TypeId} {H' : Heap} [ht : TSlice P t el] [hs : TSize P el size]
    (hx : Ev true e x (.slice (some ⟨g, off, none⟩) n cap)) (hy : Ev true e y yv) (hn : ∀ w, Hp Be w0 H w → SrcAt P size tx yv m news w) (hr : n + m ≤ cap) (hu : Upd H g (.cells cs T (0, 0)) (.cells (setL cs (off + n * size) news) T (0, 0)) H')
    (hfit : off + (n + m) * size ≤ cs.size) (hN : Nat.blt d N = true) (k : Spl P N Be ops Q rest ((d, true, .slice (some ⟨g, off, none⟩) (n + m) cap) :: e) w0 H') :
    Spl P N Be ops Q (⟨some d, .call ⟨.builtin .append, #[x, y], #[t, tx]⟩, ty, pos, after, none⟩ :: rest) e w0 H := by
  intro a w hf hh
  have hd : d < N := by simpa [Nat.blt_eq] using hN
  refine wpList_plain rfl fun K hK => ?_
  obtain ⟨i, hi⟩ : ∃ i, P.info? el = some i := by
    have := hs.size
    cases h : P.info? el with
    | none => rw [h] at this; cases this
    | some i => exact ⟨i, rfl⟩
  have his : i.size = size := by have := hs.size; rw [hi] at this; simpa using this
  have hg : w.heap[g]? = some (.cells cs T (0, 0)) := hh.own _ hu.mem
  have hnl : news.length = m * size := (hn w hh).newsLen
  have hfit' : off + n * size + news.length ≤ cs.size := by rw [hnl]; rw [Nat.add_mul] at hfit; omega
  have hr := run_append_room_src (P := P) w t tx ty el i ht.slice hi g off n cap yv m news (by rw [his]; exact hn w hh) hr
    (fun j hj => by rw [his]; simp only [World.cell?, hg]; simp; omega) (fun j hj => by simp [World.frozen?, hg])
  rw [his] at hr
  unfold Oper.wp
  simp only [execOp, resolve, invoke, builtin, hx N a hf rfl, hy N a hf rfl, hr, Sem.run_bind, Sem.run_pure, Result.andThen_ok, List.map_toArray, List.map_cons, List.map_nil]
  exact hK _ _ (k _ _ (hf.puttrue hd) (Hp.setCells news _ cs w H H' hh hu))
end

/-- A row that grows: nil, or an own block with room behind what is in it. -/
structure RowS where
  g : Option Nat
  cap : Nat
  tail : List Value
def RowS.val (r : RowS) (n : Nat) : Value := .slice (r.g.map fun g => ⟨g, 0, none⟩) n r.cap
def RowS.hp (r : RowS) (xs : List Value) (T : TypeId) : Heap := match r.g with | none => [] | some g => [(g, .cells (xs ++ r.tail).toArray T (0, 0))]
def RowS.ok (r : RowS) (size n : Nat) (xs : List Value) : Prop := match r.g with | none => n = 0 ∧ r.cap = 0 ∧ xs = [] | some _ => n ≤ r.cap ∧ (xs ++ r.tail).length = r.cap * size ∧ xs.length = n * size
def RowS.start : RowS := ⟨none, 0, []⟩
theorem setL_tail {xs news tail : List Value} (h : news.length ≤ tail.length) : setL (xs ++ tail).toArray xs.length news = (xs ++ news ++ tail.drop news.length).toArray := by
  apply Array.ext'
  rw [setL_toList _ _ _ (by simp; omega)]
  simp [List.drop_append]
theorem RdS.ofRow {α : Type} {w : World} {Be sz : Nat} {C : α → Array Value} {n : Nat} {xs : List α} {g : Nat} {tail : List Value} {T : TypeId} {f : Nat × Nat} (hg : w.heap[g]? = some (.cells ((xs.flatMap fun x => (C x).toList) ++ tail).toArray T f)) (hB : g < Be) (hl : xs.length = n) (hn : n ≤ 9223372036854775807) (hs : ∀ x ∈ xs, (C x).size = sz) :
    RdS w Be sz C (some ⟨g, 0, none⟩) n xs :=
  RdS.ofBlock hg hB hl hn hs fun i x hx j v hj => by
    have := flatMap_get (f := fun x => (C x).toList) (sz := sz) xs (fun x hx => by simpa using hs x hx) i x hx j v (by simpa using hj)
    simp only [List.getElem?_toArray]
    rw [List.getElem?_append_left (List.getElem?_eq_some_iff.1 this).1]
    exact this
theorem flat_len {α : Type} {sz : Nat} {C : α → Array Value} {xs : List α} (hs : ∀ x ∈ xs, (C x).size = sz) : (xs.flatMap fun x => (C x).toList).length = xs.length * sz := by
  induction xs with
  | nil => simp
  | cons x xs ih =>
    rw [List.flatMap_cons, List.length_append, ih (fun y hy => hs y (.tail _ hy))]
    have := hs x (.head _)
    simp only [List.length_cons, Array.length_toList, this, Nat.succ_mul]
    omega

/-- One own block taken out of the list. -/
def Rem (H : Heap) (g : Nat) (o : Obj) (H' : Heap) : Prop := ∃ a b, H = a ++ (g, o) :: b ∧ H' = a ++ b
theorem Rem.here {H : Heap} {g : Nat} {o : Obj} : Rem ((g, o) :: H) g o H := ⟨[], H, rfl, rfl⟩
theorem Rem.there {H H' : Heap} {g : Nat} {o : Obj} {p : Nat × Obj} (h : Rem H g o H') : Rem (p :: H) g o (p :: H') := by
  obtain ⟨a, b, h1, h2⟩ := h
  exact ⟨p :: a, b, by simp [h1], by simp [h2]⟩
theorem Spl.perm {P : Program} {N Be : Nat} {Q : Post} {e : Env} {w0 : World} {H H' : Heap} {ops : Array Oper} {l : List Oper} (hp : H.Perm H') (h : Spl P N Be ops Q l e w0 H') : Spl P N Be ops Q l e w0 H :=
  fun a w hf hh => h a w hf (hh.perm hp)
theorem Spl.keep {P : Program} {N Be : Nat} {Q : Post} {e : Env} {w0 : World} {H H' : Heap} {ops : Array Oper} {l : List Oper} (hp : HKeep w0 H' H) (h : Spl P N Be ops Q l e w0 H') : Spl P N Be ops Q l e w0 H :=
  fun a w hf hh => h a w hf (hh.sub hp)
section
variable {P : Program} {N Be : Nat} {Q : Post} {e : Env} {w0 : World} {H : Heap} {ops : Array Oper} {rest : List Oper} {ty : TypeId} {pos : String} {after : Array Edge} {d : Nat}
/-- An own row, appended to: in place or in a new row: one way on. -/
theorem spl_append_own {t tx el size bytes : Nat} {z : Value} {x y : Operand} {g n cap m : Nat} {yv : Value} {xs tail news : List Value} {Hr : Heap} [ht : TSlice P t el] [hz : TZero P el z] [hs : TSize P el size] [hby : TBytes P el bytes]
    (hx : Ev true e x (.slice (some ⟨g, 0, none⟩) n cap)) (hy : Ev true e y yv) (hrem : Rem H g (.cells (xs ++ tail).toArray el (0, 0)) Hr) (hfr : w0.heap.size ≤ g) (hol : xs.length = n * size) (hrow : (xs ++ tail).length = cap * size) (hnc : n ≤ cap)
    (hn : ∀ w, Hp Be w0 H w → SrcAt P size tx yv m news w) (hnl : news.length = m * size) (hb : (n + m) * bytes ≤ 140737488355328) (hpos : Nat.blt 0 bytes = true) (hp2 : Nat.blt 0 size = true) (hzs : Nat.beq z.cells.size size = true) (hN : Nat.blt d N = true)
    (k : ∀ g' cap' tail', w0.heap.size ≤ g' → n + m ≤ cap' → (xs ++ news ++ tail').length = cap' * size → Spl P N Be ops Q rest ((d, true, .slice (some ⟨g', 0, none⟩) (n + m) cap') :: e) w0 ((g', .cells (xs ++ news ++ tail').toArray el (0, 0)) :: Hr)) :
    Spl P N Be ops Q (⟨some d, .call ⟨.builtin .append, #[x, y], #[t, tx]⟩, ty, pos, after, none⟩ :: rest) e w0 H := by
  obtain ⟨a, b, rfl, rfl⟩ := hrem
  by_cases hr : n + m ≤ cap
  · have htl : news.length ≤ tail.length := by
      rw [List.length_append, hol] at hrow
      have : (n + m) * size ≤ cap * size := Nat.mul_le_mul_right _ hr
      rw [Nat.add_mul] at this
      omega
    have hset := setL_tail (xs := xs) htl
    rw [hol, show n * size = 0 + n * size by omega] at hset
    refine spl_append_room (news := news) (m := m) (cs := (xs ++ tail).toArray) (T := el) hx hy hn hr ⟨a, b, rfl, by rw [hset]⟩ (by simp only [List.size_toArray, hrow, Nat.zero_add]; exact Nat.mul_le_mul_right _ hr) hN ?_
    refine Spl.perm List.perm_middle (k g cap (tail.drop news.length) hfr hr ?_)
    rw [← hrow]
    simp only [List.length_append, List.length_drop]
    omega
  · refine spl_append_grow (olds := xs) (news := news) (m := m) hx hy (fun w' hh => CellsAt.own (hh.own (g, .cells (xs ++ tail).toArray el (0, 0)) (by simp)) (fun j u hj => by rw [List.getElem?_toArray, List.getElem?_append_left (List.getElem?_eq_some_iff.1 hj).1]; exact hj)) hol hn (by omega) hb hpos hp2 hzs hN (fun g' cap' tail' h1 h2 h3 => ?_)
    refine Spl.keep ?_ (k g' cap' tail' h1 h2 h3)
    exact ⟨[(g, .cells (xs ++ tail).toArray el (0, 0))], by
      refine (List.Perm.cons _ List.perm_middle).trans ?_
      exact List.Perm.swap _ _ _, fun p hp => by simp at hp; subst hp; exact hfr⟩

/-- A guard that holds; one that does not. -/
theorem spl_guard_t {g : Nat × Bool} {dst : Option Tmp} {op : Op} {G : Bool} (hg : Gd ops e (some g) G) (hG : G = true) (h : Spl P N Be ops Q (⟨dst, op, ty, pos, after, none⟩ :: rest) e w0 H) : Spl P N Be ops Q (⟨dst, op, ty, pos, after, some g⟩ :: rest) e w0 H := by
  subst hG
  intro a w hf hh
  have h1 := h a w hf hh
  simp only [wpList] at h1 ⊢
  rw [hg N a _ hf rfl, if_pos rfl]
  rw [if_pos (by simp [Region.wanted])] at h1
  exact h1
theorem spl_guard_f {g : Nat × Bool} {op : Op} {G : Bool} (hg : Gd ops e (some g) G) (hG : G = false) (hN : Nat.blt d N = true) (h : Spl P N Be ops Q rest ((d, false, .bool false) :: e) w0 H) : Spl P N Be ops Q (⟨some d, op, ty, pos, after, some g⟩ :: rest) e w0 H := by
  subst hG
  intro a w hf hh
  have hd : d < N := by simpa [Nat.blt_eq] using hN
  simp only [wpList]
  rw [hg N a _ hf rfl, if_neg (by simp)]
  exact h _ w (hf.put (g := false) hd) hh
end
theorem RdS.ofTwo {α : Type} {w : World} {Be sz : Nat} {C : α → Array Value} {a b : Nat} {xs ys : List α} {g : Nat} {tail : List Value} {T : TypeId} {f : Nat × Nat} (hg : w.heap[g]? = some (.cells ([] ++ (xs.flatMap fun x => (C x).toList) ++ (ys.flatMap fun x => (C x).toList) ++ tail).toArray T f)) (hB : g < Be) (hx : xs.length = a) (hy : ys.length = b) (hn : 0 + a + b ≤ 9223372036854775807) (hs : ∀ x, (C x).size = sz) :
    RdS w Be sz C (some ⟨g, 0, none⟩) (0 + a + b) (xs ++ ys) :=
  RdS.ofRow (tail := tail) (T := T) (f := f) (by rw [hg]; simp [List.flatMap_append]) hB (by simp [hx, hy]) hn (fun x _ => hs x)
/-- Is it a call? (for the walk: other alternatives are not tried else) -/
theorem spl_call_id {P : Program} {N Be : Nat} {Q : Post} {e : Env} {w0 : World} {H : Heap} {ops : Array Oper} {rest : List Oper} {dst : Option Tmp} {c : Call} {ty : TypeId} {pos : String} {after : Array Edge} {g : Option (Nat × Bool)}
    (h : Spl P N Be ops Q (⟨dst, .call c, ty, pos, after, g⟩ :: rest) e w0 H) : Spl P N Be ops Q (⟨dst, .call c, ty, pos, after, g⟩ :: rest) e w0 H := h
end Go.Sy
