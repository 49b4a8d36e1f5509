/-
  The layer 'Sy': a row that grows, nil or an own block: appended to by one rule, read as a slice.
-/
import Derived.Test.YtoogicafefennaaSm
namespace Go.Sy
open Go.RowKit
set_option linter.unusedVariables false
set_option linter.unusedSimpArgs false
theorem Split.nilA {H : Heap} : Split H [] H := by unfold Split; simp
def RowS.fresh (r : RowS) (b : Nat) : Prop := ∀ g, r.g = some g → b ≤ g
theorem RowS.fresh_start {b : Nat} : RowS.start.fresh b := fun g h => by cases h
theorem RowS.ok_start {size : Nat} : RowS.start.ok size 0 [] := ⟨rfl, rfl, rfl⟩
theorem RowS.ok_some {g cap size n : Nat} {xs tail : List Value} (h1 : n ≤ cap) (h2 : (xs ++ tail).length = cap * size) (h3 : xs.length = n * size) : RowS.ok ⟨some g, cap, tail⟩ size n xs := ⟨h1, h2, h3⟩
theorem RowS.drop {r : RowS} {xs : List Value} {T : TypeId} {w : World} (h : r.fresh w.heap.size) : ∀ p ∈ r.hp xs T, w.heap.size ≤ p.1 := by
  rcases r with ⟨_ | g, cap, tail⟩
  · intro p hp; cases hp
  · intro p hp
    simp only [RowS.hp, List.mem_singleton] at hp
    subst hp
    exact h g rfl
theorem Spc.permP {P : Program} {N Be : Nat} {Q : Post} {e : Env} {w0 : World} {H H' : Heap} {c : Code} (hp : H.Perm H') (h : Spc P N Be c Q e w0 H') : Spc P N Be c Q e w0 H :=
  fun a w hf hh => h a w hf (hh.perm hp)
section
variable {P : Program} {N Be : Nat} {Q : Post} {e : Env} {w0 : World} {H : Heap} {ops : Array Oper} {rest : List Oper} {ty : TypeId} {pos : String} {after : Array Edge} {d : Nat}
theorem spl_append_row {t tx el size bytes : Nat} {z : Value} {x y : Operand} {r : RowS} {n m : Nat} {yv : Value} {xs news : List Value} {Hr : Heap} [ht : TSlice P t el] [hz : TZero P el z] [hs : TSize P el size] [hby : TBytes P el bytes]
    (hx : Ev true e x (r.val n)) (hy : Ev true e y yv) (hsp : Split H (r.hp xs el) Hr) (hok : r.ok size n xs) (hfr : r.fresh w0.heap.size) (hm : 0 < m)
    (hn : ∀ w, Hp Be w0 H w → SrcAt P size tx yv m news w) (hnl : news.length = m * size) (hb : (n + m) * bytes ≤ 140737488355328) (hpos : Nat.blt 0 bytes = true) (hp2 : Nat.blt 0 size = true) (hzs : Nat.beq z.cells.size size = true) (hN : Nat.blt d N = true)
    (k : ∀ r' : RowS, r'.ok size (n + m) (xs ++ news) → r'.fresh w0.heap.size → Spl P N Be ops Q rest ((d, true, r'.val (n + m)) :: e) w0 (r'.hp (xs ++ news) el ++ Hr)) :
    Spl P N Be ops Q (⟨some d, .call ⟨.builtin .append, #[x, y], #[t, tx]⟩, ty, pos, after, none⟩ :: rest) e w0 H := by
  refine Spl.perm hsp ?_
  have hn' : ∀ w, Hp Be w0 (r.hp xs el ++ Hr) w → SrcAt P size tx yv m news w := fun w hh => hn w (hh.perm (List.Perm.symm hsp))
  rcases r with ⟨_ | g, cap, tail⟩
  · obtain ⟨h1, h2, h3⟩ := hok
    have h2' : cap = 0 := h2
    subst h1 h2' h3
    have hz0 : (0 : Nat) * size = 0 := Nat.zero_mul _
    refine spl_append_grow (olds := []) (news := news) (m := m) hx hy (fun w' hh => CellsAt.nil) (by rw [hz0]; rfl) hn' (by omega) hb hpos hp2 hzs hN (fun g' cap' tail' h4 h5 h6 => ?_)
    exact k ⟨some g', cap', tail'⟩ (RowS.ok_some h5 h6 (by simpa using hnl)) (fun g h => by cases h; exact h4)
  · obtain ⟨h1, h2, h3⟩ := hok
    refine spl_append_own (xs := xs) (tail := tail) (news := news) (m := m) hx hy (Rem.here (o := .cells (xs ++ tail).toArray el (0, 0))) (hfr g rfl) h3 h2 h1 hn' hnl hb hpos hp2 hzs hN (fun g' cap' tail' h4 h5 h6 => ?_)
    exact k ⟨some g', cap', tail'⟩ (RowS.ok_some h5 h6 (by rw [List.length_append, h3, hnl, Nat.add_mul])) (fun g h => by cases h; exact h4)
end
/-- What stands in a row, read as a slice. -/
theorem RdS.ofRowS {α : Type} {w0 w : World} {Be sz : Nat} {C : α → Array Value} {n : Nat} {xs : List α} {r : RowS} {T : TypeId} {H Hr : Heap} (hh : Hp Be w0 H w) (hsp : Split H (r.hp (xs.flatMap fun x => (C x).toList) T) Hr) (hl : xs.length = n) (hn : n ≤ 9223372036854775807) (hs : ∀ x ∈ xs, (C x).size = sz)
    (hok : r.ok sz n (xs.flatMap fun x => (C x).toList)) : RdS w w.heap.size sz C (r.g.map fun g => ⟨g, 0, none⟩) n xs := by
  have hh' := hh.perm hsp
  rcases r with ⟨_ | g, cap, tail⟩
  · obtain ⟨h1, -, -⟩ := hok
    subst h1
    obtain rfl := List.eq_nil_of_length_eq_zero hl
    exact RdS.none_
  · exact RdS.ofRow (hh'.own _ (.head _)) (hh'.lt (.head _)) hl hn hs
end Go.Sy
