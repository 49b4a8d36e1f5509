/-
  The frame of the top laws: the records that are handed in.
-/
import Derived.Test.YtoogicafefennaaSl
import Derived.Test.YtoogicafefennaaNg
namespace Go.Proofs.Ytoogicafefennaa
open Go.RowKit Go.Sy
set_option linter.unusedVariables false
theorem one_eq {a b : Value} (h : [a] = [b]) : a = b := (List.cons.inj h).1
theorem fo_int {w : World} {cs : List Value} (h : Fo Try.prog w 3 cs) : ∃ x : Int, cs = (intC x).toList ∧ -9223372036854775808 ≤ x ∧ x < 9223372036854775808 := by
  obtain ⟨m, h0, hw⟩ := h.int Try.underlying3
  refine ⟨m, h0, ?_⟩
  simp [Lit.wf, IntKind.min, IntKind.max, IntKind.signed, IntKind.bits] at hw
  omega
theorem fo_task {w : World} {cs : List Value} (h : Fo Try.prog w 40 cs) : ∃ x : TaskR, cs = x.cells.toList ∧ RdS w w.heap.size 1 intC x.sl.a x.sl.n x.after := by
  obtain ⟨hl, hf⟩ := h.struct Try.underlying40
  have hl' : cs.length = 4 := hl.trans (by kernel_rfl)
  match cs, hl' with
  | [c0, c1, c2, c3], _ =>
    obtain ⟨m0, h0, hw0⟩ := (hf 0 _ rfl 1 (by kernel_rfl)).int Try.underlying3
    obtain rfl : c0 = .int .i64 m0 := one_eq h0
    obtain ⟨m1, h1, hw1⟩ := (hf 1 _ rfl 1 (by kernel_rfl)).int Try.underlying3
    obtain rfl : c1 = .int .i64 m1 := one_eq h1
    obtain ⟨b2, h2⟩ := (hf 2 _ rfl 1 (by kernel_rfl)).bool Try.underlying4
    obtain rfl : c2 = .bool b2 := one_eq h2
    obtain ⟨A3, n3, k3, xs3, h3, le3, lm3, rd3, q3⟩ := (hf 3 _ rfl 1 (by kernel_rfl)).slice (sz := 1) (C := intC) Try.underlying25 (by kernel_rfl) rfl (fun _ q => fo_int q)
    obtain rfl : c3 = .slice A3 n3 k3 := one_eq h3
    exact ⟨⟨m0, m1, b2, ⟨A3, n3, k3⟩, xs3⟩, rfl, rd3⟩
theorem fo_shop {w : World} {cs : List Value} (h : Fo Try.prog w 37 cs) : ∃ x : ShopR, cs = x.cells.toList ∧ RdShop w w.heap.size x := by
  obtain ⟨hl, hf⟩ := h.struct Try.underlying37
  have hl' : cs.length = 2 := hl.trans (by kernel_rfl)
  match cs, hl' with
  | [c0, c1], _ =>
    obtain ⟨A0, n0, k0, xs0, h0, le0, lm0, rd0, q0⟩ := (hf 0 _ rfl 1 (by kernel_rfl)).slice (sz := 1) (C := intC) Try.underlying25 (by kernel_rfl) rfl (fun _ q => fo_int q)
    obtain rfl : c0 = .slice A0 n0 k0 := one_eq h0
    obtain ⟨m1, h1, hw1⟩ := (hf 1 _ rfl 1 (by kernel_rfl)).int Try.underlying3
    obtain rfl : c1 = .int .i64 m1 := one_eq h1
    exact ⟨⟨⟨A0, n0, k0⟩, m1, xs0⟩, rfl, rd0⟩
theorem fo_tasks {w : World} {cs : List Value} (h : Fo Try.prog w 22 cs) : ∃ (A : Option Addr) (n c : Nat) (xs : List TaskR), cs = [.slice A n c] ∧ RdTasks w w.heap.size ⟨A, n, c⟩ xs := by
  obtain ⟨A, n, c, xs, h0, le, lm, rd, q⟩ := h.slice (sz := 4) (C := TaskR.cells) Try.underlying22 (by kernel_rfl) rfl (fun _ q => fo_task q)
  exact ⟨A, n, c, xs, h0, rd, q⟩
end Go.Proofs.Ytoogicafefennaa
