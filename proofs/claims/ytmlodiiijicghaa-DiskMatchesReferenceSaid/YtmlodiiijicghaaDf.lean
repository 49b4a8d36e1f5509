/-
  The frame of the laws of layer 46: the records that are handed in.
-/
import Derived.Test.YtmlodiiijicghaaSl
import Derived.Test.YtmlodiiijicghaaDr
import Derived.WalkArith
namespace Go.Proofs.Ytmlodiiijicghaa
open Go.RowKit Go.Sy
set_option linter.unusedVariables false
theorem one_eq {a b : Value} (h : [a] = [b]) : a = b := (List.cons.inj h).1
theorem wf_lt {n : Int} (h : (Lit.int .i64 n).wf = true) : n < 9223372036854775808 := by
  simp [Lit.wf, IntKind.min, IntKind.max, IntKind.signed, IntKind.bits] at h
  omega
theorem wf_ge {n : Int} (h : (Lit.int .i64 n).wf = true) : -9223372036854775808 ≤ n := by
  simp [Lit.wf, IntKind.min, IntKind.max, IntKind.signed, IntKind.bits] at h
  omega
theorem wf_u8 {n : Int} (h : (Lit.int .u8 n).wf = true) : ∃ r : Nat, n = r ∧ r < 256 := by
  simp [Lit.wf, IntKind.min, IntKind.max, IntKind.signed, IntKind.bits] at h
  exact ⟨n.toNat, by omega, by omega⟩
theorem fo_act {w : World} {cs : List Value} (h : Fo Try.prog w 34 cs) : ∃ x : ActR, cs = x.cells.toList ∧ x.after < 9223372036854775808 := by
  obtain ⟨hl, hf⟩ := h.struct Try.underlying34
  have hl' : cs.length = 6 := hl.trans (by kernel_rfl)
  match cs, hl' with
  | [c0, c1, c2, c3, c4, c5], _ =>
    obtain ⟨m0, h0, hw0⟩ := (hf 0 _ rfl 1 (by kernel_rfl)).int Try.underlying3
    obtain rfl : c0 = .int .i64 m0 := one_eq h0
    obtain ⟨m1, h1, hw1⟩ := (hf 1 _ rfl 1 (by kernel_rfl)).int Try.underlying3
    obtain rfl : c1 = .int .i64 m1 := one_eq h1
    obtain ⟨m2, h2, hw2⟩ := (hf 2 _ rfl 1 (by kernel_rfl)).int Try.underlying3
    obtain rfl : c2 = .int .i64 m2 := one_eq h2
    obtain ⟨s3, h3, hs3⟩ := (hf 3 _ rfl 1 (by kernel_rfl)).string Try.underlying9
    obtain rfl : c3 = .string s3 := one_eq h3
    obtain ⟨b4, h4⟩ := (hf 4 _ rfl 1 (by kernel_rfl)).bool Try.underlying4
    obtain rfl : c4 = .bool b4 := one_eq h4
    obtain ⟨m5, h5, hw5⟩ := (hf 5 _ rfl 1 (by kernel_rfl)).int Try.underlying3
    obtain rfl : c5 = .int .i64 m5 := one_eq h5
    exact ⟨⟨m0, m1, m2, s3, b4, m5⟩, rfl, wf_lt hw5⟩
theorem fo_acts {w : World} {cs : List Value} (h : Fo Try.prog w 22 cs) : ∃ (A : Option Addr) (n c : Nat) (xs : List ActR), cs = [.slice A n c] ∧ RdS w w.heap.size 6 ActR.cells A n xs ∧ Fits xs ∧ n ≤ c ∧ c ≤ maxLen := by
  obtain ⟨A, n, c, xs, h0, le, lm, rd, q⟩ := h.slice (sz := 6) (C := ActR.cells) Try.underlying22 (by kernel_rfl) rfl (fun _ q => fo_act q)
  exact ⟨A, n, c, xs, h0, rd, q, le, lm⟩
end Go.Proofs.Ytmlodiiijicghaa
