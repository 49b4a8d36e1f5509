/-
  Numbers that are handed in.
-/
import Derived.Test.YtoogicafefennaaSl
namespace Go.Proofs.Ytoogicafefennaa
open Go.RowKit Go.Sy
theorem wf8 {n : Int} (h : (Lit.int .u8 n).wf = true) : ∃ r : Nat, n = r ∧ r < 256 := by
  simp [Lit.wf, IntKind.min, IntKind.max, IntKind.signed, IntKind.bits] at h
  exact ⟨n.toNat, by omega, by omega⟩
theorem wf16 {n : Int} (h : (Lit.int .u16 n).wf = true) : ∃ r : Nat, n = r ∧ r < 65536 := by
  simp [Lit.wf, IntKind.min, IntKind.max, IntKind.signed, IntKind.bits] at h
  exact ⟨n.toNat, by omega, by omega⟩
theorem wf64 {n : Int} (h : (Lit.int .u64 n).wf = true) : ∃ r : Nat, n = r ∧ r < 18446744073709551616 := by
  simp [Lit.wf, IntKind.min, IntKind.max, IntKind.signed, IntKind.bits] at h
  exact ⟨n.toNat, by omega, by omega⟩
end Go.Proofs.Ytoogicafefennaa
