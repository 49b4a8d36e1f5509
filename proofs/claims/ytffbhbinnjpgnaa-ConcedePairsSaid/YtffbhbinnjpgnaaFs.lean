/-
  The frame of the laws of layer 27: the records that are handed in, with the sizes of their names.
-/
import Derived.Test.YtffbhbinnjpgnaaFr
import Derived.Test.YtffbhbinnjpgnaaK3
namespace Go.Proofs.Ytffbhbinnjpgnaa
open Go.RowKit Go.Sy
set_option linter.unusedVariables false
theorem wf_u8 {n : Int} (h : (Lit.int .u8 n).wf = true) : ∃ r : Nat, n = r ∧ r < 256 := by
  simp [Lit.wf, IntKind.min, IntKind.max, IntKind.signed, IntKind.bits] at h
  exact ⟨n.toNat, by omega, by omega⟩
theorem le_max {n : Nat} (h : n ≤ maxLen) : n < 9223372036854775808 := by unfold maxLen at h; omega
def SizedK (ks : List KindR) : Prop := ∀ k ∈ ks, k.name.size < 9223372036854775808 ∧ ∀ s ∈ k.slots, s.name.size < 9223372036854775808
def SizedP (ps : List Part) : Prop := ∀ p ∈ ps, p.name.size < 9223372036854775808 ∧ ∀ x ∈ p.plist, x.key.size < 9223372036854775808
theorem fo_slotS {w : World} {cs : List Value} (h : Fo Try.prog w 80 cs) : ∃ x : SlotR, cs = x.cells.toList ∧ ((RdS w w.heap.size 1 strC x.ks.a x.ks.n x.kinds ∧ x.ks.n ≤ x.ks.c) ∧ x.name.size < 9223372036854775808) := by
  obtain ⟨hl, hf⟩ := h.struct Try.underlying80
  have hl' : cs.length = 3 := hl.trans (by kernel_rfl)
  match cs, hl' with
  | [c0, c1, c2], _ =>
    obtain ⟨s0, h0, hs0⟩ := (hf 0 _ rfl 1 (by kernel_rfl)).string Try.underlying9
    obtain rfl : c0 = .string s0 := one_eq h0
    obtain ⟨A1, n1, k1, xs1, h1, le1, lm1, rd1, q1⟩ := (hf 1 _ rfl 1 (by kernel_rfl)).slice (sz := 1) (C := strC) Try.underlying78 (by kernel_rfl) rfl (fun _ q => fo_str q)
    obtain rfl : c1 = .slice A1 n1 k1 := one_eq h1
    obtain ⟨m2, h2, hw2⟩ := (hf 2 _ rfl 1 (by kernel_rfl)).int Try.underlying3
    obtain rfl : c2 = .int .i64 m2 := one_eq h2
    exact ⟨⟨s0, ⟨A1, n1, k1⟩, m2, xs1⟩, rfl, ⟨rd1, le1⟩, le_max hs0⟩
theorem fo_kindS {w : World} {cs : List Value} (h : Fo Try.prog w 87 cs) : ∃ x : KindR, cs = x.cells.toList ∧ (RdSlots w w.heap.size x.ss x.slots ∧ (x.name.size < 9223372036854775808 ∧ ∀ s ∈ x.slots, s.name.size < 9223372036854775808)) := by
  obtain ⟨hl, hf⟩ := h.struct Try.underlying87
  have hl' : cs.length = 3 := hl.trans (by kernel_rfl)
  match cs, hl' with
  | [c0, c1, c2], _ =>
    obtain ⟨s0, h0, hs0⟩ := (hf 0 _ rfl 1 (by kernel_rfl)).string Try.underlying9
    obtain rfl : c0 = .string s0 := one_eq h0
    obtain ⟨b1, h1⟩ := (hf 1 _ rfl 1 (by kernel_rfl)).bool Try.underlying4
    obtain rfl : c1 = .bool b1 := one_eq h1
    obtain ⟨A2, n2, k2, xs2, h2, le2, lm2, rd2, q2⟩ := (hf 2 _ rfl 1 (by kernel_rfl)).slice (sz := 3) (C := SlotR.cells) Try.underlying85 (by kernel_rfl) rfl (fun _ q => fo_slotS q)
    obtain rfl : c2 = .slice A2 n2 k2 := one_eq h2
    exact ⟨⟨s0, b1, ⟨A2, n2, k2⟩, xs2⟩, rfl, ⟨rd2, fun x hx => (q2 x hx).1⟩, le_max hs0, fun x hx => (q2 x hx).2⟩
theorem fo_catalogS {w : World} {cs : List Value} (h : Fo Try.prog w 24 cs) : ∃ (a : Sl) (ks : List KindR), cs = [.slice a.a a.n a.c] ∧ (RdKinds w w.heap.size a ks ∧ SizedK ks) := by
  obtain ⟨hl, hf⟩ := h.struct Try.underlying24
  have hl' : cs.length = 1 := hl.trans (by kernel_rfl)
  match cs, hl' with
  | [c0], _ =>
    obtain ⟨A0, n0, k0, xs0, h0, le0, lm0, rd0, q0⟩ := (hf 0 _ rfl 1 (by kernel_rfl)).slice (sz := 3) (C := KindR.cells) Try.underlying22 (by kernel_rfl) rfl (fun _ q => fo_kindS q)
    obtain rfl : c0 = .slice A0 n0 k0 := one_eq h0
    exact ⟨⟨A0, n0, k0⟩, xs0, rfl, ⟨rd0, fun x hx => (q0 x hx).1⟩, fun x hx => (q0 x hx).2⟩
theorem fo_propS {w : World} {cs : List Value} (h : Fo Try.prog w 89 cs) : ∃ x : PropR, cs = x.cells.toList ∧ x.key.size < 9223372036854775808 := by
  obtain ⟨hl, hf⟩ := h.struct Try.underlying89
  have hl' : cs.length = 2 := hl.trans (by kernel_rfl)
  match cs, hl' with
  | [c0, c1], _ =>
    obtain ⟨s0, h0, hs0⟩ := (hf 0 _ rfl 1 (by kernel_rfl)).string Try.underlying9
    obtain rfl : c0 = .string s0 := one_eq h0
    obtain ⟨s1, h1, hs1⟩ := (hf 1 _ rfl 1 (by kernel_rfl)).string Try.underlying9
    obtain rfl : c1 = .string s1 := one_eq h1
    exact ⟨⟨s0, s1⟩, rfl, le_max hs0⟩
theorem fo_partS {w : World} {cs : List Value} (h : Fo Try.prog w 44 cs) : ∃ x : Part, cs = x.cells.toList ∧ (RdS w w.heap.size 2 PropR.cells x.props.a x.props.n x.plist ∧ (x.name.size < 9223372036854775808 ∧ ∀ y ∈ x.plist, y.key.size < 9223372036854775808)) := by
  obtain ⟨hl, hf⟩ := h.struct Try.underlying44
  have hl' : cs.length = 14 := hl.trans (by kernel_rfl)
  match cs, hl' with
  | [c0, c1, c2, c3, c4, c5, c6, c7, c8, c9, c10, c11, c12, c13], _ =>
    obtain ⟨s0, h0, hs0⟩ := (hf 0 _ rfl 1 (by kernel_rfl)).string Try.underlying9
    obtain rfl : c0 = .string s0 := one_eq h0
    obtain ⟨s1, h1, hs1⟩ := (hf 1 _ rfl 1 (by kernel_rfl)).string Try.underlying9
    obtain rfl : c1 = .string s1 := one_eq h1
    obtain ⟨s2, h2, hs2⟩ := (hf 2 _ rfl 1 (by kernel_rfl)).string Try.underlying9
    obtain rfl : c2 = .string s2 := one_eq h2
    obtain ⟨s3, h3, hs3⟩ := (hf 3 _ rfl 1 (by kernel_rfl)).string Try.underlying9
    obtain rfl : c3 = .string s3 := one_eq h3
    obtain ⟨m4, h4, hw4⟩ := (hf 4 _ rfl 1 (by kernel_rfl)).int Try.underlying3
    obtain rfl : c4 = .int .i64 m4 := one_eq h4
    obtain ⟨m5, h5, hw5⟩ := (hf 5 _ rfl 1 (by kernel_rfl)).int Try.underlying3
    obtain rfl : c5 = .int .i64 m5 := one_eq h5
    obtain ⟨b6, h6⟩ := (hf 6 _ rfl 1 (by kernel_rfl)).bool Try.underlying4
    obtain rfl : c6 = .bool b6 := one_eq h6
    obtain ⟨A7, n7, k7, xs7, h7, le7, lm7, rd7, q7⟩ := (hf 7 _ rfl 1 (by kernel_rfl)).slice (sz := 2) (C := PropR.cells) Try.underlying38 (by kernel_rfl) rfl (fun _ q => fo_propS q)
    obtain rfl : c7 = .slice A7 n7 k7 := one_eq h7
    obtain ⟨y8_0, y8_1, y8_2, y8_3, y8_4, y8_5, h8, q8⟩ := fo_life (hf 8 _ rfl 6 (by kernel_rfl))
    obtain rfl : c8 = .int .i64 y8_0 := by have := congrArg (fun l : List Value => l[0]?) h8; exact Option.some.inj this
    obtain rfl : c9 = .int .i64 y8_1 := by have := congrArg (fun l : List Value => l[1]?) h8; exact Option.some.inj this
    obtain rfl : c10 = .int .i64 y8_2 := by have := congrArg (fun l : List Value => l[2]?) h8; exact Option.some.inj this
    obtain rfl : c11 = .int .i64 y8_3 := by have := congrArg (fun l : List Value => l[3]?) h8; exact Option.some.inj this
    obtain rfl : c12 = .int .i64 y8_4 := by have := congrArg (fun l : List Value => l[4]?) h8; exact Option.some.inj this
    obtain rfl : c13 = .int .i64 y8_5 := by have := congrArg (fun l : List Value => l[5]?) h8; exact Option.some.inj this
    exact ⟨⟨s0, s1, s2, s3, m4, m5, b6, ⟨A7, n7, k7⟩, y8_0, y8_1, y8_2, y8_3, y8_4, y8_5, xs7⟩, rfl, rd7, le_max hs0, fun y hy => q7 y hy⟩
theorem fo_stateS {w : World} {cs : List Value} (h : Fo Try.prog w 28 cs) : ∃ (a : Sl) (ps : List Part), cs = [.slice a.a a.n a.c] ∧ ((RdParts w w.heap.size a ps ∧ a.n ≤ a.c ∧ a.c ≤ maxLen) ∧ SizedP ps) := by
  obtain ⟨hl, hf⟩ := h.struct Try.underlying28
  have hl' : cs.length = 1 := hl.trans (by kernel_rfl)
  match cs, hl' with
  | [c0], _ =>
    obtain ⟨A0, n0, k0, xs0, h0, le0, lm0, rd0, q0⟩ := (hf 0 _ rfl 1 (by kernel_rfl)).slice (sz := 14) (C := Part.cells) Try.underlying26 (by kernel_rfl) rfl (fun _ q => fo_partS q)
    obtain rfl : c0 = .slice A0 n0 k0 := one_eq h0
    exact ⟨⟨A0, n0, k0⟩, xs0, rfl, ⟨⟨rd0, fun x hx => (q0 x hx).1⟩, le0, lm0⟩, fun x hx => (q0 x hx).2⟩
end Go.Proofs.Ytffbhbinnjpgnaa
