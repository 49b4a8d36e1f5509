/-
  The frame of the laws of layer 27: the records that are handed in.
-/
import Derived.Test.YtffbhbinnjpgnaaSl
import Derived.Test.YtffbhbinnjpgnaaE1
namespace Go.Proofs.Ytffbhbinnjpgnaa
open Go.RowKit Go.Sy
set_option linter.unusedVariables false
theorem one_eq {a b : Value} (h : [a] = [b]) : a = b := (List.cons.inj h).1
theorem fo_str {w : World} {cs : List Value} (h : Fo Try.prog w 9 cs) : ∃ x : ByteArray, cs = (strC x).toList ∧ True := by
  obtain ⟨s, h0, _⟩ := h.string Try.underlying9
  exact ⟨s, h0, trivial⟩
theorem fo_slot {w : World} {cs : List Value} (h : Fo Try.prog w 80 cs) : ∃ x : SlotR, cs = x.cells.toList ∧ (RdS w w.heap.size 1 strC x.ks.a x.ks.n x.kinds ∧ x.ks.n ≤ x.ks.c) := by
  obtain ⟨hl, hf⟩ := h.struct Try.underlying80
  have hl' : cs.length = 3 := hl.trans (by kernel_rfl)
  match cs, hl' with
  | [c0, c1, c2], _ =>
    obtain ⟨s0, h0, hs0⟩ := (hf 0 _ rfl 1 (by kernel_rfl)).string Try.underlying9
    obtain rfl : c0 = .string s0 := one_eq h0
    obtain ⟨A1, n1, k1, xs1, h1, le1, lm1, rd1, q1⟩ := (hf 1 _ rfl 1 (by kernel_rfl)).slice (sz := 1) (C := strC) Try.underlying78 (by kernel_rfl) rfl (fun _ q => fo_str q)
    obtain rfl : c1 = .slice A1 n1 k1 := one_eq h1
    obtain ⟨m2, h2, hw2⟩ := (hf 2 _ rfl 1 (by kernel_rfl)).int Try.underlying3
    obtain rfl : c2 = .int .i64 m2 := one_eq h2
    exact ⟨⟨s0, ⟨A1, n1, k1⟩, m2, xs1⟩, rfl, rd1, le1⟩
theorem fo_kind {w : World} {cs : List Value} (h : Fo Try.prog w 87 cs) : ∃ x : KindR, cs = x.cells.toList ∧ RdSlots w w.heap.size x.ss x.slots := by
  obtain ⟨hl, hf⟩ := h.struct Try.underlying87
  have hl' : cs.length = 3 := hl.trans (by kernel_rfl)
  match cs, hl' with
  | [c0, c1, c2], _ =>
    obtain ⟨s0, h0, hs0⟩ := (hf 0 _ rfl 1 (by kernel_rfl)).string Try.underlying9
    obtain rfl : c0 = .string s0 := one_eq h0
    obtain ⟨b1, h1⟩ := (hf 1 _ rfl 1 (by kernel_rfl)).bool Try.underlying4
    obtain rfl : c1 = .bool b1 := one_eq h1
    obtain ⟨A2, n2, k2, xs2, h2, le2, lm2, rd2, q2⟩ := (hf 2 _ rfl 1 (by kernel_rfl)).slice (sz := 3) (C := SlotR.cells) Try.underlying85 (by kernel_rfl) rfl (fun _ q => fo_slot q)
    obtain rfl : c2 = .slice A2 n2 k2 := one_eq h2
    exact ⟨⟨s0, b1, ⟨A2, n2, k2⟩, xs2⟩, rfl, rd2, q2⟩
theorem fo_catalog {w : World} {cs : List Value} (h : Fo Try.prog w 24 cs) : ∃ (a : Sl) (ks : List KindR), cs = [.slice a.a a.n a.c] ∧ RdKinds w w.heap.size a ks := by
  obtain ⟨hl, hf⟩ := h.struct Try.underlying24
  have hl' : cs.length = 1 := hl.trans (by kernel_rfl)
  match cs, hl' with
  | [c0], _ =>
    obtain ⟨A0, n0, k0, xs0, h0, le0, lm0, rd0, q0⟩ := (hf 0 _ rfl 1 (by kernel_rfl)).slice (sz := 3) (C := KindR.cells) Try.underlying22 (by kernel_rfl) rfl (fun _ q => fo_kind q)
    obtain rfl : c0 = .slice A0 n0 k0 := one_eq h0
    exact ⟨⟨A0, n0, k0⟩, xs0, rfl, rd0, q0⟩
theorem fo_prop {w : World} {cs : List Value} (h : Fo Try.prog w 89 cs) : ∃ x : PropR, cs = x.cells.toList ∧ True := by
  obtain ⟨hl, hf⟩ := h.struct Try.underlying89
  have hl' : cs.length = 2 := hl.trans (by kernel_rfl)
  match cs, hl' with
  | [c0, c1], _ =>
    obtain ⟨s0, h0, hs0⟩ := (hf 0 _ rfl 1 (by kernel_rfl)).string Try.underlying9
    obtain rfl : c0 = .string s0 := one_eq h0
    obtain ⟨s1, h1, hs1⟩ := (hf 1 _ rfl 1 (by kernel_rfl)).string Try.underlying9
    obtain rfl : c1 = .string s1 := one_eq h1
    exact ⟨⟨s0, s1⟩, rfl, trivial⟩
theorem fo_interval {w : World} {cs : List Value} (h : Fo Try.prog w 40 cs) : ∃ a b : Int, cs = [.int .i64 a, .int .i64 b] ∧ True := by
  obtain ⟨hl, hf⟩ := h.struct Try.underlying40
  have hl' : cs.length = 2 := hl.trans (by kernel_rfl)
  match cs, hl' with
  | [c0, c1], _ =>
    obtain ⟨m0, h0, hw0⟩ := (hf 0 _ rfl 1 (by kernel_rfl)).int Try.underlying3
    obtain rfl : c0 = .int .i64 m0 := one_eq h0
    obtain ⟨m1, h1, hw1⟩ := (hf 1 _ rfl 1 (by kernel_rfl)).int Try.underlying3
    obtain rfl : c1 = .int .i64 m1 := one_eq h1
    exact ⟨m0, m1, rfl, trivial⟩
theorem fo_life {w : World} {cs : List Value} (h : Fo Try.prog w 42 cs) : ∃ a b c d e f : Int, cs = [.int .i64 a, .int .i64 b, .int .i64 c, .int .i64 d, .int .i64 e, .int .i64 f] ∧ True := by
  obtain ⟨hl, hf⟩ := h.struct Try.underlying42
  have hl' : cs.length = 6 := hl.trans (by kernel_rfl)
  match cs, hl' with
  | [c0, c1, c2, c3, c4, c5], _ =>
    obtain ⟨y0_0, y0_1, h0, q0⟩ := fo_interval (hf 0 _ rfl 2 (by kernel_rfl))
    obtain rfl : c0 = .int .i64 y0_0 := by have := congrArg (fun l : List Value => l[0]?) h0; exact Option.some.inj this
    obtain rfl : c1 = .int .i64 y0_1 := by have := congrArg (fun l : List Value => l[1]?) h0; exact Option.some.inj this
    obtain ⟨y1_0, y1_1, h1, q1⟩ := fo_interval (hf 1 _ rfl 2 (by kernel_rfl))
    obtain rfl : c2 = .int .i64 y1_0 := by have := congrArg (fun l : List Value => l[0]?) h1; exact Option.some.inj this
    obtain rfl : c3 = .int .i64 y1_1 := by have := congrArg (fun l : List Value => l[1]?) h1; exact Option.some.inj this
    obtain ⟨y2_0, y2_1, h2, q2⟩ := fo_interval (hf 2 _ rfl 2 (by kernel_rfl))
    obtain rfl : c4 = .int .i64 y2_0 := by have := congrArg (fun l : List Value => l[0]?) h2; exact Option.some.inj this
    obtain rfl : c5 = .int .i64 y2_1 := by have := congrArg (fun l : List Value => l[1]?) h2; exact Option.some.inj this
    exact ⟨y0_0, y0_1, y1_0, y1_1, y2_0, y2_1, rfl, trivial⟩
theorem fo_part {w : World} {cs : List Value} (h : Fo Try.prog w 44 cs) : ∃ x : Part, cs = x.cells.toList ∧ RdS w w.heap.size 2 PropR.cells x.props.a x.props.n x.plist := by
  obtain ⟨hl, hf⟩ := h.struct Try.underlying44
  have hl' : cs.length = 14 := hl.trans (by kernel_rfl)
  match cs, hl' with
  | [c0, c1, c2, c3, c4, c5, c6, c7, c8, c9, c10, c11, c12, c13], _ =>
    obtain ⟨s0, h0, hs0⟩ := (hf 0 _ rfl 1 (by kernel_rfl)).string Try.underlying9
    obtain rfl : c0 = .string s0 := one_eq h0
    obtain ⟨s1, h1, hs1⟩ := (hf 1 _ rfl 1 (by kernel_rfl)).string Try.underlying9
    obtain rfl : c1 = .string s1 := one_eq h1
    obtain ⟨s2, h2, hs2⟩ := (hf 2 _ rfl 1 (by kernel_rfl)).string Try.underlying9
    obtain rfl : c2 = .string s2 := one_eq h2
    obtain ⟨s3, h3, hs3⟩ := (hf 3 _ rfl 1 (by kernel_rfl)).string Try.underlying9
    obtain rfl : c3 = .string s3 := one_eq h3
    obtain ⟨m4, h4, hw4⟩ := (hf 4 _ rfl 1 (by kernel_rfl)).int Try.underlying3
    obtain rfl : c4 = .int .i64 m4 := one_eq h4
    obtain ⟨m5, h5, hw5⟩ := (hf 5 _ rfl 1 (by kernel_rfl)).int Try.underlying3
    obtain rfl : c5 = .int .i64 m5 := one_eq h5
    obtain ⟨b6, h6⟩ := (hf 6 _ rfl 1 (by kernel_rfl)).bool Try.underlying4
    obtain rfl : c6 = .bool b6 := one_eq h6
    obtain ⟨A7, n7, k7, xs7, h7, le7, lm7, rd7, q7⟩ := (hf 7 _ rfl 1 (by kernel_rfl)).slice (sz := 2) (C := PropR.cells) Try.underlying38 (by kernel_rfl) rfl (fun _ q => fo_prop q)
    obtain rfl : c7 = .slice A7 n7 k7 := one_eq h7
    obtain ⟨y8_0, y8_1, y8_2, y8_3, y8_4, y8_5, h8, q8⟩ := fo_life (hf 8 _ rfl 6 (by kernel_rfl))
    obtain rfl : c8 = .int .i64 y8_0 := by have := congrArg (fun l : List Value => l[0]?) h8; exact Option.some.inj this
    obtain rfl : c9 = .int .i64 y8_1 := by have := congrArg (fun l : List Value => l[1]?) h8; exact Option.some.inj this
    obtain rfl : c10 = .int .i64 y8_2 := by have := congrArg (fun l : List Value => l[2]?) h8; exact Option.some.inj this
    obtain rfl : c11 = .int .i64 y8_3 := by have := congrArg (fun l : List Value => l[3]?) h8; exact Option.some.inj this
    obtain rfl : c12 = .int .i64 y8_4 := by have := congrArg (fun l : List Value => l[4]?) h8; exact Option.some.inj this
    obtain rfl : c13 = .int .i64 y8_5 := by have := congrArg (fun l : List Value => l[5]?) h8; exact Option.some.inj this
    exact ⟨⟨s0, s1, s2, s3, m4, m5, b6, ⟨A7, n7, k7⟩, y8_0, y8_1, y8_2, y8_3, y8_4, y8_5, xs7⟩, rfl, rd7⟩
theorem fo_state {w : World} {cs : List Value} (h : Fo Try.prog w 28 cs) : ∃ (a : Sl) (ps : List Part), cs = [.slice a.a a.n a.c] ∧ RdParts w w.heap.size a ps ∧ a.n ≤ a.c ∧ a.c ≤ maxLen := by
  obtain ⟨hl, hf⟩ := h.struct Try.underlying28
  have hl' : cs.length = 1 := hl.trans (by kernel_rfl)
  match cs, hl' with
  | [c0], _ =>
    obtain ⟨A0, n0, k0, xs0, h0, le0, lm0, rd0, q0⟩ := (hf 0 _ rfl 1 (by kernel_rfl)).slice (sz := 14) (C := Part.cells) Try.underlying26 (by kernel_rfl) rfl (fun _ q => fo_part q)
    obtain rfl : c0 = .slice A0 n0 k0 := one_eq h0
    exact ⟨⟨A0, n0, k0⟩, xs0, rfl, ⟨rd0, q0⟩, le0, lm0⟩
theorem fo_sub {w : World} {cs : List Value} (h : Fo Try.prog w 51 cs) : ∃ x : SubR, cs = x.cells.toList ∧ True := by
  obtain ⟨hl, hf⟩ := h.struct Try.underlying51
  have hl' : cs.length = 5 := hl.trans (by kernel_rfl)
  match cs, hl' with
  | [c0, c1, c2, c3, c4], _ =>
    obtain ⟨s0, h0, hs0⟩ := (hf 0 _ rfl 1 (by kernel_rfl)).string Try.underlying9
    obtain rfl : c0 = .string s0 := one_eq h0
    obtain ⟨s1, h1, hs1⟩ := (hf 1 _ rfl 1 (by kernel_rfl)).string Try.underlying9
    obtain rfl : c1 = .string s1 := one_eq h1
    obtain ⟨s2, h2, hs2⟩ := (hf 2 _ rfl 1 (by kernel_rfl)).string Try.underlying9
    obtain rfl : c2 = .string s2 := one_eq h2
    obtain ⟨s3, h3, hs3⟩ := (hf 3 _ rfl 1 (by kernel_rfl)).string Try.underlying9
    obtain rfl : c3 = .string s3 := one_eq h3
    obtain ⟨m4, h4, hw4⟩ := (hf 4 _ rfl 1 (by kernel_rfl)).int Try.underlying3
    obtain rfl : c4 = .int .i64 m4 := one_eq h4
    exact ⟨⟨s0, s1, s2, s3, m4⟩, rfl, trivial⟩
theorem fo_con {w : World} {cs : List Value} (h : Fo Try.prog w 56 cs) : ∃ x : ConR, cs = x.cells.toList ∧ True := by
  obtain ⟨hl, hf⟩ := h.struct Try.underlying56
  have hl' : cs.length = 3 := hl.trans (by kernel_rfl)
  match cs, hl' with
  | [c0, c1, c2], _ =>
    obtain ⟨s0, h0, hs0⟩ := (hf 0 _ rfl 1 (by kernel_rfl)).string Try.underlying9
    obtain rfl : c0 = .string s0 := one_eq h0
    obtain ⟨s1, h1, hs1⟩ := (hf 1 _ rfl 1 (by kernel_rfl)).string Try.underlying9
    obtain rfl : c1 = .string s1 := one_eq h1
    obtain ⟨m2, h2, hw2⟩ := (hf 2 _ rfl 1 (by kernel_rfl)).int Try.underlying3
    obtain rfl : c2 = .int .i64 m2 := one_eq h2
    exact ⟨⟨s0, s1, m2⟩, rfl, trivial⟩
theorem fo_subs {w : World} {cs : List Value} (h : Fo Try.prog w 25 cs) : ∃ (A : Option Addr) (n c : Nat) (xs : List SubR), cs = [.slice A n c] ∧ RdS w w.heap.size 5 SubR.cells A n xs ∧ n ≤ c ∧ c ≤ maxLen := by
  obtain ⟨A, n, c, xs, h0, le, lm, rd, _⟩ := h.slice (sz := 5) (C := SubR.cells) Try.underlying25 (by kernel_rfl) rfl (fun _ q => fo_sub q)
  exact ⟨A, n, c, xs, h0, rd, le, lm⟩
theorem fo_cons {w : World} {cs : List Value} (h : Fo Try.prog w 29 cs) : ∃ (A : Option Addr) (n c : Nat) (xs : List ConR), cs = [.slice A n c] ∧ RdS w w.heap.size 3 ConR.cells A n xs ∧ n ≤ c ∧ c ≤ maxLen := by
  obtain ⟨A, n, c, xs, h0, le, lm, rd, _⟩ := h.slice (sz := 3) (C := ConR.cells) Try.underlying29 (by kernel_rfl) rfl (fun _ q => fo_con q)
  exact ⟨A, n, c, xs, h0, rd, le, lm⟩
end Go.Proofs.Ytffbhbinnjpgnaa
