/-
  The law ConcedeMore, where what is handed in is of bulk at most 1048576: it returns true and writes nothing old.
-/
import Derived.Test.YtffbhbinnjpgnaaRows
import Derived.JoinedCond
import Derived.Test.YtffbhbinnjpgnaaFr
import Derived.Test.YtffbhbinnjpgnaaE3
namespace Go.Proofs.Ytffbhbinnjpgnaa.law3Done
open Go.ChangeShapes Go.WideShapes Go.ChangeAt Go.RowKit Go.Sy Go.Proofs.Ytffbhbinnjpgnaa
open Go.ChangeMaps (open_string shut_string)
set_option linter.unusedVariables false
theorem own : ownKnob Try.prog.godebug = none := by kernel_rfl
theorem laidOut : laidOutB Try.prog = true := by kernel_rfl
theorem one_le {H : Type} (d : DataW H) : 1 ≤ Rows.uptoBulk d := by
  cases d with
  | lit l => cases l <;> simp [Rows.uptoBulk]
  | nil => simp [Rows.uptoBulk]
  | ptr d => simp [Rows.uptoBulk]
  | slice elems spare => simp [Rows.uptoBulk]
  | agg parts => simp [Rows.uptoBulk]
  | iface t d => simp [Rows.uptoBulk]
  | map entries => simp [Rows.uptoBulk]
  | held h => simp [Rows.uptoBulk]
theorem length_le {H : Type} (l : List (DataW H)) : l.length ≤ Rows.uptoBulkAll l := by
  induction l with
  | nil => simp [Rows.uptoBulkAll]
  | cons x r ih => have := one_le x; simp only [Rows.uptoBulkAll, List.length_cons]; omega
theorem slice_bulk {H : Type} {enc : TypeId × Value → H} {P : Program} {W : World} {t e : TypeId} {A : Option Addr} {n c : Nat} {d : DataW H} {p : List MemPlace} (ht : P.underlying t = some (.slice e))
    (h : DataW.Trod enc P W 0 (fun _ => true) true t (.slice A n c) d p) : n ≤ Rows.uptoBulk d := by
  obtain ⟨m, hm⟩ := h
  rcases Go.Deep.open_slice ht hm with ⟨h1, _⟩ | ⟨a, len, cap, k, j, D, Pl, h1, _, _, _, _, hx, _⟩
  · have h2 : Value.slice A n c = .slice none 0 0 := (List.cons.inj h1).1
    cases h2
    omega
  · have h2 : Value.slice A n c = .slice (some a) len cap := (List.cons.inj h1).1
    cases h2
    have h3 := congrArg Prod.fst hx
    simp only at h3
    subst h3
    have h4 := length_le ((List.range n).map D)
    simp only [List.length_map, List.length_range] at h4
    simp only [Rows.uptoBulk]
    omega
set_option maxRecDepth 100000 in
theorem contract (H : Type) (enc : TypeId × Value → H) (W : World) (base : Nat) (args : Array Value) (ds gs : List (DataW H)) (before : List MemPlace)
    (hval0 : ∀ (j : Nat) t v, Try.f5.params[j]? = some t → args[j]? = some v → Value.okWide Try.prog W .any base t v)
    (hW : DataW.Whole enc Try.prog Try.f5.params.toList Rows.concedeMoreSpec.vars false W args.toList ds gs before) (hk : Rows.uptoSmall H (ds ++ gs) = true) :
    Calls Try.prog 5 args W fun e W' => ∃ v, e = .returned v ∧ Rows.concedeMoreSpec.post enc Try.prog Try.f5 false true false false W args v W' := by
  have hval : ∀ (j : Nat) t v, Try.f5.params[j]? = some t → args[j]? = some v → Value.okWide Try.prog W .any base t v := hval0
  have hW' := hW
  obtain ⟨p, q, hA0, hV, rfl, hfz, hnd⟩ := hW
  have hA : DataW.TrodAll enc Try.prog W 0 (fun _ => true) true Try.f5.params.toList args.toList ds p := hA0
  rw [Try.params5] at hA hval
  obtain ⟨v0, vs0, d0, ds0, p0, q0, hargs, rfl, rfl, h0, r0⟩ := trodAll_cons hA
  obtain ⟨v1, vs1, d1, ds1, p1, q1, rfl, rfl, rfl, h1, r1⟩ := trodAll_cons r0
  obtain ⟨v2, vs2, d2, ds2, p2, q2, rfl, rfl, rfl, h2, r2⟩ := trodAll_cons r1
  obtain ⟨v3, vs3, d3, ds3, p3, q3, rfl, rfl, rfl, h3, r3⟩ := trodAll_cons r2
  obtain ⟨v4, vs4, d4, ds4, p4, q4, rfl, rfl, rfl, h4, r4⟩ := trodAll_cons r3
  obtain ⟨v5, vs5, d5, ds5, p5, q5, rfl, rfl, rfl, h5, r5⟩ := trodAll_cons r4
  obtain ⟨v6, vs6, d6, ds6, p6, q6, rfl, rfl, rfl, h6, r6⟩ := trodAll_cons r5
  obtain ⟨v7, vs7, d7, ds7, p7, q7, rfl, rfl, rfl, h7, r7⟩ := trodAll_cons r6
  obtain ⟨v8, vs8, d8, ds8, p8, q8, rfl, rfl, rfl, h8, r8⟩ := trodAll_cons r7
  obtain ⟨rfl, rfl, rfl⟩ := trodAll_nil r8
  obtain rfl : args = #[v0, v1, v2, v3, v4, v5, v6, v7, v8] := by cases args; simp_all
  obtain ⟨rfl, rfl⟩ := trodVars_none hV
  have hkb : Rows.uptoBulkAll [d0, d1, d2, d3, d4, d5, d6, d7, d8] ≤ 1048576 := of_decide_eq_true hk
  simp only [Rows.uptoBulkAll] at hkb
  obtain ⟨⟨A0, n0, c0⟩, x0, e0, w0⟩ := fo_catalog (Fo.ofTrod h0)
  obtain rfl := agg_of (okWide_struct Try.underlying24 (hval 0 24 v0 rfl rfl)) e0
  obtain ⟨A1, n1, c1, x1, e1, w1⟩ := fo_subs (Fo.ofTrod h1)
  obtain rfl := slice_of (okWide_slice Try.underlying25 (hval 1 25 v1 rfl rfl)) e1
  obtain ⟨A2, n2, c2, x2, e2, w2⟩ := fo_subs (Fo.ofTrod h2)
  obtain rfl := slice_of (okWide_slice Try.underlying25 (hval 2 25 v2 rfl rfl)) e2
  obtain ⟨⟨A3, n3, c3⟩, x3, e3, w3⟩ := fo_state (Fo.ofTrod h3)
  obtain rfl := agg_of (okWide_struct Try.underlying28 (hval 3 28 v3 rfl rfl)) e3
  obtain ⟨A4, n4, c4, x4, e4, w4⟩ := fo_cons (Fo.ofTrod h4)
  obtain rfl := slice_of (okWide_slice Try.underlying29 (hval 4 29 v4 rfl rfl)) e4
  obtain ⟨A5, n5, c5, x5, e5, w5⟩ := fo_cons (Fo.ofTrod h5)
  obtain rfl := slice_of (okWide_slice Try.underlying29 (hval 5 29 v5 rfl rfl)) e5
  obtain ⟨a6, e6, w6⟩ := Fo.string Try.underlying9 (Fo.ofTrod h6)
  obtain ⟨b6, rfl⟩ := okWide_string Try.underlying9 (hval 6 9 v6 rfl rfl)
  obtain rfl : b6 = a6 := Value.string.inj (List.cons.inj e6).1
  obtain ⟨a7, e7, w7⟩ := Fo.string Try.underlying9 (Fo.ofTrod h7)
  obtain ⟨b7, rfl⟩ := okWide_string Try.underlying9 (hval 7 9 v7 rfl rfl)
  obtain rfl : b7 = a7 := Value.string.inj (List.cons.inj e7).1
  obtain ⟨a8, rfl, _, _, w8⟩ := open_int Try.underlying3 (hval 8 3 v8 rfl rfl) h8
  have b1 := slice_bulk Try.underlying25 h1
  have b2 := slice_bulk Try.underlying25 h2
  have b4 := slice_bulk Try.underlying29 h4
  have b5 := slice_bulk Try.underlying29 h5
  refine (law3 w0 w1.1 w2.1 w3.1 w4.1 w5.1 (by omega) (by omega) (by omega) (by omega)).mono fun e W' ⟨he, bel⟩ => ?_
  subst he
  exact ⟨_, rfl, _, _, _, [], _, [], hW', trodAll_mk1 (shut_bool Try.underlying4 _), trodAll_below laidOut bel (by kernel_rfl) hA, rfl, bel.frame _, fun h => by cases h⟩

set_option maxRecDepth 100000 in
theorem lifted (os : Os) (started : os.Started) (H : Type) (enc : TypeId × Value → H) (F : Stop.Interp) :
    ReturnsInHanded {} Try.checked os 5 .any ((Rows.OpenSpec.upto Rows.concedeMoreSpec).pre6 enc Try.prog Try.f5 Rows.concedeMoreUptoRow.domain false) (((Rows.OpenSpec.upto Rows.concedeMoreSpec).at F).post enc Try.prog Try.f5 false true false false) := by
  refine returnsInHanded_of_cond (C := Try.checked) (s := Rows.OpenSpec.upto Rows.concedeMoreSpec) (k := Rows.uptoSmall) rfl own started (by kernel_rfl) Try.func5
    (OpenSpec.witness (enc := enc) (C := Try.checked) (s := Rows.OpenSpec.upto Rows.concedeMoreSpec) (k := Rows.uptoSmall) rfl false ⟨#[], #[.agg #[.slice none 0 0], .slice none 0 0, .slice none 0 0, .agg #[.slice none 0 0], .slice none 0 0, .slice none 0 0, .string ⟨#[]⟩, .string ⟨#[]⟩, .int .i64 0], []⟩ 8 (by kernel_rfl) (by kernel_rfl) (by kernel_rfl)
      (x := ([.agg [.nil], .nil, .nil, .agg [.nil], .nil, .nil, .lit (.string []), .lit (.string []), .lit (.int .i64 0)], [], [])) (by kernel_rfl) rfl (by kernel_rfl)) ?_
  intro W base args ds gs before hval hW _ hk _
  exact contract H enc W base args ds gs before hval hW hk

theorem proved : Rows.ConcedeMoreUptoSaid :=
  OpenClaim.holds_of_cond 5 Try.f5 rfl rfl rfl rfl rfl rfl rfl ⟨rfl, rfl, rfl, rfl, rfl⟩ rfl rfl rfl rfl rfl (by kernel_rfl) Try.func5 (by kernel_rfl)
    (of_decide_eq_true (by kernel_rfl)) (by unfold Func.isWrapper; first | (rw [if_pos (by decide +kernel)]; kernel_rfl) | (rw [if_neg (by decide +kernel)]; exact ⟨rfl, rfl⟩))
    (fun os started H enc _ F => lifted os started H enc F)
end Go.Proofs.Ytffbhbinnjpgnaa.law3Done
