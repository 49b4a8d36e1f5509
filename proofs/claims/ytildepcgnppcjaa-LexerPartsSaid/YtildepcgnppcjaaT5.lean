/-
  Contracts: the lexer's Quote and unquoted.
-/
import Derived.Test.YtildepcgnppcjaaT4
import Derived.Test.YtildepcgnppcjaaTq
namespace Go.Proofs.Ytildepcgnppcjaa
open Go.RowKit Go.Sy
set_option linter.unusedVariables false
set_option linter.unusedSimpArgs false
section
variable {P : Program} {N Be : Nat} {Q : Post} {e : Env} {w0 : World} {H : Heap} {ops : Array Oper} {rest : List Oper} {ty : TypeId} {pos : String} {after : Array Edge} {d : Nat}
theorem spl_callR {f : FuncId} {xs : List Operand} {ts : Array TypeId} {vs : List Value} [TFn P f] {X : Type} {V : X → Value} {HH : X → Heap} {I : X → Prop} (hN : Nat.blt d N = true) (hx : Evs true e xs vs)
    (hc : ∀ w, Hp Be w0 H w → Calls P f vs.toArray w (RetX Be w0 V HH I))
    (k : ∀ x, I x → Spl P N Be ops Q rest ((d, true, V x) :: e) w0 (HH x)) : Spl P N Be ops Q (⟨some d, .call ⟨.value (.func f), xs.toArray, ts⟩, ty, pos, after, none⟩ :: rest) e w0 H :=
  spl_callx V (fun _ => w0) HH I hN hx hc k
end
theorem writeByte_c0 {Be : Nat} {w0 w : World} {b : Nat} {p : Option Addr} {r : RowS} {s : ByteArray} (hp : p = none ∨ p = some ⟨b, 0, none⟩) (hr : BOk w0 r s) (hs : s.size < 100000000) (c : UInt8) (hh : Hp Be w0 (BH b p r s) w) :
    Calls Try.prog 30 #[.pointer (some ⟨b, 0, none⟩), .int .u8 (c.toNat : Int)] w (RetX Be w0 (fun _ : RowS => .nilIface) (fun r' => BH b (some ⟨b, 0, none⟩) r' (s.push c)) (fun r' => BOk w0 r' (s.push c))) := by
  have := writeByte_c (R := []) hp hr hs c (by rw [List.append_nil]; exact hh)
  simpa only [List.append_nil] using this
theorem writeString_c0 {Be : Nat} {w0 w : World} {b : Nat} {p : Option Addr} {r : RowS} {s : ByteArray} (hp : p = none ∨ p = some ⟨b, 0, none⟩) (hr : BOk w0 r s) (hs : s.size < 100000000) (x : ByteArray) (hx0 : 0 < x.size) (hx : x.size < 100000000) (hh : Hp Be w0 (BH b p r s) w) :
    Calls Try.prog 31 #[.pointer (some ⟨b, 0, none⟩), .string x] w (RetX Be w0 (fun _ : RowS => .tuple #[.int .i64 (x.size : Int), .nilIface]) (fun r' => BH b (some ⟨b, 0, none⟩) r' (s ++ x)) (fun r' => BOk w0 r' (s ++ x))) := by
  have := writeString_c (R := []) hp hr hs x hx0 hx (by rw [List.append_nil]; exact hh)
  simpa only [List.append_nil] using this
theorem string_c0 {Be : Nat} {w0 w : World} {b : Nat} {p : Option Addr} {r : RowS} {s : ByteArray} (hr : BOk w0 r s) (hs : s.size < 100000000) (hb : w0.heap.size ≤ b) (hh : Hp Be w0 (BH b p r s) w) :
    Calls Try.prog 32 #[.pointer (some ⟨b, 0, none⟩)] w (RetX Be w0 (fun _ : Unit => .string s) (fun _ => []) (fun _ => True)) :=
  string_c (R := []) hr hs hb (by rw [List.append_nil]; exact hh)
theorem BH_start (b : Nat) : [(b, Obj.cells #[.pointer none, .slice none 0 0] 55 (0, 0))] = BH b none RowS.start ⟨#[]⟩ := rfl
theorem take_at {t : ByteArray} {k : Nat} {c : UInt8} {hlt : k < t.size} (hb : t[k] = c) : (tx t).take (k + 1) = (tx t).take k ++ [c] := by
  have h1 : k < (tx t).length := by rw [tx_len]; exact hlt
  rw [List.take_add_one, List.getElem?_eq_getElem h1, ← hb]
  rfl
attribute [local irreducible] Calls thenQ blockQ retQ Spc Spl Spq Ex Ev Evs Gd Upd ESub HKeep Res Res1 wlk effQ Rem SrcAt Split BH

set_option maxRecDepth 100000 in
set_option maxHeartbeats 4000000 in
theorem lexQuote_c {w : World} (t : ByteArray) (ht : t.size < 10000000) : Calls Try.prog 17 #[.string t] w (Ret w (.string (ofL (quoteL (tx t))))) := by
  refine sp_enter (vs := [_]) Try.func17 rfl Try.ntmps17 rfl ?_
  have hlen := tx_len t
  repeat (first
    | (apply spl_callR rfl;(·(repeat (first|exact eN|(apply eS;(·(first|exact eT rfl|exact eC|exact eG rfl|exact eL rfl|exact eLL rfl|exact eLLL rfl|exact eF|exact eGl))))));(·exact fun w' hh => writeByte_c0 (r:=RowS.start) (s:=⟨#[]⟩) (.inl rfl) BOk.start (by decide) 34 (by rw [← BH_start];exact hh));(intro r1 hr1))
    | apply then_n|apply block_n|apply sp_seq|apply sp_region|apply spl_nil|apply then_r|apply block_r|apply then_e|apply block_here|apply block_past rfl
    | ((first|apply sp_cond_t|apply sp_cond_f);(·(first|exact eT rfl|exact eC|exact eG rfl|exact eL rfl|exact eLL rfl|exact eLLL rfl|exact eF|exact eGl));(·(first|exact decide_eq_true (by omega)|exact decide_eq_false (by omega)|assumption|rfl)))
    | (apply sp_cond_f;(·(first|exact eT rfl|exact eC|exact eG rfl|exact eL rfl|exact eLL rfl|exact eLLL rfl|exact eF|exact eGl));(·(first|exact decide_eq_false (by omega)|assumption|rfl)))
    | apply sp_skip|apply sp_ret|apply sp_exit|apply sp_block
    | ((first|apply spl_pure rfl|(apply spl_pure_g rfl;(·(first|exact Gd.none|exact Gd.tt rfl rfl|exact Gd.tf rfl rfl|exact Gd.gt rfl rfl|exact Gd.gf rfl rfl))));(·(first|((first|apply ex_move|apply ex_assign|apply ex_lss|apply ex_seql|apply ex_len)<;>(first|exact eT rfl|exact eC|exact eG rfl|exact eL rfl|exact eLL rfl|exact eLLL rfl|exact eF|exact eGl))|((first|apply ex_eql|apply ex_slen|apply ex_slss)<;>(first|exact eT rfl|exact eC|exact eG rfl|exact eL rfl|exact eLL rfl|exact eLLL rfl|exact eF|exact eGl))|(apply ex_beql<;>(first|exact eT rfl|exact eC|exact eG rfl|exact eL rfl|exact eLL rfl|exact eLLL rfl|exact eF|exact eGl))|(apply ex_peql<;>(first|exact eT rfl|exact eC|exact eG rfl|exact eL rfl|exact eLL rfl|exact eLLL rfl|exact eF|exact eGl))|(apply ex_addn<;>(first|exact eT rfl|exact eC|exact eG rfl|exact eL rfl|exact eLL rfl|exact eLLL rfl|exact eF|exact eGl|(constructor<;>omega)))|(apply ex_add<;>(first|exact eT rfl|exact eC|exact eG rfl|exact eL rfl|exact eLL rfl|exact eLLL rfl|exact eF|exact eGl)))))
    | (apply spl_alloc rfl;intro _ _))
  rename_i b hb
  refine sp_loop (X := Nat × RowS × ByteArray) (fun x => [(9, true, .int .i64 (x.1 : Int)), (8, true, .int .i64 (t.size : Int)), (0, true, .string t), (3, true, .pointer (some ⟨b, 0, none⟩))]) (fun _ => w) (fun x => BH b (some ⟨b, 0, none⟩) x.2.1 x.2.2)
    (fun x => x.1 ≤ t.size ∧ BOk w x.2.1 x.2.2 ∧ tx x.2.2 = 34 :: ((tx t).take x.1).flatMap escB ∧ x.2.2.size ≤ 2 * x.1 + 1) (fun x => t.size - x.1) (0, r1, _) ⟨Nat.zero_le _, hr1, rfl, (by show (ByteArray.push ⟨#[]⟩ 34).size ≤ 1; decide)⟩ (by (repeat (first|exact ESub.nil|apply ESub.cons rfl))) rfl (by (repeat (first|exact HKeep.refl|apply HKeep.keep|(apply HKeep.app;(·(repeat (first|exact Split.here|exact Split.all|apply Split.cons|apply Split.app))))|(apply HKeep.pick;(·(repeat (first|exact Rem.here|apply Rem.there|apply Rem.app))))|apply HKeep.drop (by first|assumption|omega)|apply HKeep.dropA (by assumption)))) ?_
  rintro ⟨k, r, s⟩ ⟨hk, hr, hs, hsz⟩
  replace hk : k ≤ t.size := hk
  replace hsz : s.size ≤ 2 * k + 1 := hsz
  replace hr : BOk w r s := hr
  replace hs : tx s = 34 :: ((tx t).take k).flatMap escB := hs
  dsimp only
  by_cases hlt : k < t.size
  · obtain ⟨c, hb', hd⟩ := drop_at hlt
    have htk := take_at (hlt := hlt) hb'
    by_cases h10 : c.toNat = 10
    · have hi : (c.toNat : Int) = 10 := by omega
      repeat (first
        | (apply sp_cond_t;(·(first|exact eT rfl|exact eC|exact eG rfl|exact eL rfl|exact eLL rfl|exact eLLL rfl|exact eF|exact eGl));(·(first|(simp;done)|(simp [*];done)|(simp;omega))))|(apply sp_cond_f;(·(first|exact eT rfl|exact eC|exact eG rfl|exact eL rfl|exact eLL rfl|exact eLLL rfl|exact eF|exact eGl));(·(first|(simp;done)|(simp [*];done)|(simp;omega))))
        | (apply spl_callR rfl;(·(repeat (first|exact eN|(apply eS;(·(first|exact eT rfl|exact eC|exact eG rfl|exact eL rfl|exact eLL rfl|exact eLLL rfl|exact eF|exact eGl))))));(·exact fun w' hh => writeString_c0 (.inr rfl) hr (by omega) _ (by decide) (by decide) hh);(intro r2 hr2))
        | apply then_n|apply block_n|apply sp_seq|apply sp_region|apply spl_nil|apply then_r|apply block_r|apply then_e|apply block_here|apply block_past rfl
        | ((first|apply sp_cond_t|apply sp_cond_f);(·(first|exact eT rfl|exact eC|exact eG rfl|exact eL rfl|exact eLL rfl|exact eLLL rfl|exact eF|exact eGl));(·(first|exact decide_eq_true (by omega)|exact decide_eq_false (by omega)|assumption|rfl)))
        | (apply sp_cond_f;(·(first|exact eT rfl|exact eC|exact eG rfl|exact eL rfl|exact eLL rfl|exact eLLL rfl|exact eF|exact eGl));(·(first|exact decide_eq_false (by omega)|assumption|rfl)))
        | apply sp_skip|apply sp_ret|apply sp_exit|apply sp_block
        | ((first|apply spl_pure rfl|(apply spl_pure_g rfl;(·(first|exact Gd.none|exact Gd.tt rfl rfl|exact Gd.tf rfl rfl|exact Gd.gt rfl rfl|exact Gd.gf rfl rfl))));(·(first|(apply ex_sindexE hlt hb';(·(first|exact eT rfl|exact eC|exact eG rfl|exact eL rfl|exact eLL rfl|exact eLLL rfl|exact eF|exact eGl));(·(first|exact eT rfl|exact eC|exact eG rfl|exact eL rfl|exact eLL rfl|exact eLLL rfl|exact eF|exact eGl)))|((first|apply ex_move|apply ex_assign|apply ex_lss|apply ex_seql|apply ex_len)<;>(first|exact eT rfl|exact eC|exact eG rfl|exact eL rfl|exact eLL rfl|exact eLLL rfl|exact eF|exact eGl))|((first|apply ex_eql|apply ex_slen|apply ex_slss)<;>(first|exact eT rfl|exact eC|exact eG rfl|exact eL rfl|exact eLL rfl|exact eLLL rfl|exact eF|exact eGl))|(apply ex_beql<;>(first|exact eT rfl|exact eC|exact eG rfl|exact eL rfl|exact eLL rfl|exact eLLL rfl|exact eF|exact eGl))|(apply ex_peql<;>(first|exact eT rfl|exact eC|exact eG rfl|exact eL rfl|exact eLL rfl|exact eLLL rfl|exact eF|exact eGl))|(apply ex_addn<;>(first|exact eT rfl|exact eC|exact eG rfl|exact eL rfl|exact eLL rfl|exact eLLL rfl|exact eF|exact eGl|(constructor<;>omega)))|(apply ex_add<;>(first|exact eT rfl|exact eC|exact eG rfl|exact eL rfl|exact eLL rfl|exact eLLL rfl|exact eF|exact eGl)))))
        | (apply spl_alloc rfl;intro _ _))
      refine ⟨(k + 1, r2, _), ⟨hlt, hr2, ?_, ?_⟩, by (show t.size - (k + 1) < t.size - k; omega), (by (repeat (first|exact ESub.nil|apply ESub.cons rfl))), rfl, (by (repeat (first|exact HKeep.refl|apply HKeep.keep|(apply HKeep.app;(·(repeat (first|exact Split.here|exact Split.all|apply Split.cons|apply Split.app))))|(apply HKeep.pick;(·(repeat (first|exact Rem.here|apply Rem.there|apply Rem.app))))|apply HKeep.drop (by first|assumption|omega)|apply HKeep.dropA (by assumption))))⟩
      · show tx (s ++ _) = 34 :: ((tx t).take (k + 1)).flatMap escB
        rw [tx_append, hs, htk, List.flatMap_append]; simp [escB, h10, tx]
      · show (s ++ _).size ≤ 2 * (k + 1) + 1
        rw [ByteArray.size_append]; show s.size + 2 ≤ _; omega
    · by_cases h34 : c.toNat = 34 ∨ c.toNat = 92
      · have hesc : escB c = [92, c] := by simp [escB, h10, h34]
        have hi10 : ¬ (c.toNat : Int) = 10 := by omega
        by_cases h3 : c.toNat = 34
        · have hi : (c.toNat : Int) = 34 := by omega
          repeat (first
            | (apply sp_cond_t;(·(first|exact eT rfl|exact eC|exact eG rfl|exact eL rfl|exact eLL rfl|exact eLLL rfl|exact eF|exact eGl));(·(first|(simp;done)|(simp [*];done)|(simp;omega))))|(apply sp_cond_f;(·(first|exact eT rfl|exact eC|exact eG rfl|exact eL rfl|exact eLL rfl|exact eLLL rfl|exact eF|exact eGl));(·(first|(simp;done)|(simp [*];done)|(simp;omega))))
            | (apply spl_callR rfl;(·(repeat (first|exact eN|(apply eS;(·(first|exact eT rfl|exact eC|exact eG rfl|exact eL rfl|exact eLL rfl|exact eLLL rfl|exact eF|exact eGl))))));(·exact fun w' hh => writeByte_c0 (.inr rfl) hr (by omega) 92 hh);(intro r2 hr2))
            | (apply spl_callR rfl;(·(repeat (first|exact eN|(apply eS;(·(first|exact eT rfl|exact eC|exact eG rfl|exact eL rfl|exact eLL rfl|exact eLLL rfl|exact eF|exact eGl))))));(·exact fun w' hh => writeByte_c0 (.inr rfl) hr2 (by rw [size_push];omega) c hh);(intro r3 hr3))
            | apply then_n|apply block_n|apply sp_seq|apply sp_region|apply spl_nil|apply then_r|apply block_r|apply then_e|apply block_here|apply block_past rfl
            | ((first|apply sp_cond_t|apply sp_cond_f);(·(first|exact eT rfl|exact eC|exact eG rfl|exact eL rfl|exact eLL rfl|exact eLLL rfl|exact eF|exact eGl));(·(first|exact decide_eq_true (by omega)|exact decide_eq_false (by omega)|assumption|rfl)))
            | (apply sp_cond_f;(·(first|exact eT rfl|exact eC|exact eG rfl|exact eL rfl|exact eLL rfl|exact eLLL rfl|exact eF|exact eGl));(·(first|exact decide_eq_false (by omega)|assumption|rfl)))
            | apply sp_skip|apply sp_ret|apply sp_exit|apply sp_block
            | ((first|apply spl_pure rfl|(apply spl_pure_g rfl;(·(first|exact Gd.none|exact Gd.tt rfl rfl|exact Gd.tf rfl rfl|exact Gd.gt rfl rfl|exact Gd.gf rfl rfl))));(·(first|(apply ex_sindexE hlt hb';(·(first|exact eT rfl|exact eC|exact eG rfl|exact eL rfl|exact eLL rfl|exact eLLL rfl|exact eF|exact eGl));(·(first|exact eT rfl|exact eC|exact eG rfl|exact eL rfl|exact eLL rfl|exact eLLL rfl|exact eF|exact eGl)))|((first|apply ex_move|apply ex_assign|apply ex_lss|apply ex_seql|apply ex_len)<;>(first|exact eT rfl|exact eC|exact eG rfl|exact eL rfl|exact eLL rfl|exact eLLL rfl|exact eF|exact eGl))|((first|apply ex_eql|apply ex_slen|apply ex_slss)<;>(first|exact eT rfl|exact eC|exact eG rfl|exact eL rfl|exact eLL rfl|exact eLLL rfl|exact eF|exact eGl))|(apply ex_beql<;>(first|exact eT rfl|exact eC|exact eG rfl|exact eL rfl|exact eLL rfl|exact eLLL rfl|exact eF|exact eGl))|(apply ex_peql<;>(first|exact eT rfl|exact eC|exact eG rfl|exact eL rfl|exact eLL rfl|exact eLLL rfl|exact eF|exact eGl))|(apply ex_addn<;>(first|exact eT rfl|exact eC|exact eG rfl|exact eL rfl|exact eLL rfl|exact eLLL rfl|exact eF|exact eGl|(constructor<;>omega)))|(apply ex_add<;>(first|exact eT rfl|exact eC|exact eG rfl|exact eL rfl|exact eLL rfl|exact eLLL rfl|exact eF|exact eGl)))))
            | (apply spl_alloc rfl;intro _ _))
          refine ⟨(k + 1, r3, _), ⟨hlt, hr3, ?_, ?_⟩, by (show t.size - (k + 1) < t.size - k; omega), (by (repeat (first|exact ESub.nil|apply ESub.cons rfl))), rfl, (by (repeat (first|exact HKeep.refl|apply HKeep.keep|(apply HKeep.app;(·(repeat (first|exact Split.here|exact Split.all|apply Split.cons|apply Split.app))))|(apply HKeep.pick;(·(repeat (first|exact Rem.here|apply Rem.there|apply Rem.app))))|apply HKeep.drop (by first|assumption|omega)|apply HKeep.dropA (by assumption))))⟩
          · show tx ((s.push 92).push c) = 34 :: ((tx t).take (k + 1)).flatMap escB
            rw [tx_push, tx_push, hs, htk, List.flatMap_append]; simp [hesc]
          · show ((s.push _).push _).size ≤ 2 * (k + 1) + 1
            rw [size_push, size_push]; omega
        · have hi : (c.toNat : Int) = 92 := by omega
          repeat (first
            | (apply sp_cond_t;(·(first|exact eT rfl|exact eC|exact eG rfl|exact eL rfl|exact eLL rfl|exact eLLL rfl|exact eF|exact eGl));(·(first|(simp;done)|(simp [*];done)|(simp;omega))))|(apply sp_cond_f;(·(first|exact eT rfl|exact eC|exact eG rfl|exact eL rfl|exact eLL rfl|exact eLLL rfl|exact eF|exact eGl));(·(first|(simp;done)|(simp [*];done)|(simp;omega))))
            | (apply spl_callR rfl;(·(repeat (first|exact eN|(apply eS;(·(first|exact eT rfl|exact eC|exact eG rfl|exact eL rfl|exact eLL rfl|exact eLLL rfl|exact eF|exact eGl))))));(·exact fun w' hh => writeByte_c0 (.inr rfl) hr (by omega) 92 hh);(intro r2 hr2))
            | (apply spl_callR rfl;(·(repeat (first|exact eN|(apply eS;(·(first|exact eT rfl|exact eC|exact eG rfl|exact eL rfl|exact eLL rfl|exact eLLL rfl|exact eF|exact eGl))))));(·exact fun w' hh => writeByte_c0 (.inr rfl) hr2 (by rw [size_push];omega) c hh);(intro r3 hr3))
            | apply then_n|apply block_n|apply sp_seq|apply sp_region|apply spl_nil|apply then_r|apply block_r|apply then_e|apply block_here|apply block_past rfl
            | ((first|apply sp_cond_t|apply sp_cond_f);(·(first|exact eT rfl|exact eC|exact eG rfl|exact eL rfl|exact eLL rfl|exact eLLL rfl|exact eF|exact eGl));(·(first|exact decide_eq_true (by omega)|exact decide_eq_false (by omega)|assumption|rfl)))
            | (apply sp_cond_f;(·(first|exact eT rfl|exact eC|exact eG rfl|exact eL rfl|exact eLL rfl|exact eLLL rfl|exact eF|exact eGl));(·(first|exact decide_eq_false (by omega)|assumption|rfl)))
            | apply sp_skip|apply sp_ret|apply sp_exit|apply sp_block
            | ((first|apply spl_pure rfl|(apply spl_pure_g rfl;(·(first|exact Gd.none|exact Gd.tt rfl rfl|exact Gd.tf rfl rfl|exact Gd.gt rfl rfl|exact Gd.gf rfl rfl))));(·(first|(apply ex_sindexE hlt hb';(·(first|exact eT rfl|exact eC|exact eG rfl|exact eL rfl|exact eLL rfl|exact eLLL rfl|exact eF|exact eGl));(·(first|exact eT rfl|exact eC|exact eG rfl|exact eL rfl|exact eLL rfl|exact eLLL rfl|exact eF|exact eGl)))|((first|apply ex_move|apply ex_assign|apply ex_lss|apply ex_seql|apply ex_len)<;>(first|exact eT rfl|exact eC|exact eG rfl|exact eL rfl|exact eLL rfl|exact eLLL rfl|exact eF|exact eGl))|((first|apply ex_eql|apply ex_slen|apply ex_slss)<;>(first|exact eT rfl|exact eC|exact eG rfl|exact eL rfl|exact eLL rfl|exact eLLL rfl|exact eF|exact eGl))|(apply ex_beql<;>(first|exact eT rfl|exact eC|exact eG rfl|exact eL rfl|exact eLL rfl|exact eLLL rfl|exact eF|exact eGl))|(apply ex_peql<;>(first|exact eT rfl|exact eC|exact eG rfl|exact eL rfl|exact eLL rfl|exact eLLL rfl|exact eF|exact eGl))|(apply ex_addn<;>(first|exact eT rfl|exact eC|exact eG rfl|exact eL rfl|exact eLL rfl|exact eLLL rfl|exact eF|exact eGl|(constructor<;>omega)))|(apply ex_add<;>(first|exact eT rfl|exact eC|exact eG rfl|exact eL rfl|exact eLL rfl|exact eLLL rfl|exact eF|exact eGl)))))
            | (apply spl_alloc rfl;intro _ _))
          refine ⟨(k + 1, r3, _), ⟨hlt, hr3, ?_, ?_⟩, by (show t.size - (k + 1) < t.size - k; omega), (by (repeat (first|exact ESub.nil|apply ESub.cons rfl))), rfl, (by (repeat (first|exact HKeep.refl|apply HKeep.keep|(apply HKeep.app;(·(repeat (first|exact Split.here|exact Split.all|apply Split.cons|apply Split.app))))|(apply HKeep.pick;(·(repeat (first|exact Rem.here|apply Rem.there|apply Rem.app))))|apply HKeep.drop (by first|assumption|omega)|apply HKeep.dropA (by assumption))))⟩
          · show tx ((s.push 92).push c) = 34 :: ((tx t).take (k + 1)).flatMap escB
            rw [tx_push, tx_push, hs, htk, List.flatMap_append]; simp [hesc]
          · show ((s.push _).push _).size ≤ 2 * (k + 1) + 1
            rw [size_push, size_push]; omega
      · have hesc : escB c = [c] := by simp [escB, h10, h34]
        have hi10 : ¬ (c.toNat : Int) = 10 := by omega
        have hi34 : ¬ (c.toNat : Int) = 34 := by omega
        have hi92 : ¬ (c.toNat : Int) = 92 := by omega
        repeat (first
          | (apply sp_cond_t;(·(first|exact eT rfl|exact eC|exact eG rfl|exact eL rfl|exact eLL rfl|exact eLLL rfl|exact eF|exact eGl));(·(first|(simp;done)|(simp [*];done)|(simp;omega))))|(apply sp_cond_f;(·(first|exact eT rfl|exact eC|exact eG rfl|exact eL rfl|exact eLL rfl|exact eLLL rfl|exact eF|exact eGl));(·(first|(simp;done)|(simp [*];done)|(simp;omega))))
          | (apply spl_callR rfl;(·(repeat (first|exact eN|(apply eS;(·(first|exact eT rfl|exact eC|exact eG rfl|exact eL rfl|exact eLL rfl|exact eLLL rfl|exact eF|exact eGl))))));(·exact fun w' hh => writeByte_c0 (.inr rfl) hr (by omega) c hh);(intro r2 hr2))
          | apply then_n|apply block_n|apply sp_seq|apply sp_region|apply spl_nil|apply then_r|apply block_r|apply then_e|apply block_here|apply block_past rfl
          | ((first|apply sp_cond_t|apply sp_cond_f);(·(first|exact eT rfl|exact eC|exact eG rfl|exact eL rfl|exact eLL rfl|exact eLLL rfl|exact eF|exact eGl));(·(first|exact decide_eq_true (by omega)|exact decide_eq_false (by omega)|assumption|rfl)))
          | (apply sp_cond_f;(·(first|exact eT rfl|exact eC|exact eG rfl|exact eL rfl|exact eLL rfl|exact eLLL rfl|exact eF|exact eGl));(·(first|exact decide_eq_false (by omega)|assumption|rfl)))
          | apply sp_skip|apply sp_ret|apply sp_exit|apply sp_block
          | ((first|apply spl_pure rfl|(apply spl_pure_g rfl;(·(first|exact Gd.none|exact Gd.tt rfl rfl|exact Gd.tf rfl rfl|exact Gd.gt rfl rfl|exact Gd.gf rfl rfl))));(·(first|(apply ex_sindexE hlt hb';(·(first|exact eT rfl|exact eC|exact eG rfl|exact eL rfl|exact eLL rfl|exact eLLL rfl|exact eF|exact eGl));(·(first|exact eT rfl|exact eC|exact eG rfl|exact eL rfl|exact eLL rfl|exact eLLL rfl|exact eF|exact eGl)))|((first|apply ex_move|apply ex_assign|apply ex_lss|apply ex_seql|apply ex_len)<;>(first|exact eT rfl|exact eC|exact eG rfl|exact eL rfl|exact eLL rfl|exact eLLL rfl|exact eF|exact eGl))|((first|apply ex_eql|apply ex_slen|apply ex_slss)<;>(first|exact eT rfl|exact eC|exact eG rfl|exact eL rfl|exact eLL rfl|exact eLLL rfl|exact eF|exact eGl))|(apply ex_beql<;>(first|exact eT rfl|exact eC|exact eG rfl|exact eL rfl|exact eLL rfl|exact eLLL rfl|exact eF|exact eGl))|(apply ex_peql<;>(first|exact eT rfl|exact eC|exact eG rfl|exact eL rfl|exact eLL rfl|exact eLLL rfl|exact eF|exact eGl))|(apply ex_addn<;>(first|exact eT rfl|exact eC|exact eG rfl|exact eL rfl|exact eLL rfl|exact eLLL rfl|exact eF|exact eGl|(constructor<;>omega)))|(apply ex_add<;>(first|exact eT rfl|exact eC|exact eG rfl|exact eL rfl|exact eLL rfl|exact eLLL rfl|exact eF|exact eGl)))))
          | (apply spl_alloc rfl;intro _ _))
        refine ⟨(k + 1, r2, _), ⟨hlt, hr2, ?_, ?_⟩, by (show t.size - (k + 1) < t.size - k; omega), (by (repeat (first|exact ESub.nil|apply ESub.cons rfl))), rfl, (by (repeat (first|exact HKeep.refl|apply HKeep.keep|(apply HKeep.app;(·(repeat (first|exact Split.here|exact Split.all|apply Split.cons|apply Split.app))))|(apply HKeep.pick;(·(repeat (first|exact Rem.here|apply Rem.there|apply Rem.app))))|apply HKeep.drop (by first|assumption|omega)|apply HKeep.dropA (by assumption))))⟩
        · show tx (s.push c) = 34 :: ((tx t).take (k + 1)).flatMap escB
          rw [tx_push, hs, htk, List.flatMap_append]; simp [hesc]
        · show (s.push _).size ≤ 2 * (k + 1) + 1
          rw [size_push]; omega
  · have hkt : (tx t).take k = tx t := List.take_of_length_le (by rw [hlen]; omega)
    rw [hkt] at hs
    repeat (first
      | (apply sp_cond_t;(·(first|exact eT rfl|exact eC|exact eG rfl|exact eL rfl|exact eLL rfl|exact eLLL rfl|exact eF|exact eGl));(·(first|(simp;done)|(simp [*];done)|(simp;omega))))|(apply sp_cond_f;(·(first|exact eT rfl|exact eC|exact eG rfl|exact eL rfl|exact eLL rfl|exact eLLL rfl|exact eF|exact eGl));(·(first|(simp;done)|(simp [*];done)|(simp;omega))))
      | (apply spl_callR rfl;(·(repeat (first|exact eN|(apply eS;(·(first|exact eT rfl|exact eC|exact eG rfl|exact eL rfl|exact eLL rfl|exact eLLL rfl|exact eF|exact eGl))))));(·exact fun w' hh => writeByte_c0 (.inr rfl) hr (by omega) 34 hh);(intro r2 hr2))
      | (apply spl_callR rfl;(·(repeat (first|exact eN|(apply eS;(·(first|exact eT rfl|exact eC|exact eG rfl|exact eL rfl|exact eLL rfl|exact eLLL rfl|exact eF|exact eGl))))));(·exact fun w' hh => string_c0 hr2 (by rw [size_push];omega) hb hh);(rintro ⟨⟩ -))
      | apply then_n|apply block_n|apply sp_seq|apply sp_region|apply spl_nil|apply then_r|apply block_r|apply then_e|apply block_here|apply block_past rfl
      | ((first|apply sp_cond_t|apply sp_cond_f);(·(first|exact eT rfl|exact eC|exact eG rfl|exact eL rfl|exact eLL rfl|exact eLLL rfl|exact eF|exact eGl));(·(first|exact decide_eq_true (by omega)|exact decide_eq_false (by omega)|assumption|rfl)))
      | (apply sp_cond_f;(·(first|exact eT rfl|exact eC|exact eG rfl|exact eL rfl|exact eLL rfl|exact eLLL rfl|exact eF|exact eGl));(·(first|exact decide_eq_false (by omega)|assumption|rfl)))
      | apply sp_skip|apply sp_ret|apply sp_exit|apply sp_block
      | ((first|apply spl_pure rfl|(apply spl_pure_g rfl;(·(first|exact Gd.none|exact Gd.tt rfl rfl|exact Gd.tf rfl rfl|exact Gd.gt rfl rfl|exact Gd.gf rfl rfl))));(·(first|((first|apply ex_move|apply ex_assign|apply ex_lss|apply ex_seql|apply ex_len)<;>(first|exact eT rfl|exact eC|exact eG rfl|exact eL rfl|exact eLL rfl|exact eLLL rfl|exact eF|exact eGl))|((first|apply ex_eql|apply ex_slen|apply ex_slss)<;>(first|exact eT rfl|exact eC|exact eG rfl|exact eL rfl|exact eLL rfl|exact eLLL rfl|exact eF|exact eGl))|(apply ex_beql<;>(first|exact eT rfl|exact eC|exact eG rfl|exact eL rfl|exact eLL rfl|exact eLLL rfl|exact eF|exact eGl))|(apply ex_peql<;>(first|exact eT rfl|exact eC|exact eG rfl|exact eL rfl|exact eLL rfl|exact eLLL rfl|exact eF|exact eGl))|(apply ex_addn<;>(first|exact eT rfl|exact eC|exact eG rfl|exact eL rfl|exact eLL rfl|exact eLLL rfl|exact eF|exact eGl|(constructor<;>omega)))|(apply ex_add<;>(first|exact eT rfl|exact eC|exact eG rfl|exact eL rfl|exact eLL rfl|exact eLLL rfl|exact eF|exact eGl)))))
      | (apply spl_alloc rfl;intro _ _))
    (apply ret_ok rfl;(·(first|(apply Res.ofOne;(first|(apply Res1.tmp;(·rfl))|(apply Res1.cell;(·rfl);(·exact InH.mem);(·(first|rfl|assumption)))|(apply Res1.cell1;(·rfl);(·exact InH.mem);(·rfl))))|(apply Res.ofTwo<;>(first|(apply Res1.tmp;(·rfl))|(apply Res1.cell;(·rfl);(·exact InH.mem);(·(first|rfl|assumption)))|(apply Res1.cell1;(·rfl);(·exact InH.mem);(·rfl))))|(apply Res.ofThree<;>(first|(apply Res1.tmp;(·rfl))|(apply Res1.cell;(·rfl);(·exact InH.mem);(·(first|rfl|assumption)))|(apply Res1.cell1;(·rfl);(·exact InH.mem);(·rfl))))|exact Res.none_)))
    congr 1
    apply tx_inj
    rw [tx_push, hs, tx_ofL]
    rfl
end Go.Proofs.Ytildepcgnppcjaa
