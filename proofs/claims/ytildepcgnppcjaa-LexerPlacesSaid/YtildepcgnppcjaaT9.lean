/-
  Contracts: the iterator of tokens.
-/
import Derived.Test.YtildepcgnppcjaaT8a
import Derived.Test.YtildepcgnppcjaaT8b
import Derived.Test.YtildepcgnppcjaaT8c
import Derived.Test.YtildepcgnppcjaaT8d
namespace Go.Proofs.Ytildepcgnppcjaa
open Go.RowKit Go.Sy
set_option linter.unusedVariables false
set_option linter.unusedSimpArgs false
attribute [local irreducible] Calls thenQ blockQ retQ Spc Spl SplI Spq Ex Ev Evs Gd Upd ESub HKeep Res Res1 wlk effQ Rem SrcAt Split tabA clsA TH scopeQ

set_option maxRecDepth 100000 in
set_option maxHeartbeats 400000 in
theorem tokens2_c {Be : Nat} {w0 : World} {g1 g3 g4 l : Nat} {t : ByteArray} (ht : t.size < 1000000) {J : List Tk → Heap → Prop} {Jx : List Tk → Tk → Heap → Prop} {Je : Nat → Nat → Heap → Prop} (hY0 : Yld Be w0 l t J Jx Je)
    {H : Heap} (hJ : J [] H) {w : World} (hh : Hp Be w0 (H ++ TH t g1 g3 g4) w) :
    Calls Try.prog 34 #[.func (.yield l) #[] #[], .pointer (some ⟨g1, 0, none⟩), .pointer (some ⟨g4, 0, none⟩)] w (tokR Be w0 g1 g3 g4 t J Jx Je) := by
  refine sp_enterM (vs := [_, _, _]) Try.func34 rfl Try.ntmps34 rfl hh ?_
  have hlen := tx_len t
  clear hh
  repeat (first
    | apply sp_scope
    | apply sp_label
    | apply then_n|apply block_n|apply sp_seq|apply sp_region|apply spl_nil|apply then_r|apply block_r|apply then_e|apply block_here|apply block_past rfl
    | ((first|apply sp_cond_t|apply sp_cond_f);(·(first|exact eT rfl|exact eC|exact eG rfl|exact eL rfl|exact eLL rfl|exact eLLL rfl|exact eF|exact eGl));(·(first|exact decide_eq_true (by omega)|exact decide_eq_false (by omega)|assumption|rfl)))
    | (apply sp_cond_f;(·(first|exact eT rfl|exact eC|exact eG rfl|exact eL rfl|exact eLL rfl|exact eLLL rfl|exact eF|exact eGl));(·(first|exact decide_eq_false (by omega)|assumption|rfl)))
    | apply sp_skip|apply sp_ret|apply sp_exit|apply sp_block
    | ((first|apply spl_pure rfl|apply spq_pure rfl|(apply spl_pure_g rfl;(·(first|exact Gd.none|exact Gd.tt rfl rfl|exact Gd.tf rfl rfl|exact Gd.gt rfl rfl|exact Gd.gf rfl rfl)))|(apply spq_pure_g rfl;(·(first|exact Gd.none|exact Gd.tt rfl rfl|exact Gd.tf rfl rfl|exact Gd.gt rfl rfl|exact Gd.gf rfl rfl)))|apply wlk_read rfl rfl|(apply wlk_read_g rfl rfl;(·(first|exact Gd.none|exact Gd.tt rfl rfl|exact Gd.tf rfl rfl|exact Gd.gt rfl rfl|exact Gd.gf rfl rfl))));(·(first|((first|apply ex_move|apply ex_assign|apply ex_fieldAddr'|apply ex_not|apply ex_lss|apply ex_gtr|apply ex_seql|apply ex_sneq|apply ex_len|apply ex_andT)<;>(first|exact eT rfl|exact eC|exact eG rfl|exact eL rfl|exact eLL rfl|exact eLLL rfl|exact eF|exact eGl))|((first|apply ex_fieldAddr|apply ex_eql|apply ex_neq|apply ex_slen|apply ex_orT|apply ex_slss)<;>(first|exact eT rfl|exact eC|exact eG rfl|exact eL rfl|exact eLL rfl|exact eLLL rfl|exact eF|exact eGl))|((first|apply ex_beql|apply ex_bneq|apply ex_and)<;>(first|exact eT rfl|exact eC|exact eG rfl|exact eL rfl|exact eLL rfl|exact eLLL rfl|exact eF|exact eGl))|((first|apply ex_or|apply ex_peql|apply ex_pneq)<;>(first|exact eT rfl|exact eC|exact eG rfl|exact eL rfl|exact eLL rfl|exact eLLL rfl|exact eF|exact eGl))|((first|apply ex_addn|apply ex_subn|apply ex_slice_h)<;>(first|exact eT rfl|exact eC|exact eG rfl|exact eL rfl|exact eLL rfl|exact eLLL rfl|exact eF|exact eGl|(constructor<;>omega)))|((first|apply ex_add|apply ex_sub)<;>(first|exact eT rfl|exact eC|exact eG rfl|exact eL rfl|exact eLL rfl|exact eLLL rfl|exact eF|exact eGl))|((first|apply ex_loadown|apply ex_extract)<;>(first|exact eT rfl|exact eC|exact eG rfl|exact eL rfl|exact eLL rfl|exact eLLL rfl|exact eF|exact eGl|exact Bk.own InH.mem|exact Bk.old (by assumption) (Nat.le_refl _)|rfl|assumption|omega))|(apply ex_loadowns<;>(first|exact eT rfl|exact eC|exact eG rfl|exact eL rfl|exact eLL rfl|exact eLLL rfl|exact eF|exact eGl|exact Bk.own InH.mem|exact Bk.old (by assumption) (Nat.le_refl _)|(first|rfl|assumption)|(constructor<;>omega)))|(apply ex_build<;>(first|((repeat (first|exact eN|(apply eS;(·(first|exact eT rfl|exact eC|exact eG rfl|exact eL rfl|exact eLL rfl|exact eLLL rfl|exact eF|exact eGl)))));done)|rfl))|(apply ex_slice_lh<;>(first|exact eT rfl|exact eC|exact eG rfl|exact eL rfl|exact eLL rfl|exact eLLL rfl|exact eF|exact eGl|rfl|assumption|(refine ⟨?_,?_,?_⟩<;>omega)))|((first|apply ex_sslice_h|apply ex_sslice_l|apply ex_sslice)<;>(first|exact eT rfl|exact eC|exact eG rfl|exact eL rfl|exact eLL rfl|exact eLLL rfl|exact eF|exact eGl|(constructor<;>omega)|(refine ⟨?_,?_,?_⟩<;>omega))))))
    | (apply spl_alloc rfl;intro _ _)
    | (apply spl_store1;(·(first|exact eT rfl|exact eC|exact eG rfl|exact eL rfl|exact eLL rfl|exact eLLL rfl|exact eF|exact eGl));(·(first|exact eT rfl|exact eC|exact eG rfl|exact eL rfl|exact eLL rfl|exact eLLL rfl|exact eF|exact eGl));(·rfl);(·(repeat (first|exact Upd.here|apply Upd.there|apply Upd.app)));(·rfl))
    | (apply spl_stores;(·(first|exact eT rfl|exact eC|exact eG rfl|exact eL rfl|exact eLL rfl|exact eLLL rfl|exact eF|exact eGl));(·(first|exact eT rfl|exact eC|exact eG rfl|exact eL rfl|exact eLL rfl|exact eLLL rfl|exact eF|exact eGl));(·(repeat (first|exact Upd.here|apply Upd.there|apply Upd.app)));(·(first|rfl|assumption));(·(first|rfl|assumption));(·(first|exact Ones.one|assumption|exact ones_of_all rfl|decide|(intro v hv;simp at hv;(repeat (rcases hv with rfl | hv <;> first | rfl | skip));try (subst hv;rfl)))))
    | (apply effq;(·(intro h_;(first|(exact absurd h_ (by decide))|(repeat (first|exact HKeep.refl|apply HKeep.keep|(apply HKeep.app;(·(repeat (first|exact Split.here|exact Split.all|apply Split.cons|apply Split.app))))|(apply HKeep.pick;(·(repeat (first|exact Rem.here|apply Rem.there|apply Rem.app))))|apply HKeep.drop (by first|assumption|omega)|apply HKeep.dropA (by assumption)))))))|apply wlk_nil|apply wlk_eff rfl
    | (apply spl_guard_t;(·(first|exact Gd.none|exact Gd.tt rfl rfl|exact Gd.tf rfl rfl|exact Gd.gt rfl rfl|exact Gd.gf rfl rfl));(·rfl))|(apply spl_guard_f;(·(first|exact Gd.none|exact Gd.tt rfl rfl|exact Gd.tf rfl rfl|exact Gd.gt rfl rfl|exact Gd.gf rfl rfl));(·rfl);(·rfl)))
  refine sp_loop (X := Nat × List Tk × Heap) (fun x => [(4, true, .int .i64 (x.1 : Int)), (0, true, .func (.yield l) #[] #[]), (1, true, .pointer (some ⟨g1, 0, none⟩)), (2, true, .pointer (some ⟨g4, 0, none⟩))]) (fun _ => w0) (fun x => x.2.2 ++ TH t g1 g3 g4)
    (fun x => x.1 ≤ t.size ∧ J x.2.1 x.2.2 ∧ lexA t = (x.2.1 ++ (lexN ((tx t).drop x.1) x.1).1, (lexN ((tx t).drop x.1) x.1).2)) (fun x => t.size - x.1) (0, [], H) ⟨Nat.zero_le _, hJ, lexA_N t⟩ (by (repeat (first|exact ESub.nil|apply ESub.cons rfl))) rfl (by (repeat (first|exact HKeep.refl|apply HKeep.keep|(apply HKeep.app;(·(repeat (first|exact Split.here|exact Split.all|apply Split.cons|apply Split.app))))|(apply HKeep.pick;(·(repeat (first|exact Rem.here|apply Rem.there|apply Rem.app))))|apply HKeep.drop (by first|assumption|omega)|apply HKeep.dropA (by assumption)))) ?_
  clear hJ
  rintro ⟨k, pre, H⟩ ⟨hk, hJ, hL⟩
  replace hk : k ≤ t.size := hk
  replace hJ : J pre H := hJ
  replace hL : lexA t = (pre ++ (lexN ((tx t).drop k) k).1, (lexN ((tx t).drop k) k).2) := hL
  dsimp only
  by_cases hlt : k < t.size
  · obtain ⟨c, hb, hd⟩ := drop_at hlt
    cases h1 : isBlank c with
    | true => exact round_blank ht hY0 hk hJ hL hlt hb hd h1
    | false =>
      by_cases h35 : c.toNat = 35
      · exact round_hash ht hY0 hk hJ hL hlt hb hd h35
      · cases hlet : isLetter c with
        | true => exact round_letter ht hY0 hk hJ hL hlt hb hd hlet
        | false =>
          cases hdig : isDigit c with
          | true => exact round_digit ht hY0 hk hJ hL hlt hb hd hdig
          | false =>
            by_cases h34 : c.toNat = 34
            · exact round_quote ht hY0 hk hJ hL hlt hb hd h34
            · cases hsym : isSym c with
              | true => exact round_symbol ht hY0 hk hJ hL hlt hb hd hsym
              | false => exact round_other ht hY0 hk hJ hL hlt hb hd h1 h35 hlet hdig h34 hsym
  · repeat (first
      | apply scope_n
      | apply scope_r
      | apply scope_e
      | apply then_n|apply block_n|apply sp_seq|apply sp_region|apply spl_nil|apply then_r|apply block_r|apply then_e|apply block_here|apply block_past rfl
      | ((first|apply sp_cond_t|apply sp_cond_f);(·(first|exact eT rfl|exact eC|exact eG rfl|exact eL rfl|exact eLL rfl|exact eLLL rfl|exact eF|exact eGl));(·(first|exact decide_eq_true (by omega)|exact decide_eq_false (by omega)|assumption|rfl)))
      | (apply sp_cond_f;(·(first|exact eT rfl|exact eC|exact eG rfl|exact eL rfl|exact eLL rfl|exact eLLL rfl|exact eF|exact eGl));(·(first|exact decide_eq_false (by omega)|assumption|rfl)))
      | apply sp_skip|apply sp_ret|apply sp_exit|apply sp_block
      | ((first|apply spl_pure rfl|apply spq_pure rfl|(apply spl_pure_g rfl;(·(first|exact Gd.none|exact Gd.tt rfl rfl|exact Gd.tf rfl rfl|exact Gd.gt rfl rfl|exact Gd.gf rfl rfl)))|(apply spq_pure_g rfl;(·(first|exact Gd.none|exact Gd.tt rfl rfl|exact Gd.tf rfl rfl|exact Gd.gt rfl rfl|exact Gd.gf rfl rfl)))|apply wlk_read rfl rfl|(apply wlk_read_g rfl rfl;(·(first|exact Gd.none|exact Gd.tt rfl rfl|exact Gd.tf rfl rfl|exact Gd.gt rfl rfl|exact Gd.gf rfl rfl))));(·(first|(apply ex_loadown (v:=.string t);(·(first|exact eT rfl|exact eC|exact eG rfl|exact eL rfl|exact eLL rfl|exact eLLL rfl|exact eF|exact eGl));(·(first|exact Bk.own InH.mem|exact Bk.old (by assumption) (Nat.le_refl _)));(·rfl))|((first|apply ex_move|apply ex_assign|apply ex_fieldAddr'|apply ex_not|apply ex_lss|apply ex_gtr|apply ex_seql|apply ex_sneq|apply ex_len|apply ex_andT)<;>(first|exact eT rfl|exact eC|exact eG rfl|exact eL rfl|exact eLL rfl|exact eLLL rfl|exact eF|exact eGl))|((first|apply ex_fieldAddr|apply ex_eql|apply ex_neq|apply ex_slen|apply ex_orT|apply ex_slss)<;>(first|exact eT rfl|exact eC|exact eG rfl|exact eL rfl|exact eLL rfl|exact eLLL rfl|exact eF|exact eGl))|((first|apply ex_beql|apply ex_bneq|apply ex_and)<;>(first|exact eT rfl|exact eC|exact eG rfl|exact eL rfl|exact eLL rfl|exact eLLL rfl|exact eF|exact eGl))|((first|apply ex_or|apply ex_peql|apply ex_pneq)<;>(first|exact eT rfl|exact eC|exact eG rfl|exact eL rfl|exact eLL rfl|exact eLLL rfl|exact eF|exact eGl))|((first|apply ex_addn|apply ex_subn|apply ex_slice_h)<;>(first|exact eT rfl|exact eC|exact eG rfl|exact eL rfl|exact eLL rfl|exact eLLL rfl|exact eF|exact eGl|(constructor<;>omega)))|((first|apply ex_add|apply ex_sub)<;>(first|exact eT rfl|exact eC|exact eG rfl|exact eL rfl|exact eLL rfl|exact eLLL rfl|exact eF|exact eGl))|((first|apply ex_loadown|apply ex_extract)<;>(first|exact eT rfl|exact eC|exact eG rfl|exact eL rfl|exact eLL rfl|exact eLLL rfl|exact eF|exact eGl|exact Bk.own InH.mem|exact Bk.old (by assumption) (Nat.le_refl _)|rfl|assumption|omega))|(apply ex_loadowns<;>(first|exact eT rfl|exact eC|exact eG rfl|exact eL rfl|exact eLL rfl|exact eLLL rfl|exact eF|exact eGl|exact Bk.own InH.mem|exact Bk.old (by assumption) (Nat.le_refl _)|(first|rfl|assumption)|(constructor<;>omega)))|(apply ex_build<;>(first|((repeat (first|exact eN|(apply eS;(·(first|exact eT rfl|exact eC|exact eG rfl|exact eL rfl|exact eLL rfl|exact eLLL rfl|exact eF|exact eGl)))));done)|rfl))|(apply ex_slice_lh<;>(first|exact eT rfl|exact eC|exact eG rfl|exact eL rfl|exact eLL rfl|exact eLLL rfl|exact eF|exact eGl|rfl|assumption|(refine ⟨?_,?_,?_⟩<;>omega)))|((first|apply ex_sslice_h|apply ex_sslice_l|apply ex_sslice)<;>(first|exact eT rfl|exact eC|exact eG rfl|exact eL rfl|exact eLL rfl|exact eLLL rfl|exact eF|exact eGl|(constructor<;>omega)|(refine ⟨?_,?_,?_⟩<;>omega))))))
      | (apply spl_alloc rfl;intro _ _)
      | (apply spl_store1;(·(first|exact eT rfl|exact eC|exact eG rfl|exact eL rfl|exact eLL rfl|exact eLLL rfl|exact eF|exact eGl));(·(first|exact eT rfl|exact eC|exact eG rfl|exact eL rfl|exact eLL rfl|exact eLLL rfl|exact eF|exact eGl));(·rfl);(·(repeat (first|exact Upd.here|apply Upd.there|apply Upd.app)));(·rfl))
      | (apply spl_stores;(·(first|exact eT rfl|exact eC|exact eG rfl|exact eL rfl|exact eLL rfl|exact eLLL rfl|exact eF|exact eGl));(·(first|exact eT rfl|exact eC|exact eG rfl|exact eL rfl|exact eLL rfl|exact eLLL rfl|exact eF|exact eGl));(·(repeat (first|exact Upd.here|apply Upd.there|apply Upd.app)));(·(first|rfl|assumption));(·(first|rfl|assumption));(·(first|exact Ones.one|assumption|exact ones_of_all rfl|decide|(intro v hv;simp at hv;(repeat (rcases hv with rfl | hv <;> first | rfl | skip));try (subst hv;rfl)))))
      | (apply effq;(·(intro h_;(first|(exact absurd h_ (by decide))|(repeat (first|exact HKeep.refl|apply HKeep.keep|(apply HKeep.app;(·(repeat (first|exact Split.here|exact Split.all|apply Split.cons|apply Split.app))))|(apply HKeep.pick;(·(repeat (first|exact Rem.here|apply Rem.there|apply Rem.app))))|apply HKeep.drop (by first|assumption|omega)|apply HKeep.dropA (by assumption)))))))|apply wlk_nil|apply wlk_eff rfl
      | (apply spl_guard_t;(·(first|exact Gd.none|exact Gd.tt rfl rfl|exact Gd.tf rfl rfl|exact Gd.gt rfl rfl|exact Gd.gf rfl rfl));(·rfl))|(apply spl_guard_f;(·(first|exact Gd.none|exact Gd.tt rfl rfl|exact Gd.tf rfl rfl|exact Gd.gt rfl rfl|exact Gd.gf rfl rfl));(·rfl);(·rfl)))
    have hL2 : lexA t = (pre, none) := by rw [hL, drop_end (by omega), lexN_nil rfl]; simp
    (apply endX_ok rfl;(·(first|(apply Res.ofOne;(first|(apply Res1.tmp;(·rfl))|(apply Res1.cell;(·rfl);(·exact InH.mem);(·(first|rfl|assumption)))|(apply Res1.cell1;(·rfl);(·exact InH.mem);(·rfl))))|(apply Res.ofTwo<;>(first|(apply Res1.tmp;(·rfl))|(apply Res1.cell;(·rfl);(·exact InH.mem);(·(first|rfl|assumption)))|(apply Res1.cell1;(·rfl);(·exact InH.mem);(·rfl))))|(apply Res.ofThree<;>(first|(apply Res1.tmp;(·rfl))|(apply Res1.cell;(·rfl);(·exact InH.mem);(·(first|rfl|assumption)))|(apply Res1.cell1;(·rfl);(·exact InH.mem);(·rfl))))|exact Res.none_)))
    exact ⟨H, rfl, .inl ⟨by rw [hL2]; exact hJ, by rw [hL2]⟩, by (repeat (first|exact HKeep.refl|apply HKeep.keep|(apply HKeep.app;(·(repeat (first|exact Split.here|exact Split.all|apply Split.cons|apply Split.app))))|(apply HKeep.pick;(·(repeat (first|exact Rem.here|apply Rem.there|apply Rem.app))))|apply HKeep.drop (by first|assumption|omega)|apply HKeep.dropA (by assumption)))⟩
end Go.Proofs.Ytildepcgnppcjaa
