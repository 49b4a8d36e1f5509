/-
  Contracts: the lexer's Lex.
-/
import Derived.Test.YtildepcgnppcjaaU1
namespace Go.Proofs.Ytildepcgnppcjaa
open Go.RowKit Go.Sy
set_option linter.unusedVariables false
set_option linter.unusedSimpArgs false
theorem lexR_big {t : ByteArray} (h : 20000 < t.size) : lexR t = ([], 7, -1) := by unfold lexR; rw [if_pos h]
theorem lexR_done {t : ByteArray} (h : ¬ 20000 < t.size) (h2 : (lexA t).1.length ≤ 5000) (h3 : (lexA t).2 = none) : lexR t = ((lexA t).1, 0, 0) := by
  unfold lexR; rw [if_neg h, List.getElem?_eq_none h2, h3]
theorem lexR_err {t : ByteArray} {e a : Nat} (h : ¬ 20000 < t.size) (h2 : (lexA t).1.length ≤ 5000) (h3 : (lexA t).2 = some (e, a)) : lexR t = ([], (e : Int), (a : Int)) := by
  unfold lexR; rw [if_neg h, List.getElem?_eq_none h2, h3]
theorem lexR_lim {t : ByteArray} {tk : Tk} {pre q : List Tk} (h : ¬ 20000 < t.size) (h2 : (lexA t).1 = pre ++ tk :: q) (h3 : pre.length = 5000) : lexR t = ([], 7, (tk.pos : Int)) := by
  unfold lexR; rw [if_neg h, h2, ← h3, List.getElem?_append_right (Nat.le_refl _), Nat.sub_self]
  rfl
theorem HKeep.dropAll {w0 : World} {A : Heap} (h : ∀ p ∈ A, w0.heap.size ≤ p.1) : HKeep w0 [] A := ⟨A, by simp, h⟩
/-- How the loop ended. -/
def lexI (w0 : World) (t : ByteArray) (x : Option (Nat × Nat) × RowS) : Prop := match x.1 with
  | none => LOk w0 x.2 (lexA t).1 ∧ (lexA t).2 = none
  | some p => lexR t = ([], (p.1 : Int), (p.2 : Int))
attribute [local irreducible] Calls thenQ blockQ retQ Spc Spl SplI SpcM Spq Ex Ev Evs Gd Upd ESub HKeep Res Res1 wlk effQ Rem SrcAt Split tabA clsA TH scopeQ markQ rndQ asgQ

set_option maxRecDepth 100000 in
set_option maxHeartbeats 400000 in
theorem lex_c {w : World} (t : ByteArray) (ht : t.size < 1000000) : Calls Try.prog 12 #[.string t] w (RetH w (fun x : RowS => .tuple #[x.val (lexR t).1.length, .int .i64 (lexR t).2.1, .int .i64 (lexR t).2.2]) (fun x => x.hp (flatT (lexR t).1) 31) (fun x => x.ok 3 (lexR t).1.length (flatT (lexR t).1))) := by
  refine sp_enterD (vs := [_]) Try.func12 rfl Try.ntmps12 rfl ?_
  have hlen := tx_len t
  by_cases hbig : 20000 < t.size
  · skip
    repeat (first
      | apply spm_skip
      | apply spm_seq
      | apply spm_region rfl
      | apply spm_block
      | apply spm_skip
      | apply spm_ret
      | apply spm_exit
      | ((first|apply spm_cond_t|apply spm_cond_f);(·(first|exact eT rfl|exact eC|exact eG rfl|exact eL rfl|exact eLL rfl|exact eLLL rfl|exact eF|exact eGl));(·(first|exact decide_eq_true (by omega)|exact decide_eq_false (by omega)|assumption|rfl)))
      | (apply spm_cond_f;(·(first|exact eT rfl|exact eC|exact eG rfl|exact eL rfl|exact eLL rfl|exact eLLL rfl|exact eF|exact eGl));(·(first|exact decide_eq_false (by omega)|assumption|rfl)))
      | apply then_n|apply block_n|apply sp_seq|apply sp_region|apply spl_nil|apply then_r|apply block_r|apply then_e|apply block_here|apply block_past rfl
      | ((first|apply sp_cond_t|apply sp_cond_f);(·(first|exact eT rfl|exact eC|exact eG rfl|exact eL rfl|exact eLL rfl|exact eLLL rfl|exact eF|exact eGl));(·(first|exact decide_eq_true (by omega)|exact decide_eq_false (by omega)|assumption|rfl)))
      | (apply sp_cond_f;(·(first|exact eT rfl|exact eC|exact eG rfl|exact eL rfl|exact eLL rfl|exact eLLL rfl|exact eF|exact eGl));(·(first|exact decide_eq_false (by omega)|assumption|rfl)))
      | apply sp_skip|apply sp_ret|apply sp_exit|apply sp_block
      | ((first|apply spl_pure rfl|apply spq_pure rfl|(apply spl_pure_g rfl;(·(first|exact Gd.none|exact Gd.tt rfl rfl|exact Gd.tf rfl rfl|exact Gd.gt rfl rfl|exact Gd.gf rfl rfl)))|(apply spq_pure_g rfl;(·(first|exact Gd.none|exact Gd.tt rfl rfl|exact Gd.tf rfl rfl|exact Gd.gt rfl rfl|exact Gd.gf rfl rfl)))|apply wlk_read rfl rfl|(apply wlk_read_g rfl rfl;(·(first|exact Gd.none|exact Gd.tt rfl rfl|exact Gd.tf rfl rfl|exact Gd.gt rfl rfl|exact Gd.gf rfl rfl))));(·(first|((first|apply ex_move|apply ex_assign|apply ex_fieldAddr'|apply ex_gtr|apply ex_seql|apply ex_sneq|apply ex_len)<;>(first|exact eT rfl|exact eC|exact eG rfl|exact eL rfl|exact eLL rfl|exact eLLL rfl|exact eF|exact eGl))|((first|apply ex_fieldAddr|apply ex_eql|apply ex_neq|apply ex_slen)<;>(first|exact eT rfl|exact eC|exact eG rfl|exact eL rfl|exact eLL rfl|exact eLLL rfl|exact eF|exact eGl))|((first|apply ex_beql|apply ex_bneq)<;>(first|exact eT rfl|exact eC|exact eG rfl|exact eL rfl|exact eLL rfl|exact eLLL rfl|exact eF|exact eGl))|((first|apply ex_peql|apply ex_pneq)<;>(first|exact eT rfl|exact eC|exact eG rfl|exact eL rfl|exact eLL rfl|exact eLLL rfl|exact eF|exact eGl))|(apply ex_loadown<;>(first|exact eT rfl|exact eC|exact eG rfl|exact eL rfl|exact eLL rfl|exact eLLL rfl|exact eF|exact eGl|exact Bk.own InH.mem|exact Bk.old (by assumption) (Nat.le_refl _)|rfl|assumption|omega))|(apply ex_loadowns<;>(first|exact eT rfl|exact eC|exact eG rfl|exact eL rfl|exact eLL rfl|exact eLLL rfl|exact eF|exact eGl|exact Bk.own InH.mem|exact Bk.old (by assumption) (Nat.le_refl _)|(first|rfl|assumption)|(constructor<;>omega))))))
      | (apply spl_alloc rfl;intro _ _)
      | (apply spl_store1;(·(first|exact eT rfl|exact eC|exact eG rfl|exact eL rfl|exact eLL rfl|exact eLLL rfl|exact eF|exact eGl));(·(first|exact eT rfl|exact eC|exact eG rfl|exact eL rfl|exact eLL rfl|exact eLLL rfl|exact eF|exact eGl));(·rfl);(·(repeat (first|exact Upd.here|apply Upd.there|apply Upd.app)));(·rfl))
      | (apply spl_stores;(·(first|exact eT rfl|exact eC|exact eG rfl|exact eL rfl|exact eLL rfl|exact eLLL rfl|exact eF|exact eGl));(·(first|exact eT rfl|exact eC|exact eG rfl|exact eL rfl|exact eLL rfl|exact eLLL rfl|exact eF|exact eGl));(·(repeat (first|exact Upd.here|apply Upd.there|apply Upd.app)));(·(first|rfl|assumption));(·(first|rfl|assumption));(·(first|exact Ones.one|assumption|exact ones_of_all rfl|decide|(intro v hv;simp at hv;(repeat (rcases hv with rfl | hv <;> first | rfl | skip));try (subst hv;rfl)))))
      | (apply spl_buildSlice rfl;(·rfl);(·(repeat (first|exact eN|(apply eS;(·(first|exact eT rfl|exact eC|exact eG rfl|exact eL rfl|exact eLL rfl|exact eLLL rfl|exact eF|exact eGl))))));(·rfl);(·rfl);(·rfl);intro _ _)
      | (apply effq;(·(intro h_;(first|(exact absurd h_ (by decide))|(repeat (first|exact HKeep.refl|apply HKeep.keep|(apply HKeep.app;(·(repeat (first|exact Split.here|exact Split.all|apply Split.cons|apply Split.app))))|(apply HKeep.pick;(·(repeat (first|exact Rem.here|apply Rem.there|apply Rem.app))))|apply HKeep.drop (by first|assumption|omega)|apply HKeep.dropA (by assumption)))))))|apply wlk_nil|apply wlk_eff rfl)
    refine markH_none rfl (by (first|(apply Res.ofOne;(first|(apply Res1.tmp;(·rfl))|(apply Res1.cell;(·rfl);(·exact InH.mem);(·(first|rfl|assumption)))|(apply Res1.cell1;(·rfl);(·exact InH.mem);(·rfl))))|(apply Res.ofTwo<;>(first|(apply Res1.tmp;(·rfl))|(apply Res1.cell;(·rfl);(·exact InH.mem);(·(first|rfl|assumption)))|(apply Res1.cell1;(·rfl);(·exact InH.mem);(·rfl))))|(apply Res.ofThree<;>(first|(apply Res1.tmp;(·rfl))|(apply Res1.cell;(·rfl);(·exact InH.mem);(·(first|rfl|assumption)))|(apply Res1.cell1;(·rfl);(·exact InH.mem);(·rfl))))|exact Res.none_)) ?_
    rw [lexR_big hbig]
    exact ⟨RowS.start, rfl, ⟨rfl, rfl, rfl⟩, by (repeat (first|exact HKeep.refl|apply HKeep.keep|(apply HKeep.app;(·(repeat (first|exact Split.here|exact Split.all|apply Split.cons|apply Split.app))))|(apply HKeep.pick;(·(repeat (first|exact Rem.here|apply Rem.there|apply Rem.app))))|apply HKeep.drop (by first|assumption|omega)|apply HKeep.dropA (by assumption)))⟩
  · skip
    repeat (first
      | (apply spl_callh rfl;(·(repeat (first|exact eN|(apply eS;(·(first|exact eT rfl|exact eC|exact eG rfl|exact eL rfl|exact eLL rfl|exact eLLL rfl|exact eF|exact eGl))))));(·exact fun w' hh => tokens_c t);(rintro ⟨g1, g3, g4⟩ - hfr))
      | apply spm_seq
      | apply spm_region rfl
      | apply spm_block
      | apply spm_skip
      | apply spm_ret
      | apply spm_exit
      | ((first|apply spm_cond_t|apply spm_cond_f);(·(first|exact eT rfl|exact eC|exact eG rfl|exact eL rfl|exact eLL rfl|exact eLLL rfl|exact eF|exact eGl));(·(first|exact decide_eq_true (by omega)|exact decide_eq_false (by omega)|assumption|rfl)))
      | (apply spm_cond_f;(·(first|exact eT rfl|exact eC|exact eG rfl|exact eL rfl|exact eLL rfl|exact eLLL rfl|exact eF|exact eGl));(·(first|exact decide_eq_false (by omega)|assumption|rfl)))
      | apply then_n|apply block_n|apply sp_seq|apply sp_region|apply spl_nil|apply then_r|apply block_r|apply then_e|apply block_here|apply block_past rfl
      | ((first|apply sp_cond_t|apply sp_cond_f);(·(first|exact eT rfl|exact eC|exact eG rfl|exact eL rfl|exact eLL rfl|exact eLLL rfl|exact eF|exact eGl));(·(first|exact decide_eq_true (by omega)|exact decide_eq_false (by omega)|assumption|rfl)))
      | (apply sp_cond_f;(·(first|exact eT rfl|exact eC|exact eG rfl|exact eL rfl|exact eLL rfl|exact eLLL rfl|exact eF|exact eGl));(·(first|exact decide_eq_false (by omega)|assumption|rfl)))
      | apply sp_skip|apply sp_ret|apply sp_exit|apply sp_block
      | ((first|apply spl_pure rfl|apply spq_pure rfl|(apply spl_pure_g rfl;(·(first|exact Gd.none|exact Gd.tt rfl rfl|exact Gd.tf rfl rfl|exact Gd.gt rfl rfl|exact Gd.gf rfl rfl)))|(apply spq_pure_g rfl;(·(first|exact Gd.none|exact Gd.tt rfl rfl|exact Gd.tf rfl rfl|exact Gd.gt rfl rfl|exact Gd.gf rfl rfl)))|apply wlk_read rfl rfl|(apply wlk_read_g rfl rfl;(·(first|exact Gd.none|exact Gd.tt rfl rfl|exact Gd.tf rfl rfl|exact Gd.gt rfl rfl|exact Gd.gf rfl rfl))));(·(first|((first|apply ex_move|apply ex_assign|apply ex_fieldAddr'|apply ex_gtr|apply ex_seql|apply ex_sneq|apply ex_len)<;>(first|exact eT rfl|exact eC|exact eG rfl|exact eL rfl|exact eLL rfl|exact eLLL rfl|exact eF|exact eGl))|((first|apply ex_fieldAddr|apply ex_eql|apply ex_neq|apply ex_slen)<;>(first|exact eT rfl|exact eC|exact eG rfl|exact eL rfl|exact eLL rfl|exact eLLL rfl|exact eF|exact eGl))|((first|apply ex_beql|apply ex_bneq)<;>(first|exact eT rfl|exact eC|exact eG rfl|exact eL rfl|exact eLL rfl|exact eLLL rfl|exact eF|exact eGl))|((first|apply ex_peql|apply ex_pneq)<;>(first|exact eT rfl|exact eC|exact eG rfl|exact eL rfl|exact eLL rfl|exact eLLL rfl|exact eF|exact eGl))|(apply ex_loadown<;>(first|exact eT rfl|exact eC|exact eG rfl|exact eL rfl|exact eLL rfl|exact eLLL rfl|exact eF|exact eGl|exact Bk.own InH.mem|exact Bk.old (by assumption) (Nat.le_refl _)|rfl|assumption|omega))|(apply ex_loadowns<;>(first|exact eT rfl|exact eC|exact eG rfl|exact eL rfl|exact eLL rfl|exact eLLL rfl|exact eF|exact eGl|exact Bk.own InH.mem|exact Bk.old (by assumption) (Nat.le_refl _)|(first|rfl|assumption)|(constructor<;>omega))))))
      | (apply spl_alloc rfl;intro _ _)
      | (apply spl_store1;(·(first|exact eT rfl|exact eC|exact eG rfl|exact eL rfl|exact eLL rfl|exact eLLL rfl|exact eF|exact eGl));(·(first|exact eT rfl|exact eC|exact eG rfl|exact eL rfl|exact eLL rfl|exact eLLL rfl|exact eF|exact eGl));(·rfl);(·(repeat (first|exact Upd.here|apply Upd.there|apply Upd.app)));(·rfl))
      | (apply spl_stores;(·(first|exact eT rfl|exact eC|exact eG rfl|exact eL rfl|exact eLL rfl|exact eLLL rfl|exact eF|exact eGl));(·(first|exact eT rfl|exact eC|exact eG rfl|exact eL rfl|exact eLL rfl|exact eLLL rfl|exact eF|exact eGl));(·(repeat (first|exact Upd.here|apply Upd.there|apply Upd.app)));(·(first|rfl|assumption));(·(first|rfl|assumption));(·(first|exact Ones.one|assumption|exact ones_of_all rfl|decide|(intro v hv;simp at hv;(repeat (rcases hv with rfl | hv <;> first | rfl | skip));try (subst hv;rfl)))))
      | (apply spl_buildSlice rfl;(·rfl);(·(repeat (first|exact eN|(apply eS;(·(first|exact eT rfl|exact eC|exact eG rfl|exact eL rfl|exact eLL rfl|exact eLLL rfl|exact eF|exact eGl))))));(·rfl);(·rfl);(·rfl);intro _ _)
      | (apply effq;(·(intro h_;(first|(exact absurd h_ (by decide))|(repeat (first|exact HKeep.refl|apply HKeep.keep|(apply HKeep.app;(·(repeat (first|exact Split.here|exact Split.all|apply Split.cons|apply Split.app))))|(apply HKeep.pick;(·(repeat (first|exact Rem.here|apply Rem.there|apply Rem.app))))|apply HKeep.drop (by first|assumption|omega)|apply HKeep.dropA (by assumption)))))))|apply wlk_nil|apply wlk_eff rfl)
    rename_i gA hA gB hB gC hC gO hO
    have hH : HKeep w ((gO, .cells #[.slice none 0 0] 23 (0, 0)) :: (gC, .cells #[.int .i64 0] 3 (0, 0)) :: (gB, .cells #[.int .i64 0] 24 (0, 0)) :: (gA, .cells #[.slice none 0 0] 23 (0, 0)) :: TH t g1 g3 g4) (TH t g1 g3 g4 ++ [(gO, .cells #[.slice none 0 0] 23 (0, 0)), (gC, .cells #[.int .i64 0] 3 (0, 0)), (gB, .cells #[.int .i64 0] 24 (0, 0)), (gA, .cells #[.slice none 0 0] 23 (0, 0))]) :=
      HKeep.perm List.perm_append_comm
    refine SpcM.sub ?_ ESub.refl hH
    refine spm_rangeFunc (gf := 34) (caps := [.pointer (some ⟨g1, 0, none⟩), .pointer (some ⟨g4, 0, none⟩)]) (X := Option (Nat × Nat) × RowS) (V := fun _ => .tuple #[]) (st := fun x => match x.1 with | none => .ready | some _ => .done) (pend := fun x => match x.1 with | none => none | some _ => some .ret)
      (HX := fun x => match x.1 with | none => LB gA gB gC gO x.2 (lexA t).1 ++ TH t g1 g3 g4 | some p => LE gA gB gC p.1 p.2 ++ TH t g1 g3 g4) (I := lexI w t) (by (first|exact eT rfl|exact eC|exact eG rfl|exact eL rfl|exact eLL rfl|exact eLLL rfl|exact eF|exact eGl)) ?_ ?_
    · intro fn tmps l d0 hfr hl hd0 w1 hw1
      have hfr' : Fr 35 (lenv gA gB gC gO) { tmps := tmps, defers := [] } := hfr.sub (by unfold lenv; (repeat (first|exact ESub.nil|apply ESub.cons rfl)))
      obtain ⟨rec, hrec⟩ : ∃ rec : Loop, rec = { state := .ready, pending := none, fn, tmps, params := #[12], assign := (rangeOf Try.f12).1, body := (rangeOf Try.f12).2, defers := d0 } := ⟨_, rfl⟩
      have hst : rec.state = .ready := by rw [hrec]
      have hps : rec.params = #[12] := by rw [hrec]
      have htm : rec.tmps = tmps := by rw [hrec]
      have has : rec.assign = (rangeOf Try.f12).1 := by rw [hrec]
      have hY : Yld w.heap.size w l t (fun pre x => ∃ r, LOk w r pre ∧ x = (l, .loop rec) :: (d0, .deferred (some [])) :: LB gA gB gC gO r pre) (fun pre tk x => pre.length = 5000 ∧ x = (l, .loop { rec with state := .done, pending := some .ret }) :: (d0, .deferred (some [])) :: LE gA gB gC 7 tk.pos)
          (fun e a x => (lexA t).1.length ≤ 5000 ∧ x = (l, .loop { rec with state := .done, pending := some .ret }) :: (d0, .deferred (some [])) :: LE gA gB gC e a) := by
        refine ⟨fun pre tk H R hJ _ w' hw' => ?_, fun pre k s a e H R hJ hL he w' hw' => ?_⟩
        · obtain ⟨r, hr, rfl⟩ := hJ
          have h1 := lex_roundT (Be := w.heap.size) (l := l) (d0 := d0) (tk := tk) (R := R) hA hB hC hO hr hrec
          rw [← has] at h1
          exact yield_round hst hps (by rw [htm]; exact hfr') rfl h1 w' hw'
        · obtain ⟨r, hr, rfl⟩ := hJ
          have h1 := lex_roundE (Be := w.heap.size) (l := l) (d0 := d0) (k := k) (a := a) (s := s) (R := R) he hA hB hC hO hr hrec
          rw [← has] at h1
          have hpre : (lexA t).1 = pre := by rw [hL]
          have h2 := yield_round hst hps (by rw [htm]; exact hfr') rfl h1 w' hw'
          obtain ⟨fn', tmps', as', bo', h3, h4⟩ := h2
          refine ⟨fn', tmps', as', bo', h3, h4.mono ?_⟩
          rintro en w2 ⟨x, hx, hI, hp⟩
          exact ⟨x, hx, ⟨by rw [hpre]; exact hr.2.2, hI⟩, hp⟩
      have hc := tokens2_c (g1 := g1) (g3 := g3) (g4 := g4) (H := (l, .loop rec) :: (d0, .deferred (some [])) :: LB gA gB gC gO RowS.start []) (by omega) hY ⟨RowS.start, LOk.start, rfl⟩ (w := w1) (by rw [hrec]; exact hw1)
      refine hc.mono ?_
      rintro en w2 ⟨x, rfl, hI, hp⟩
      rcases hI with ⟨⟨r, hr, rfl⟩, hn⟩ | ⟨pre, tk, q, hq, h5, rfl⟩ | ⟨e, a, hea, h5, rfl⟩
      · refine ⟨(none, r), rfl, ⟨hr, hn⟩, ?_⟩
        rw [hrec] at hp
        exact hp
      · refine ⟨(some (7, tk.pos), RowS.start), rfl, lexR_lim hbig hq h5, ?_⟩
        rw [hrec] at hp
        exact hp
      · refine ⟨(some (e, a), RowS.start), rfl, lexR_err hbig h5 hea, ?_⟩
        rw [hrec] at hp
        exact hp
    · rintro d0 ⟨o, r⟩ hI hd0
      cases o with
      | none =>
        obtain ⟨⟨hok, hrf, hle⟩, hn⟩ := hI
        refine ⟨by simp, ?_⟩
        have hR := lexR_done hbig hle hn
        dsimp only
        rcases r with ⟨_ | g, cap, tl⟩
        · rw [LB_n]
          repeat (first
            | apply then_n
            | apply spm_seq
            | apply spm_region rfl
            | apply spm_block
            | apply spm_skip
            | apply spm_ret
            | apply spm_exit
            | ((first|apply spm_cond_t|apply spm_cond_f);(·(first|exact eT rfl|exact eC|exact eG rfl|exact eL rfl|exact eLL rfl|exact eLLL rfl|exact eF|exact eGl));(·(first|exact decide_eq_true (by omega)|exact decide_eq_false (by omega)|assumption|rfl)))
            | (apply spm_cond_f;(·(first|exact eT rfl|exact eC|exact eG rfl|exact eL rfl|exact eLL rfl|exact eLLL rfl|exact eF|exact eGl));(·(first|exact decide_eq_false (by omega)|assumption|rfl)))
            | apply then_n|apply block_n|apply sp_seq|apply sp_region|apply spl_nil|apply then_r|apply block_r|apply then_e|apply block_here|apply block_past rfl
            | ((first|apply sp_cond_t|apply sp_cond_f);(·(first|exact eT rfl|exact eC|exact eG rfl|exact eL rfl|exact eLL rfl|exact eLLL rfl|exact eF|exact eGl));(·(first|exact decide_eq_true (by omega)|exact decide_eq_false (by omega)|assumption|rfl)))
            | (apply sp_cond_f;(·(first|exact eT rfl|exact eC|exact eG rfl|exact eL rfl|exact eLL rfl|exact eLLL rfl|exact eF|exact eGl));(·(first|exact decide_eq_false (by omega)|assumption|rfl)))
            | apply sp_skip|apply sp_ret|apply sp_exit|apply sp_block
            | ((first|apply spl_pure rfl|apply spq_pure rfl|(apply spl_pure_g rfl;(·(first|exact Gd.none|exact Gd.tt rfl rfl|exact Gd.tf rfl rfl|exact Gd.gt rfl rfl|exact Gd.gf rfl rfl)))|(apply spq_pure_g rfl;(·(first|exact Gd.none|exact Gd.tt rfl rfl|exact Gd.tf rfl rfl|exact Gd.gt rfl rfl|exact Gd.gf rfl rfl)))|apply wlk_read rfl rfl|(apply wlk_read_g rfl rfl;(·(first|exact Gd.none|exact Gd.tt rfl rfl|exact Gd.tf rfl rfl|exact Gd.gt rfl rfl|exact Gd.gf rfl rfl))));(·(first|((first|apply ex_move|apply ex_assign|apply ex_fieldAddr'|apply ex_gtr|apply ex_seql|apply ex_sneq|apply ex_len)<;>(first|exact eT rfl|exact eC|exact eG rfl|exact eL rfl|exact eLL rfl|exact eLLL rfl|exact eF|exact eGl))|((first|apply ex_fieldAddr|apply ex_eql|apply ex_neq|apply ex_slen)<;>(first|exact eT rfl|exact eC|exact eG rfl|exact eL rfl|exact eLL rfl|exact eLLL rfl|exact eF|exact eGl))|((first|apply ex_beql|apply ex_bneq)<;>(first|exact eT rfl|exact eC|exact eG rfl|exact eL rfl|exact eLL rfl|exact eLLL rfl|exact eF|exact eGl))|((first|apply ex_peql|apply ex_pneq)<;>(first|exact eT rfl|exact eC|exact eG rfl|exact eL rfl|exact eLL rfl|exact eLLL rfl|exact eF|exact eGl))|(apply ex_loadown<;>(first|exact eT rfl|exact eC|exact eG rfl|exact eL rfl|exact eLL rfl|exact eLLL rfl|exact eF|exact eGl|exact Bk.own InH.mem|exact Bk.old (by assumption) (Nat.le_refl _)|rfl|assumption|omega))|(apply ex_loadowns<;>(first|exact eT rfl|exact eC|exact eG rfl|exact eL rfl|exact eLL rfl|exact eLLL rfl|exact eF|exact eGl|exact Bk.own InH.mem|exact Bk.old (by assumption) (Nat.le_refl _)|(first|rfl|assumption)|(constructor<;>omega))))))
            | (apply spl_alloc rfl;intro _ _)
            | (apply spl_store1;(·(first|exact eT rfl|exact eC|exact eG rfl|exact eL rfl|exact eLL rfl|exact eLLL rfl|exact eF|exact eGl));(·(first|exact eT rfl|exact eC|exact eG rfl|exact eL rfl|exact eLL rfl|exact eLLL rfl|exact eF|exact eGl));(·rfl);(·(repeat (first|exact Upd.here|apply Upd.there|apply Upd.app)));(·rfl))
            | (apply spl_stores;(·(first|exact eT rfl|exact eC|exact eG rfl|exact eL rfl|exact eLL rfl|exact eLLL rfl|exact eF|exact eGl));(·(first|exact eT rfl|exact eC|exact eG rfl|exact eL rfl|exact eLL rfl|exact eLLL rfl|exact eF|exact eGl));(·(repeat (first|exact Upd.here|apply Upd.there|apply Upd.app)));(·(first|rfl|assumption));(·(first|rfl|assumption));(·(first|exact Ones.one|assumption|exact ones_of_all rfl|decide|(intro v hv;simp at hv;(repeat (rcases hv with rfl | hv <;> first | rfl | skip));try (subst hv;rfl)))))
            | (apply spl_buildSlice rfl;(·rfl);(·(repeat (first|exact eN|(apply eS;(·(first|exact eT rfl|exact eC|exact eG rfl|exact eL rfl|exact eLL rfl|exact eLLL rfl|exact eF|exact eGl))))));(·rfl);(·rfl);(·rfl);intro _ _)
            | (apply effq;(·(intro h_;(first|(exact absurd h_ (by decide))|(repeat (first|exact HKeep.refl|apply HKeep.keep|(apply HKeep.app;(·(repeat (first|exact Split.here|exact Split.all|apply Split.cons|apply Split.app))))|(apply HKeep.pick;(·(repeat (first|exact Rem.here|apply Rem.there|apply Rem.app))))|apply HKeep.drop (by first|assumption|omega)|apply HKeep.dropA (by assumption)))))))|apply wlk_nil|apply wlk_eff rfl)
          refine markH_one rfl Upd.here (by (first|(apply Res.ofOne;(first|(apply Res1.tmp;(·rfl))|(apply Res1.cell;(·rfl);(·exact InH.mem);(·(first|rfl|assumption)))|(apply Res1.cell1;(·rfl);(·exact InH.mem);(·rfl))))|(apply Res.ofTwo<;>(first|(apply Res1.tmp;(·rfl))|(apply Res1.cell;(·rfl);(·exact InH.mem);(·(first|rfl|assumption)))|(apply Res1.cell1;(·rfl);(·exact InH.mem);(·rfl))))|(apply Res.ofThree<;>(first|(apply Res1.tmp;(·rfl))|(apply Res1.cell;(·rfl);(·exact InH.mem);(·(first|rfl|assumption)))|(apply Res1.cell1;(·rfl);(·exact InH.mem);(·rfl))))|exact Res.none_)) ?_
          rw [hR]
          exact ⟨⟨none, cap, tl⟩, rfl, hok, HKeep.drop hd0 (HKeep.drop hO (HKeep.drop hC (HKeep.drop hB (HKeep.drop hA (HKeep.dropAll hfr)))))⟩
        · rw [LB_s]
          repeat (first
            | apply then_n
            | apply spm_seq
            | apply spm_region rfl
            | apply spm_block
            | apply spm_skip
            | apply spm_ret
            | apply spm_exit
            | ((first|apply spm_cond_t|apply spm_cond_f);(·(first|exact eT rfl|exact eC|exact eG rfl|exact eL rfl|exact eLL rfl|exact eLLL rfl|exact eF|exact eGl));(·(first|exact decide_eq_true (by omega)|exact decide_eq_false (by omega)|assumption|rfl)))
            | (apply spm_cond_f;(·(first|exact eT rfl|exact eC|exact eG rfl|exact eL rfl|exact eLL rfl|exact eLLL rfl|exact eF|exact eGl));(·(first|exact decide_eq_false (by omega)|assumption|rfl)))
            | apply then_n|apply block_n|apply sp_seq|apply sp_region|apply spl_nil|apply then_r|apply block_r|apply then_e|apply block_here|apply block_past rfl
            | ((first|apply sp_cond_t|apply sp_cond_f);(·(first|exact eT rfl|exact eC|exact eG rfl|exact eL rfl|exact eLL rfl|exact eLLL rfl|exact eF|exact eGl));(·(first|exact decide_eq_true (by omega)|exact decide_eq_false (by omega)|assumption|rfl)))
            | (apply sp_cond_f;(·(first|exact eT rfl|exact eC|exact eG rfl|exact eL rfl|exact eLL rfl|exact eLLL rfl|exact eF|exact eGl));(·(first|exact decide_eq_false (by omega)|assumption|rfl)))
            | apply sp_skip|apply sp_ret|apply sp_exit|apply sp_block
            | ((first|apply spl_pure rfl|apply spq_pure rfl|(apply spl_pure_g rfl;(·(first|exact Gd.none|exact Gd.tt rfl rfl|exact Gd.tf rfl rfl|exact Gd.gt rfl rfl|exact Gd.gf rfl rfl)))|(apply spq_pure_g rfl;(·(first|exact Gd.none|exact Gd.tt rfl rfl|exact Gd.tf rfl rfl|exact Gd.gt rfl rfl|exact Gd.gf rfl rfl)))|apply wlk_read rfl rfl|(apply wlk_read_g rfl rfl;(·(first|exact Gd.none|exact Gd.tt rfl rfl|exact Gd.tf rfl rfl|exact Gd.gt rfl rfl|exact Gd.gf rfl rfl))));(·(first|((first|apply ex_move|apply ex_assign|apply ex_fieldAddr'|apply ex_gtr|apply ex_seql|apply ex_sneq|apply ex_len)<;>(first|exact eT rfl|exact eC|exact eG rfl|exact eL rfl|exact eLL rfl|exact eLLL rfl|exact eF|exact eGl))|((first|apply ex_fieldAddr|apply ex_eql|apply ex_neq|apply ex_slen)<;>(first|exact eT rfl|exact eC|exact eG rfl|exact eL rfl|exact eLL rfl|exact eLLL rfl|exact eF|exact eGl))|((first|apply ex_beql|apply ex_bneq)<;>(first|exact eT rfl|exact eC|exact eG rfl|exact eL rfl|exact eLL rfl|exact eLLL rfl|exact eF|exact eGl))|((first|apply ex_peql|apply ex_pneq)<;>(first|exact eT rfl|exact eC|exact eG rfl|exact eL rfl|exact eLL rfl|exact eLLL rfl|exact eF|exact eGl))|(apply ex_loadown<;>(first|exact eT rfl|exact eC|exact eG rfl|exact eL rfl|exact eLL rfl|exact eLLL rfl|exact eF|exact eGl|exact Bk.own InH.mem|exact Bk.old (by assumption) (Nat.le_refl _)|rfl|assumption|omega))|(apply ex_loadowns<;>(first|exact eT rfl|exact eC|exact eG rfl|exact eL rfl|exact eLL rfl|exact eLLL rfl|exact eF|exact eGl|exact Bk.own InH.mem|exact Bk.old (by assumption) (Nat.le_refl _)|(first|rfl|assumption)|(constructor<;>omega))))))
            | (apply spl_alloc rfl;intro _ _)
            | (apply spl_store1;(·(first|exact eT rfl|exact eC|exact eG rfl|exact eL rfl|exact eLL rfl|exact eLLL rfl|exact eF|exact eGl));(·(first|exact eT rfl|exact eC|exact eG rfl|exact eL rfl|exact eLL rfl|exact eLLL rfl|exact eF|exact eGl));(·rfl);(·(repeat (first|exact Upd.here|apply Upd.there|apply Upd.app)));(·rfl))
            | (apply spl_stores;(·(first|exact eT rfl|exact eC|exact eG rfl|exact eL rfl|exact eLL rfl|exact eLLL rfl|exact eF|exact eGl));(·(first|exact eT rfl|exact eC|exact eG rfl|exact eL rfl|exact eLL rfl|exact eLLL rfl|exact eF|exact eGl));(·(repeat (first|exact Upd.here|apply Upd.there|apply Upd.app)));(·(first|rfl|assumption));(·(first|rfl|assumption));(·(first|exact Ones.one|assumption|exact ones_of_all rfl|decide|(intro v hv;simp at hv;(repeat (rcases hv with rfl | hv <;> first | rfl | skip));try (subst hv;rfl)))))
            | (apply spl_buildSlice rfl;(·rfl);(·(repeat (first|exact eN|(apply eS;(·(first|exact eT rfl|exact eC|exact eG rfl|exact eL rfl|exact eLL rfl|exact eLLL rfl|exact eF|exact eGl))))));(·rfl);(·rfl);(·rfl);intro _ _)
            | (apply effq;(·(intro h_;(first|(exact absurd h_ (by decide))|(repeat (first|exact HKeep.refl|apply HKeep.keep|(apply HKeep.app;(·(repeat (first|exact Split.here|exact Split.all|apply Split.cons|apply Split.app))))|(apply HKeep.pick;(·(repeat (first|exact Rem.here|apply Rem.there|apply Rem.app))))|apply HKeep.drop (by first|assumption|omega)|apply HKeep.dropA (by assumption)))))))|apply wlk_nil|apply wlk_eff rfl)
          refine markH_one rfl Upd.here (by (first|(apply Res.ofOne;(first|(apply Res1.tmp;(·rfl))|(apply Res1.cell;(·rfl);(·exact InH.mem);(·(first|rfl|assumption)))|(apply Res1.cell1;(·rfl);(·exact InH.mem);(·rfl))))|(apply Res.ofTwo<;>(first|(apply Res1.tmp;(·rfl))|(apply Res1.cell;(·rfl);(·exact InH.mem);(·(first|rfl|assumption)))|(apply Res1.cell1;(·rfl);(·exact InH.mem);(·rfl))))|(apply Res.ofThree<;>(first|(apply Res1.tmp;(·rfl))|(apply Res1.cell;(·rfl);(·exact InH.mem);(·(first|rfl|assumption)))|(apply Res1.cell1;(·rfl);(·exact InH.mem);(·rfl))))|exact Res.none_)) ?_
          rw [hR]
          exact ⟨⟨some g, cap, tl⟩, rfl, hok, HKeep.drop hd0 (HKeep.drop hO (HKeep.keep (HKeep.drop hC (HKeep.drop hB (HKeep.drop hA (HKeep.dropAll hfr))))))⟩
      | some p =>
        refine ⟨by simp, ?_⟩
        have hR : lexR t = ([], (p.1 : Int), (p.2 : Int)) := hI
        dsimp only
        rw [LE_e]
        repeat (first
          | apply then_n
          | apply spm_seq
          | apply spm_region rfl
          | apply spm_block
          | apply spm_skip
          | apply spm_ret
          | apply spm_exit
          | ((first|apply spm_cond_t|apply spm_cond_f);(·(first|exact eT rfl|exact eC|exact eG rfl|exact eL rfl|exact eLL rfl|exact eLLL rfl|exact eF|exact eGl));(·(first|exact decide_eq_true (by omega)|exact decide_eq_false (by omega)|assumption|rfl)))
          | (apply spm_cond_f;(·(first|exact eT rfl|exact eC|exact eG rfl|exact eL rfl|exact eLL rfl|exact eLLL rfl|exact eF|exact eGl));(·(first|exact decide_eq_false (by omega)|assumption|rfl)))
          | apply then_n|apply block_n|apply sp_seq|apply sp_region|apply spl_nil|apply then_r|apply block_r|apply then_e|apply block_here|apply block_past rfl
          | ((first|apply sp_cond_t|apply sp_cond_f);(·(first|exact eT rfl|exact eC|exact eG rfl|exact eL rfl|exact eLL rfl|exact eLLL rfl|exact eF|exact eGl));(·(first|exact decide_eq_true (by omega)|exact decide_eq_false (by omega)|assumption|rfl)))
          | (apply sp_cond_f;(·(first|exact eT rfl|exact eC|exact eG rfl|exact eL rfl|exact eLL rfl|exact eLLL rfl|exact eF|exact eGl));(·(first|exact decide_eq_false (by omega)|assumption|rfl)))
          | apply sp_skip|apply sp_ret|apply sp_exit|apply sp_block
          | ((first|apply spl_pure rfl|apply spq_pure rfl|(apply spl_pure_g rfl;(·(first|exact Gd.none|exact Gd.tt rfl rfl|exact Gd.tf rfl rfl|exact Gd.gt rfl rfl|exact Gd.gf rfl rfl)))|(apply spq_pure_g rfl;(·(first|exact Gd.none|exact Gd.tt rfl rfl|exact Gd.tf rfl rfl|exact Gd.gt rfl rfl|exact Gd.gf rfl rfl)))|apply wlk_read rfl rfl|(apply wlk_read_g rfl rfl;(·(first|exact Gd.none|exact Gd.tt rfl rfl|exact Gd.tf rfl rfl|exact Gd.gt rfl rfl|exact Gd.gf rfl rfl))));(·(first|((first|apply ex_move|apply ex_assign|apply ex_fieldAddr'|apply ex_gtr|apply ex_seql|apply ex_sneq|apply ex_len)<;>(first|exact eT rfl|exact eC|exact eG rfl|exact eL rfl|exact eLL rfl|exact eLLL rfl|exact eF|exact eGl))|((first|apply ex_fieldAddr|apply ex_eql|apply ex_neq|apply ex_slen)<;>(first|exact eT rfl|exact eC|exact eG rfl|exact eL rfl|exact eLL rfl|exact eLLL rfl|exact eF|exact eGl))|((first|apply ex_beql|apply ex_bneq)<;>(first|exact eT rfl|exact eC|exact eG rfl|exact eL rfl|exact eLL rfl|exact eLLL rfl|exact eF|exact eGl))|((first|apply ex_peql|apply ex_pneq)<;>(first|exact eT rfl|exact eC|exact eG rfl|exact eL rfl|exact eLL rfl|exact eLLL rfl|exact eF|exact eGl))|(apply ex_loadown<;>(first|exact eT rfl|exact eC|exact eG rfl|exact eL rfl|exact eLL rfl|exact eLLL rfl|exact eF|exact eGl|exact Bk.own InH.mem|exact Bk.old (by assumption) (Nat.le_refl _)|rfl|assumption|omega))|(apply ex_loadowns<;>(first|exact eT rfl|exact eC|exact eG rfl|exact eL rfl|exact eLL rfl|exact eLLL rfl|exact eF|exact eGl|exact Bk.own InH.mem|exact Bk.old (by assumption) (Nat.le_refl _)|(first|rfl|assumption)|(constructor<;>omega))))))
          | (apply spl_alloc rfl;intro _ _)
          | (apply spl_store1;(·(first|exact eT rfl|exact eC|exact eG rfl|exact eL rfl|exact eLL rfl|exact eLLL rfl|exact eF|exact eGl));(·(first|exact eT rfl|exact eC|exact eG rfl|exact eL rfl|exact eLL rfl|exact eLLL rfl|exact eF|exact eGl));(·rfl);(·(repeat (first|exact Upd.here|apply Upd.there|apply Upd.app)));(·rfl))
          | (apply spl_stores;(·(first|exact eT rfl|exact eC|exact eG rfl|exact eL rfl|exact eLL rfl|exact eLLL rfl|exact eF|exact eGl));(·(first|exact eT rfl|exact eC|exact eG rfl|exact eL rfl|exact eLL rfl|exact eLLL rfl|exact eF|exact eGl));(·(repeat (first|exact Upd.here|apply Upd.there|apply Upd.app)));(·(first|rfl|assumption));(·(first|rfl|assumption));(·(first|exact Ones.one|assumption|exact ones_of_all rfl|decide|(intro v hv;simp at hv;(repeat (rcases hv with rfl | hv <;> first | rfl | skip));try (subst hv;rfl)))))
          | (apply spl_buildSlice rfl;(·rfl);(·(repeat (first|exact eN|(apply eS;(·(first|exact eT rfl|exact eC|exact eG rfl|exact eL rfl|exact eLL rfl|exact eLLL rfl|exact eF|exact eGl))))));(·rfl);(·rfl);(·rfl);intro _ _)
          | (apply effq;(·(intro h_;(first|(exact absurd h_ (by decide))|(repeat (first|exact HKeep.refl|apply HKeep.keep|(apply HKeep.app;(·(repeat (first|exact Split.here|exact Split.all|apply Split.cons|apply Split.app))))|(apply HKeep.pick;(·(repeat (first|exact Rem.here|apply Rem.there|apply Rem.app))))|apply HKeep.drop (by first|assumption|omega)|apply HKeep.dropA (by assumption)))))))|apply wlk_nil|apply wlk_eff rfl)
        refine markH_one rfl Upd.here (by (first|(apply Res.ofOne;(first|(apply Res1.tmp;(·rfl))|(apply Res1.cell;(·rfl);(·exact InH.mem);(·(first|rfl|assumption)))|(apply Res1.cell1;(·rfl);(·exact InH.mem);(·rfl))))|(apply Res.ofTwo<;>(first|(apply Res1.tmp;(·rfl))|(apply Res1.cell;(·rfl);(·exact InH.mem);(·(first|rfl|assumption)))|(apply Res1.cell1;(·rfl);(·exact InH.mem);(·rfl))))|(apply Res.ofThree<;>(first|(apply Res1.tmp;(·rfl))|(apply Res1.cell;(·rfl);(·exact InH.mem);(·(first|rfl|assumption)))|(apply Res1.cell1;(·rfl);(·exact InH.mem);(·rfl))))|exact Res.none_)) ?_
        rw [hR]
        exact ⟨RowS.start, rfl, ⟨rfl, rfl, rfl⟩, HKeep.drop hd0 (HKeep.drop hC (HKeep.drop hB (HKeep.drop hA (HKeep.dropAll hfr))))⟩
end Go.Proofs.Ytildepcgnppcjaa
