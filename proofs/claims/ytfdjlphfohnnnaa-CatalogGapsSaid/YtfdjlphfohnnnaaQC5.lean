/-
  CatalogGaps, walked.
-/
import Derived.Test.YtfdjlphfohnnnaaQC4
namespace Go.Proofs.Ytfdjlphfohnnnaa
open Go.RowKit Go.Sy
set_option linter.unusedVariables false
set_option linter.unusedSimpArgs false
theorem parse_norm {t : ByteArray} {ps : List PKind} {e a : Int} {ks : List KindR} (h : parseR t = (ps, e, a)) (hk : ks.map KindR.pure = ps) : NormK ks := by
  by_cases he : e = 0
  · subst he
    exact NormK.ofV (by rw [hk]; exact (parseR_v h).1)
  · obtain ⟨rfl, -⟩ := parseR_e h he
    have : ks = [] := List.map_eq_nil_iff.1 hk
    subst this
    intro k hk; cases hk
theorem same_e {w : World} {a b : Sl} {xs ys : List KindR} {v : Bool} (hv : sameC xs ys = v) (h : RdKinds w w.heap.size a xs) (h' : RdKinds w w.heap.size b ys) :
    Calls Try.prog 17 #[.agg #[.slice a.a a.n a.c], .agg #[.slice b.a b.n b.c]] w (Ret w (.bool v)) := by
  have := Same_c (A := a.a) (n := a.n) (c := a.c) (B := b.a) (m := b.n) (d := b.c) h h'
  rwa [hv] at this
attribute [local irreducible] Calls thenQ blockQ retQ retFQ Spc Spl Spq Ex Ev Evs Gd Upd ESub HKeep Res Res1 wlk effQ Rem SrcAt Split lexR parseR sameC wr2 quoteL
set_option maxRecDepth 100000 in
set_option maxHeartbeats 8000000 in
theorem lawGaps {w : World} (t : ByteArray) (htz : t.size < 9223372036854775808) : Calls Try.prog 8 #[.string t] w (Ret w (.bool true)) := by
  refine sp_enter (vs := [_]) Try.func8 rfl Try.ntmps8 rfl ?_
  by_cases hbig : (3000 : Int) < (t.size : Int)
  ·
    repeat (first|(apply spl_callp rfl;(·(repeat (exact eN)));(·exact fun w' hh => head_c))|(apply sp_cond_t;(·exact eT rfl);(·exact decide_eq_true hbig))|apply then_n|apply sp_seq|apply sp_region|apply spl_nil|apply then_r|apply sp_ret|((apply spl_pure rfl);(·(first|((first|apply ex_move|apply ex_assign|apply ex_gtr)<;>(first|exact eT rfl|exact eC))|((apply ex_slen)<;>(exact eT rfl))))))
    (apply ret_ok rfl;(·((apply Res.ofOne;((apply Res1.tmp;(·rfl))))))); rfl
  have ht : t.size ≤ 3000 := by omega
  obtain ⟨L, E, AT, hR⟩ : ∃ L E AT, lexR t = (L, E, AT) := ⟨_, _, _, rfl⟩
  have hlx := fun w' => lex_e (w := w') hR (by omega)
  by_cases hE : E = 0
  · subst hE
    have hlaw := gaps_law ht (by rw [hR])
    rw [hR] at hlaw
    dsimp only at hlaw
    obtain ⟨g0, g1, g2, g3⟩ := hlaw
    have hL : L.length ≤ 5000 := by have := lexR_cnt t; rw [hR] at this; exact this
    have hpos : ∀ x ∈ L, (writT x).length ≤ 3000 := by
      obtain ⟨q1, q2, q3⟩ := lexR_ok (t := t) (by rw [hR])
      have := lexR_of q1 q2 q3
      rw [hR] at this
      cases this
      intro x hx
      have := (lexN_pos _ _ x hx).2
      rw [tx_len] at this
      omega
    repeat (first|(apply spl_callp rfl;(·(repeat (first|exact eN|(apply eS;(·exact eT rfl)))));(·exact fun w' hh => head_c))|(apply sp_cond_f;(·exact eT rfl);(·exact decide_eq_false hbig))|(apply sp_cond_f;(·exact eT rfl);(·rfl))|(apply spl_callh (X:=RowS) rfl;(·(repeat (first|exact eN|(apply eS;(·exact eT rfl)))));(·exact fun w' hh => hlx w');(rintro x hx hfx))|apply then_n|apply sp_seq|apply sp_region|apply spl_nil|apply sp_skip|apply sp_block|((apply spl_pure rfl);(·(first|((first|apply ex_move|apply ex_assign|apply ex_gtr|apply ex_sneq)<;>(first|exact eT rfl|exact eC))|((first|apply ex_neq|apply ex_slen)<;>(first|exact eT rfl|exact eC))|((apply ex_extract)<;>(first|exact eT rfl|rfl))))))
    have hfx' : ∀ p ∈ x.hp (flatT L) 53, w.heap.size ≤ p.1 := hfx
    have hpre : ∀ i, (wr2 (L.take i)).length ≤ 9000 := fun i => by
      have h1 : wr2 L = wr2 (L.take i) ++ wr2 (L.drop i) := by
        unfold wr2
        rw [← List.flatMap_append, List.take_append_drop]
      rw [h1, List.length_append] at g1
      omega
    have hw0 : ofL (wr2 (L.take 0)) = ⟨#[]⟩ := by rw [List.take_zero]; unfold wr2; rfl
    refine sp_loop (X := Nat) (fun i => [(11, true, .int .i64 (i : Int)), (10, true, .string (ofL (wr2 (L.take i)))), (4, true, x.val L.length), (3, true, .bool true), (0, true, .string t)]) (fun _ => w) (fun _ => x.hp (flatT L) 53 ++ []) (fun i => i ≤ L.length) (fun i => L.length - i) 0 (Nat.zero_le _) (by rw [hw0]; (repeat (first|exact ESub.nil|apply ESub.cons rfl))) rfl (by (repeat (exact HKeep.refl))) ?_
    intro i hi
    by_cases hlt : i < L.length
    · rcases x with ⟨_ | g, cap, tail⟩
      · obtain ⟨h1, -⟩ := hx; omega
      have htk : L[i]? = some L[i] := List.getElem?_eq_getElem hlt
      generalize L[i] = tk at htk
      have hmem := List.mem_of_getElem? htk
      have hwp := hpos tk hmem
      have hTr : ∀ w', Hp w.heap.size w (RowS.hp ⟨some g, cap, tail⟩ (flatT L) 53 ++ []) w' → RdS w' w'.heap.size 3 tkC (some ⟨g, 0, none⟩) L.length L := fun w' hh =>
        RdS.ofRowW (r := ⟨some g, cap, tail⟩) (xs := L) (T := 53) (fun p hp => hh.own p (List.mem_append.2 (.inl hp))) rfl (by omega) (fun _ _ => rfl) hx
      have hz1 : (ofL (wr2 (L.take i))).size ≤ 1000000000 := by rw [size_ofL]; have := hpre i; omega
      have hsucc : wr2 (L.take (i + 1)) = wr2 (L.take i) ++ (writT tk ++ [10, 32]) := by unfold wr2; rw [take_succ htk, List.flatMap_append]; simp
      have hb := hpre i
      by_cases hk : (tk.kind : Int) = 3
      · have hk' : tk.kind = 3 := by omega
        have hwr : writT tk = quoteL (tx tk.text) := by unfold writT writ; rw [if_pos hk']
        rw [hwr] at hwp hsucc
        have hq := quoteL_len (tx tk.text)
        have htsz : tk.text.size < 10000000 := by
          have h5 : tk.text.size ≤ (quoteL (tx tk.text)).length := by
            unfold quoteL
            simp only [List.length_cons, List.length_append, List.length_nil]
            have h6 : ∀ l : List UInt8, l.length ≤ (l.flatMap escB).length := by
              intro l
              induction l with
              | nil => simp
              | cons c r ih =>
                rw [List.flatMap_cons, List.length_append, List.length_cons]
                have : 1 ≤ (escB c).length := by unfold escB; split <;> (try split) <;> simp
                omega
            have := h6 (tx tk.text)
            rw [tx_len] at this
            omega
          omega
        have hz2 : (ofL (quoteL (tx tk.text))).size ≤ 1000000000 := by rw [size_ofL]; omega
        have hz3 : (ofL (wr2 (L.take i)) ++ ofL (quoteL (tx tk.text))).size ≤ 1000000000 := by rw [ByteArray.size_append, size_ofL, size_ofL]; omega
        have hst : (ofL (wr2 (L.take i)) ++ ofL (quoteL (tx tk.text))) ++ ⟨#[10, 32]⟩ = ofL (wr2 (L.take (i + 1))) := by
          apply tx_inj
          rw [hsucc, tx_ofL, tx_append, tx_append, tx_ofL, tx_ofL, List.append_assoc]
          rfl
        repeat (first|(apply sp_cond_t;(·exact eT rfl);(·exact decide_eq_true hk))|(apply spl_callp rfl;(·(repeat (first|exact eN|(apply eS;(·exact eT rfl)))));(·exact fun w' hh => lexQuote_c tk.text htsz))|apply then_n|apply block_n|apply sp_seq|apply sp_region|apply spl_nil|((apply sp_cond_t);(·exact eT rfl);(·(exact decide_eq_true (by omega))))|apply sp_skip|apply sp_block|((apply spl_pure rfl);(·(first|(apply ex_loadfieldH (ad:=⟨g, 0, none⟩) (i:=i) (k:=1) (y:=tk);(·exact eT rfl);(·exact hTr);(·rfl);(·exact htk);(·rfl))|(apply ex_loadfieldH (ad:=⟨g, 0, none⟩) (i:=i) (k:=0) (y:=tk);(·exact eT rfl);(·exact hTr);(·rfl);(·exact htk);(·rfl))|(apply ex_saddZ;(·exact eT rfl);(·(first|exact eT rfl|exact eC));(·(assumption));(·(first|assumption|decide)))|((first|apply ex_move|apply ex_assign|apply ex_fieldAddr'|apply ex_lss|apply ex_seql|apply ex_len)<;>(exact eT rfl))|((first|apply ex_fieldAddr|apply ex_eql)<;>(first|exact eT rfl|exact eC))|(apply ex_addn<;>(first|exact eT rfl|exact eC|(constructor<;>omega)))|((apply ex_indexAddr)<;>(first|exact eT rfl|rfl|assumption))))))
        rw [hst]
        exact ⟨i + 1, hlt, by (show L.length - (i + 1) < L.length - i; omega), (by (repeat (first|exact ESub.nil|apply ESub.cons rfl))), rfl, (by (repeat (exact HKeep.refl)))⟩
      · have hk' : ¬ tk.kind = 3 := by omega
        have hwr : writT tk = tx tk.text := by unfold writT writ; rw [if_neg hk']
        rw [hwr] at hwp hsucc
        rw [tx_len] at hwp
        have hz2 : tk.text.size ≤ 1000000000 := by omega
        have hz3 : (ofL (wr2 (L.take i)) ++ tk.text).size ≤ 1000000000 := by rw [ByteArray.size_append, size_ofL]; omega
        have hst : (ofL (wr2 (L.take i)) ++ tk.text) ++ ⟨#[10, 32]⟩ = ofL (wr2 (L.take (i + 1))) := by
          apply tx_inj
          rw [hsucc, tx_ofL, tx_append, tx_append, tx_ofL, List.append_assoc]
          rfl
        repeat (first|(apply sp_cond_f;(·exact eT rfl);(·exact decide_eq_false hk))|apply then_n|apply block_n|apply sp_seq|apply sp_region|apply spl_nil|((apply sp_cond_t);(·exact eT rfl);(·(exact decide_eq_true (by omega))))|apply sp_skip|apply sp_block|((apply spl_pure rfl);(·(first|(apply ex_loadfieldH (ad:=⟨g, 0, none⟩) (i:=i) (k:=1) (y:=tk);(·exact eT rfl);(·exact hTr);(·rfl);(·exact htk);(·rfl))|(apply ex_loadfieldH (ad:=⟨g, 0, none⟩) (i:=i) (k:=0) (y:=tk);(·exact eT rfl);(·exact hTr);(·rfl);(·exact htk);(·rfl))|(apply ex_saddZ;(·exact eT rfl);(·(first|exact eT rfl|exact eC));(·(assumption));(·(first|assumption|decide)))|((first|apply ex_move|apply ex_assign|apply ex_fieldAddr'|apply ex_lss|apply ex_seql|apply ex_len)<;>(exact eT rfl))|((first|apply ex_fieldAddr|apply ex_eql)<;>(first|exact eT rfl|exact eC))|(apply ex_addn<;>(first|exact eT rfl|exact eC|(constructor<;>omega)))|((apply ex_indexAddr)<;>(first|exact eT rfl|rfl|assumption))))))
        rw [hst]
        exact ⟨i + 1, hlt, by (show L.length - (i + 1) < L.length - i; omega), (by (repeat (first|exact ESub.nil|apply ESub.cons rfl))), rfl, (by (repeat (exact HKeep.refl)))⟩
    · have hie : i = L.length := by omega
      subst hie
      rw [List.take_length]
      obtain ⟨ps, e, a, hP⟩ : ∃ ps e a, parseR t = (ps, e, a) := ⟨_, _, _, rfl⟩
      obtain ⟨qs, f, b, hQ⟩ : ∃ qs f b, parseR (ofL (wr2 L)) = (qs, f, b) := ⟨_, _, _, rfl⟩
      rw [hP, hQ] at g2 g3
      dsimp only at g2 g3
      subst g2 g3
      have hsz2 : (ofL (wr2 L)).size < 1000000000 := by rw [size_ofL]; omega
      repeat (first|(apply spl_callh (X:=Heap × Sl × List KindR) rfl;(·(repeat (first|exact eN|(apply eS;(·exact eT rfl)))));(·exact fun w' hh => parse_e hP (by omega));(rintro ⟨HA, sA, kA⟩ ⟨hcA, hpA, hnA⟩ hfA;dsimp only at hcA hpA hnA hfA))|(apply spl_callh (X:=Heap × Sl × List KindR) rfl;(·(repeat (first|exact eN|(apply eS;(·exact eT rfl)))));(·exact fun w' hh => parse_e hQ hsz2);(rintro ⟨HB, sB, kB⟩ ⟨hcB, hpB, hnB⟩ hfB;dsimp only at hcB hpB hnB hfB))|(apply spl_callp_g rfl;(·exact Gd.tt rfl rfl);(·(repeat (first|exact eN|(apply eS;(·exact eG rfl)))));(·exact fun _ w' hh => same_e ((sameC_iff (parse_norm hP hpA) (parse_norm hQ hpB)).2 (hpA.trans hpB.symm)) (hcA w' hh.holds) (hcB w' hh.holds)))|apply then_n|apply sp_seq|apply sp_region|apply spl_nil|apply then_e|apply block_here|(apply sp_cond_f;(·exact eT rfl);(·(exact decide_eq_false (by omega))))|apply sp_ret|apply sp_exit|((first|apply spl_pure rfl|(apply spl_pure_g rfl;(·exact Gd.tt rfl rfl)));(·(first|(apply ex_loadpartE (cs':=#[.slice sA.a sA.n sA.c]);(·exact eT rfl);(·exact Bk.own InH.mem);(·rfl);(·rfl))|(apply ex_loadpartE (cs':=#[.slice sB.a sB.n sB.c]);(·exact eT rfl);(·exact Bk.own InH.mem);(·rfl);(·rfl))|((first|apply ex_move|apply ex_assign|apply ex_lss|apply ex_seql|apply ex_len|apply ex_andT)<;>(first|exact eT rfl|exact eG rfl))|((apply ex_eql)<;>(exact eT rfl))|((apply ex_extract)<;>(first|exact eT rfl|rfl)))))|(apply spl_alloc rfl;intro _ _)|(apply spl_stores;(·exact eT rfl);(·exact eT rfl);(·(repeat (exact Upd.here)));(·(rfl));(·(rfl));(·exact ones_of_all rfl)))
      (apply ret_ok rfl;(·((apply Res.ofOne;((apply Res1.tmp;(·rfl))))))); simp
  · have hP : parseR t = ([], E, AT) := by unfold parseR; rw [hR]; simp only [if_neg hE]
    repeat (first|(apply spl_callp rfl;(·(repeat (first|exact eN|(apply eS;(·exact eT rfl)))));(·exact fun w' hh => head_c))|(apply sp_cond_f;(·exact eT rfl);(·exact decide_eq_false hbig))|(apply sp_cond_t;(·exact eT rfl);(·(simp [hE])))|(apply spl_callh (X:=RowS) rfl;(·(repeat (first|exact eN|(apply eS;(·exact eT rfl)))));(·exact fun w' hh => hlx w');(rintro x hx hfx))|(apply spl_callh (X:=Heap × Sl × List KindR) rfl;(·(repeat (first|exact eN|(apply eS;(·exact eT rfl)))));(·exact fun w' hh => parse_e hP (by omega));(rintro ⟨HA, sA, kA⟩ - hfA;dsimp only at hfA))|apply then_n|apply sp_seq|apply sp_region|apply spl_nil|apply then_r|apply sp_skip|apply sp_ret|((first|apply spl_pure rfl|(apply spl_pure_g rfl;(·exact Gd.tt rfl rfl)));(·(first|((first|apply ex_move|apply ex_assign|apply ex_gtr|apply ex_seql|apply ex_sneq|apply ex_andT)<;>(first|exact eT rfl|exact eC))|((first|apply ex_eql|apply ex_neq|apply ex_slen)<;>(first|exact eT rfl|exact eC))|((apply ex_extract)<;>(first|exact eT rfl|rfl)))))|(apply spl_alloc rfl;intro _ _)|(apply spl_stores;(·exact eT rfl);(·exact eT rfl);(·(repeat (exact Upd.here)));(·(rfl));(·(rfl));(·exact ones_of_all rfl)))
    (apply ret_ok rfl;(·((apply Res.ofOne;((apply Res1.tmp;(·rfl))))))); simp
end Go.Proofs.Ytfdjlphfohnnnaa
