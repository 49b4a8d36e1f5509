/-
  CatalogGaps, walked.
-/
import Derived.Test.YtfdjlphfohnnnaaQE4
namespace Go.Proofs.Ytfdjlphfohnnnaa
open Go.RowKit Go.Sy
set_option linter.unusedVariables false
set_option linter.unusedSimpArgs false
theorem parse_norm {t : ByteArray} {ps : List PKind} {e a : Int} {ks : List KindR} (h : parseR t = (ps, e, a)) (hk : ks.map KindR.pure = ps) : NormK ks := by
  by_cases he : e = 0
  · subst he
    exact NormK.ofV (by rw [hk]; exact (parseR_v h).1)
  · obtain ⟨rfl, -⟩ := parseR_e h he
    have : ks = [] := List.map_eq_nil_iff.1 hk
    subst this
    intro k hk; cases hk
theorem same_e {w : World} {a b : Sl} {xs ys : List KindR} {v : Bool} (hv : sameC xs ys = v) (h : RdKinds w w.heap.size a xs) (h' : RdKinds w w.heap.size b ys) :
    Calls Try.prog 17 #[.agg #[.slice a.a a.n a.c], .agg #[.slice b.a b.n b.c]] w (Ret w (.bool v)) := by
  have := Same_c (A := a.a) (n := a.n) (c := a.c) (B := b.a) (m := b.n) (d := b.c) h h'
  rwa [hv] at this
attribute [local irreducible] Calls thenQ blockQ retQ retFQ Spc Spl Spq Ex Ev Evs Gd Upd ESub HKeep Res Res1 wlk effQ Rem SrcAt Split lexR parseR sameC wr2 quoteL
set_option maxRecDepth 100000 in
set_option maxHeartbeats 8000000 in
theorem lawGaps {w : World} (t : ByteArray) (htz : t.size < 9223372036854775808) : Calls Try.prog 8 #[.string t] w (Ret w (.bool true)) := by
  refine sp_enter (vs := [_]) Try.func8 rfl Try.ntmps8 rfl ?_
  by_cases hbig : (3000 : Int) < (t.size : Int)
  ·
    repeat (first|(apply spl_callp rfl;(·(repeat (exact eN)));(·exact fun w' hh => head_c))|(apply sp_cond_t;(·exact eT rfl);(·exact decide_eq_true hbig))|apply then_n|apply sp_seq|apply sp_region|apply spl_nil|apply then_r|apply sp_ret|((apply spl_pure rfl);(·(first|((first|apply ex_move|apply ex_assign|apply ex_gtr)<;>(first|exact eT rfl|exact eC))|((apply ex_slen)<;>(exact eT rfl))))))
    (apply ret_ok rfl;(·((apply Res.ofOne;((apply Res1.tmp;(·rfl))))))); rfl
  have ht : t.size ≤ 3000 := by omega
  obtain ⟨L, E, AT, hR⟩ : ∃ L E AT, lexR t = (L, E, AT) := ⟨_, _, _, rfl⟩
  have hlx := fun w' => lex_e (w := w') hR (by omega)
  by_cases hE : E = 0
  · subst hE
    have hlaw := gaps_law ht (by rw [hR])
    rw [hR] at hlaw
    dsimp only at hlaw
    obtain ⟨g0, g1, g2, g3⟩ := hlaw
    have hL : L.length ≤ 5000 := by have := lexR_cnt t; rw [hR] at this; exact this
    have hpos : ∀ x ∈ L, (writT x).length ≤ 3000 := by
      obtain ⟨q1, q2, q3⟩ := lexR_ok (t := t) (by rw [hR])
      have := lexR_of q1 q2 q3
      rw [hR] at this
      cases this
      intro x hx
      have := (lexN_pos _ _ x hx).2
      rw [tx_len] at this
      omega
    repeat (first|(apply spl_callp rfl;(·(repeat (first|exact eN|(apply eS;(·exact eT rfl)))));(·exact fun w' hh => head_c))|(apply sp_cond_f;(·exact eT rfl);(·exact decide_eq_false hbig))|(apply sp_cond_f;(·exact eT rfl);(·rfl))|(apply spl_callh (X:=RowS) rfl;(·(repeat (first|exact eN|(apply eS;(·exact eT rfl)))));(·exact fun w' hh => hlx w');(rintro x hx hfx))|apply then_n|apply sp_seq|apply sp_region|apply spl_nil|apply sp_skip|apply sp_block|((apply spl_pure rfl);(·(first|((first|apply ex_move|apply ex_assign|apply ex_gtr|apply ex_sneq)<;>(first|exact eT rfl|exact eC))|((first|apply ex_neq|apply ex_slen)<;>(first|exact eT rfl|exact eC))|((apply ex_extract)<;>(first|exact eT rfl|rfl))))))
    have hfx' : ∀ p ∈ x.hp (flatT L) 53, w.heap.size ≤ p.1 := hfx
    have hpre : ∀ i, (wr2 (L.take i)).length ≤ 9000 := fun i => by
      have h1 : wr2 L = wr2 (L.take i) ++ wr2 (L.drop i) := by
        unfold wr2
        rw [← List.flatMap_append, List.take_append_drop]
      rw [h1, List.length_append] at g1
      omega
    have hw0 : ofL (wr2 (L.take 0)) = ⟨#[]⟩ := by rw [List.take_zero]; unfold wr2; rfl
    refine sp_loop (X := Nat) (fun i => [(11, true, .int .i64 (i : Int)), (10, true, .string (ofL (wr2 (L.take i)))), (4, true, x.val L.length), (3, true, .bool true), (0, true, .string t)]) (fun _ => w) (fun _ => x.hp (flatT L) 53 ++ []) (fun i => i ≤ L.length) (fun i => L.length - i) 0 (Nat.zero_le _) (by rw [hw0]; (repeat (first|exact ESub.nil|apply ESub.cons rfl))) rfl (by (repeat (exact HKeep.refl))) ?_
    intro i hi
    by_cases hlt : i < L.length
    · rcases x with ⟨_ | g, cap, tail⟩
      · obtain ⟨h1, -⟩ := hx; omega
      have htk : L[i]? = some L[i] := List.getElem?_eq_getElem hlt
      generalize L[i] = tk at htk
      have hmem := List.mem_of_getElem? htk
      have hwp := hpos tk hmem
      have hTr : ∀ w', Hp w.heap.size w (RowS.hp ⟨some g, cap, tail⟩ (flatT L) 53 ++ []) w' → RdS w' w'.heap.size 3 tkC (some ⟨g, 0, none⟩) L.length L := fun w' hh =>
        RdS.ofRowW (r := ⟨some g, cap, tail⟩) (xs := L) (T := 53) (fun p hp => hh.own p (List.mem_append.2 (.inl hp))) rfl (by omega) (fun _ _ => rfl) hx
      have hz1 : (ofL (wr2 (L.take i))).size ≤ 1000000000 := by rw [size_ofL]; have := hpre i; omega
      have hsucc : wr2 (L.take (i + 1)) = wr2 (L.take i) ++ (writT tk ++ [10, 32]) := by unfold wr2; rw [take_succ htk, List.flatMap_append]; simp
      have hb := hpre i
      by_cases hk : (tk.kind : Int) = 3
      · have hk' : tk.kind = 3 := by omega
        have hwr : writT tk = quoteL (tx tk.text) := by unfold writT writ; rw [if_pos hk']
        rw [hwr] at hwp hsucc
        have hq := quoteL_len (tx tk.text)
        have htsz : tk.text.size < 10000000 := by
          have h5 : tk.text.size ≤ (quoteL (tx tk.text)).length := by
            unfold quoteL
            simp only [List.length_cons, List.length_append, List.length_nil]
            have h6 : ∀ l : List UInt8, l.length ≤ (l.flatMap escB).length := by
              intro l
              induction l with
              | nil => simp
              | cons c r ih =>
                rw [List.flatMap_cons, List.length_append, List.length_cons]
                have : 1 ≤ (escB c).length := by unfold escB; split <;> (try split) <;> simp
                omega
            have := h6 (tx tk.text)
            rw [tx_len] at this
            omega
          omega
        have hz2 : (ofL (quoteL (tx tk.text))).size ≤ 1000000000 := by rw [size_ofL]; omega
        have hz3 : (ofL (wr2 (L.take i)) ++ ofL (quoteL (tx tk.text))).size ≤ 1000000000 := by rw [ByteArray.size_append, size_ofL, size_ofL]; omega
        have hst : (ofL (wr2 (L.take i)) ++ ofL (quoteL (tx tk.text))) ++ ⟨#[10, 32]⟩ = ofL (wr2 (L.take (i + 1))) := by
          apply tx_inj
          rw [hsucc, tx_ofL, tx_append, tx_append, tx_ofL, tx_ofL, List.append_assoc]
          rfl
        repeat (first|(apply sp_cond_t;(·exact eT rfl);(·exact decide_eq_true hk))|(apply spl_callp rfl;(·(repeat (first|exact eN|(apply eS;(·exact eT rfl)))));(·exact fun w' hh => lexQuote_c tk.text htsz))|apply then_n|apply block_n|apply sp_seq|apply sp_region|apply spl_nil|((apply sp_cond_t);(·exact eT rfl);(·(exact decide_eq_true (by omega))))|apply sp_skip|apply sp_block|((apply spl_pure rfl);(·(first|(apply ex_loadfieldH (ad:=⟨g, 0, none⟩) (i:=i) (k:=1) (y:=tk);(·exact eT rfl);(·exact hTr);(·rfl);(·exact htk);(·rfl))|(apply ex_loadfieldH (ad:=⟨g, 0, none⟩) (i:=i) (k:=0) (y:=tk);(·exact eT rfl);(·exact hTr);(·rfl);(·exact htk);(·rfl))|(apply ex_saddZ;(·exact eT rfl);(·(first|exact eT rfl|exact eC));(·(assumption));(·(first|assumption|decide)))|((first|apply ex_move|apply ex_assign|apply ex_fieldAddr'|apply ex_lss|apply ex_seql|apply ex_len)<;>(exact eT rfl))|((first|apply ex_fieldAddr|apply ex_eql)<;>(first|exact eT rfl|exact eC))|(apply ex_addn<;>(first|exact eT rfl|exact eC|(constructor<;>omega)))|((apply ex_indexAddr)<;>(first|exact eT rfl|rfl|assumption))))))
        rw [hst]
        exact ⟨i + 1, hlt, by (show L.length - (i + 1) < L.length - i; omega), (by (repeat (first|exact ESub.nil|apply ESub.cons rfl))), rfl, (by (repeat (exact HKeep.refl)))⟩
      · have hk' : ¬ tk.kind = 3 := by omega
        have hwr : writT tk = tx tk.text := by unfold writT writ; rw [if_neg hk']
        rw [hwr] at hwp hsucc
        rw [tx_len] at hwp
        have hz2 : tk.text.size ≤ 1000000000 := by omega
        have hz3 : (ofL (wr2 (L.take i)) ++ tk.text).size ≤ 1000000000 := by rw [ByteArray.size_append, size_ofL]; omega
        have hst : (ofL (wr2 (L.take i)) ++ tk.text) ++ ⟨#[10, 32]⟩ = ofL (wr2 (L.take (i + 1))) := by
          apply tx_inj
          rw [hsucc, tx_ofL, tx_append, tx_append, tx_ofL, List.append_assoc]
          rfl
        repeat (first|(apply sp_cond_f;(·exact eT rfl);(·exact decide_eq_false hk))|apply then_n|apply block_n|apply sp_seq|apply sp_region|apply spl_nil|((apply sp_cond_t);(·exact eT rfl);(·(exact decide_eq_true (by omega))))|apply sp_skip|apply sp_block|((apply spl_pure rfl);(·(first|(apply ex_loadfieldH (ad:=⟨g, 0, none⟩) (i:=i) (k:=1) (y:=tk);(·exact eT rfl);(·exact hTr);(·rfl);(·exact htk);(·rfl))|(apply ex_loadfieldH (ad:=⟨g, 0, none⟩) (i:=i) (k:=0) (y:=tk);(·exact eT rfl);(·exact hTr);(·rfl);(·exact htk);(·rfl))|(apply ex_saddZ;(·exact eT rfl);(·(first|exact eT rfl|exact eC));(·(assumption));(·(first|assumption|decide)))|((first|apply ex_move|apply ex_assign|apply ex_fieldAddr'|apply ex_lss|apply ex_seql|apply ex_len)<;>(exact eT rfl))|((first|apply ex_fieldAddr|apply ex_eql)<;>(first|exact eT rfl|exact eC))|(apply ex_addn<;>(first|exact eT rfl|exact eC|(constructor<;>omega)))|((apply ex_indexAddr)<;>(first|exact eT rfl|rfl|assumption))))))
        rw [hst]
        exact ⟨i + 1, hlt, by (show L.length - (i + 1) < L.length - i; omega), (by (repeat (first|exact ESub.nil|apply ESub.cons rfl))), rfl, (by (repeat (exact HKeep.refl)))⟩
    · have hie : i = L.length := by omega
      subst hie
      rw [List.take_length]
      obtain ⟨ps, e, a, hP⟩ : ∃ ps e a, parseR t = (ps, e, a) := ⟨_, _, _, rfl⟩
      obtain ⟨qs, f, b, hQ⟩ : ∃ qs f b, parseR (ofL (wr2 L)) = (qs, f, b) := ⟨_, _, _, rfl⟩
      rw [hP, hQ] at g2 g3
      dsimp only at g2 g3
      subst g2 g3
      have hsz2 : (ofL (wr2 L)).size < 1000000000 := by rw [size_ofL]; omega
      repeat (first|(apply spl_callh (X:=Heap × Sl × List KindR) rfl;(·(repeat (first|exact eN|(apply eS;(·exact eT rfl)))));(·exact fun w' hh => parse_e hP (by omega));(rintro ⟨HA, sA, kA⟩ ⟨hcA, hpA, hnA⟩ hfA;dsimp only at hcA hpA hnA hfA))|(apply spl_callh (X:=Heap × Sl × List KindR) rfl;(·(repeat (first|exact eN|(apply eS;(·exact eT rfl)))));(·exact fun w' hh => parse_e hQ hsz2);(rintro ⟨HB, sB, kB⟩ ⟨hcB, hpB, hnB⟩ hfB;dsimp only at hcB hpB hnB hfB))|(apply spl_callp_g rfl;(·exact Gd.tt rfl rfl);(·(repeat (first|exact eN|(apply eS;(·exact eG rfl)))));(·exact fun _ w' hh => same_e ((sameC_iff (parse_norm hP hpA) (parse_norm hQ hpB)).2 (hpA.trans hpB.symm)) (hcA w' hh.holds) (hcB w' hh.holds)))|apply then_n|apply sp_seq|apply sp_region|apply spl_nil|apply then_e|apply block_here|(apply sp_cond_f;(·exact eT rfl);(·(exact decide_eq_false (by omega))))|apply sp_ret|apply sp_exit|((first|apply spl_pure rfl|(apply spl_pure_g rfl;(·exact Gd.tt rfl rfl)));(·(first|(apply ex_loadpartE (cs':=#[.slice sA.a sA.n sA.c]);(·exact eT rfl);(·exact Bk.own InH.mem);(·rfl);(·rfl))|(apply ex_loadpartE (cs':=#[.slice sB.a sB.n sB.c]);(·exact eT rfl);(·exact Bk.own InH.mem);(·rfl);(·rfl))|((first|apply ex_move|apply ex_assign|apply ex_lss|apply ex_seql|apply ex_len|apply ex_andT)<;>(first|exact eT rfl|exact eG rfl))|((apply ex_eql)<;>(exact eT rfl))|((apply ex_extract)<;>(first|exact eT rfl|rfl)))))|(apply spl_alloc rfl;intro _ _)|(apply spl_stores;(·exact eT rfl);(·exact eT rfl);(·(repeat (exact Upd.here)));(·(rfl));(·(rfl));(·exact ones_of_all rfl)))
      (apply ret_ok rfl;(·((apply Res.ofOne;((apply Res1.tmp;(·rfl))))))); simp
  · have hP : parseR t = ([], E, AT) := by unfold parseR; rw [hR]; simp only [if_neg hE]
    repeat (first|(apply spl_callp rfl;(·(repeat (first|exact eN|(apply eS;(·exact eT rfl)))));(·exact fun w' hh => head_c))|(apply sp_cond_f;(·exact eT rfl);(·exact decide_eq_false hbig))|(apply sp_cond_t;(·exact eT rfl);(·(simp [hE])))|(apply spl_callh (X:=RowS) rfl;(·(repeat (first|exact eN|(apply eS;(·exact eT rfl)))));(·exact fun w' hh => hlx w');(rintro x hx hfx))|(apply spl_callh (X:=Heap × Sl × List KindR) rfl;(·(repeat (first|exact eN|(apply eS;(·exact eT rfl)))));(·exact fun w' hh => parse_e hP (by omega));(rintro ⟨HA, sA, kA⟩ - hfA;dsimp only at hfA))|apply then_n|apply sp_seq|apply sp_region|apply spl_nil|apply then_r|apply sp_skip|apply sp_ret|((first|apply spl_pure rfl|(apply spl_pure_g rfl;(·exact Gd.tt rfl rfl)));(·(first|((first|apply ex_move|apply ex_assign|apply ex_gtr|apply ex_seql|apply ex_sneq|apply ex_andT)<;>(first|exact eT rfl|exact eC))|((first|apply ex_eql|apply ex_neq|apply ex_slen)<;>(first|exact eT rfl|exact eC))|((apply ex_extract)<;>(first|exact eT rfl|rfl)))))|(apply spl_alloc rfl;intro _ _)|(apply spl_stores;(·exact eT rfl);(·exact eT rfl);(·(repeat (exact Upd.here)));(·(rfl));(·(rfl));(·exact ones_of_all rfl)))
    (apply ret_ok rfl;(·((apply Res.ofOne;((apply Res1.tmp;(·rfl))))))); simp
end Go.Proofs.Ytfdjlphfohnnnaa
/-
  CatalogOrders, walked.
-/
namespace Go.Proofs.Ytfdjlphfohnnnaa
open Go.RowKit Go.Sy
set_option linter.unusedVariables false
set_option linter.unusedSimpArgs false
theorem idx_map {α β : Type} (f : α → β) (xs : List α) (p : β → Bool) : idx (xs.map f) p = idx xs (fun x => p (f x)) := by
  unfold idx
  rw [List.findIdx?_map]
  rfl
theorem find_place (ks : List KindR) (s : ByteArray) : decide (0 ≤ idx ks fun x => decide (x.name = s)) = (findK ks s).isSome := by
  unfold findK
  rcases idx_cases ks (fun x => decide (x.name = s)) with ⟨hf, hi⟩ | ⟨k, x, hf, hi, hx, hk⟩
  · rw [hf, hi]; rfl
  · rw [hf, hi]; simp
theorem few1_c {w : World} {A : Option Addr} {n c g : Nat} {ks : List KindR} (hK : RdKinds w w.heap.size ⟨A, n, c⟩ ks) (hg : w.heap[g]? = some (.cells #[.slice A n c] 24 (0, 0))) :
    Calls Try.prog 10 #[.slice (some ⟨g, 0, none⟩) 1 1] w (Ret w (.bool (fewB ks))) := by
  have := few_c (w := w) (A := some ⟨g, 0, none⟩) (n := 1) (c := 1) (cs := [(⟨A, n, c⟩, ks)]) ⟨RdS.ofFlat (C := catC) hg (Array.getElem?_eq_some_iff.1 hg).1 rfl (by decide) (fun _ _ => rfl) rfl, fun y hy => by
    rw [List.mem_singleton] at hy; subst hy; exact hK⟩
  simpa using this
attribute [local irreducible] Calls thenQ blockQ retQ retFQ Spc Spl Spq Ex Ev Evs Gd Upd ESub HKeep Res Res1 wlk effQ Rem SrcAt Split fewB validB takesB normalB
set_option maxRecDepth 100000 in
set_option maxHeartbeats 8000000 in
theorem lawOrders {w : World} {A : Option Addr} {n c : Nat} {ks : List KindR} {kind slot other : ByteArray} (hK : RdKinds w w.heap.size ⟨A, n, c⟩ ks) :
    Calls Try.prog 5 #[.agg #[.slice A n c], .string kind, .string slot, .string other] w (Ret w (.bool true)) := by
  have hbd : n ≤ 9223372036854775807 := hK.1.bound
  refine sp_enter (vs := [_, _, _, _]) Try.func5 rfl Try.ntmps5 rfl ?_
  repeat (first|(apply spl_callp rfl;(·(repeat (first|exact eN|(apply eS;(·exact eT rfl)))));(·exact fun w' hh => head_c))|(apply spl_callp rfl;(·(repeat (first|exact eN|(apply eS;(·exact eT rfl)))));(·exact fun w' hh => few1_c (hK.hp hh) hh.ownI))|(apply spl_callp_g rfl;(·exact Gd.tf rfl rfl);(·(repeat (first|exact eN|(apply eS;(·exact eG rfl)))));(·exact fun hG w' hh => valid_c (hK.hp hh) (few_sized (by simpa using hG)).2))|apply then_n|apply sp_seq|apply sp_region|apply spl_nil|((first|apply spl_pure rfl|(apply spl_pure_g rfl;(·exact Gd.tf rfl rfl)));(·(first|(apply ex_loadpartE (cs':=#[.slice A n c]);(·exact eT rfl);(·exact Bk.own InH.mem);(·rfl);(·rfl))|((first|apply ex_move|apply ex_assign|apply ex_not|apply ex_gtr)<;>(first|exact eT rfl|exact eC|exact eG rfl))|((first|apply ex_slen|apply ex_orT)<;>(first|exact eT rfl|exact eG rfl))|(apply ex_add<;>(exact eG rfl)))))|(apply spl_box;(·exact eT rfl);(·rfl);intro _ _)|(apply spl_buildSlice rfl;(·rfl);(·(repeat (first|exact eN|(apply eS;(·exact eT rfl)))));(·rfl);(·rfl);(·rfl);intro _ _))
  rename_i g4 hg4 gS hgS
  refine sp_cond (eT rfl) (fun hp => ?_) (fun hp => ?_)
  ·
    repeat (first|apply then_n|apply sp_seq|apply sp_region|apply spl_nil|apply then_r|apply sp_ret|((apply spl_pure rfl);(·(((first|apply ex_move|apply ex_assign)<;>(exact eT rfl))))))
    (apply ret_ok rfl;(·((apply Res.ofOne;((apply Res1.tmp;(·rfl))))))); rfl
  · have hfew : fewB ks = true := by
      cases hf : fewB ks with
      | true => rfl
      | false => rw [hf] at hp; simp at hp
    have hval : validB ks = true := by
      cases hf : validB ks with
      | true => rfl
      | false => rw [hf] at hp; simp at hp
    clear hp
    refine spc_know (X := ∀ k ∈ ks, LensK k) (fun w' hh => (hK.hp hh).lens) fun hl => ?_
    have hcv := (valid_iff hl).1 hval
    have hsz := (few_sized hfew).2
    have hfp := find_place ks kind
    obtain ⟨b0, hb0⟩ : ∃ b, (findK ks kind).isSome = b := ⟨_, rfl⟩
    rw [hb0] at hfp
    obtain ⟨x, hx⟩ : ∃ x, (findK ks kind).getD KindR.zero = x := ⟨_, rfl⟩
    have hX : RdSlots w w.heap.size x.ss x.slots := hx ▸ findK_rd (s := kind) hK
    have hTc := fun (w' : World) (h' : RdKinds w' w'.heap.size ⟨A, n, c⟩ ks) => takes_c (s := kind) (t := slot) (o := other) h'
    have hNc := fun (w' : World) (h' : RdKinds w' w'.heap.size ⟨A, n, c⟩ ks) => normal_c (s := kind) (t := slot) (o := other) h'
    have hPk := fun (w' : World) (h' : RdKinds w' w'.heap.size ⟨A, n, c⟩ ks) => place_c (c := c) (s := kind) h'.1
    have hPo := fun (w' : World) (h' : RdKinds w' w'.heap.size ⟨A, n, c⟩ ks) => place_c (c := c) (s := other) h'.1
    have hF := fun (w' : World) (h' : RdKinds w' w'.heap.size ⟨A, n, c⟩ ks) => find_e (c := c) hx hb0 h'.1
    cases hT : takesB ks kind slot other with
    | true =>
      obtain ⟨i, j, o, hi, hj, hji, ho, hov⟩ := takes_before hcv (by rw [← takes_pure]; exact hT)
      rw [idx_map] at hi hj
      have hi' : idx ks (fun x => decide (x.name = kind)) = (i : Int) := hi
      have hj' : idx ks (fun x => decide (x.name = other)) = (j : Int) := hj
      rw [List.getElem?_map] at ho
      obtain ⟨oR, hoR, rfl⟩ := Option.map_eq_some_iff.1 ho
      have hov' : oR.vehicle = false := hov
      have hjn : j < n := by have := (List.getElem?_eq_some_iff.1 hoR).1; rw [hK.1.len] at this; exact this
      obtain ⟨ad, oR2, hA, hbb, hoR2, -, -⟩ := hK.1.at_ hjn
      rw [hT] at hTc
      have hPk2 := hPk
      rw [hi'] at hPk2
      rw [hj'] at hPo
      obtain ⟨bN, hbN⟩ : ∃ b, normalB ks kind slot other = b := ⟨_, rfl⟩
      rw [hbN] at hNc
      repeat (first|(apply sp_cond_f;(·exact eT rfl);(·(cases bN<;>rfl)))|(apply spq_callp rfl;(·(repeat (first|exact eN|(apply eS;(·exact eT rfl)))));(·exact fun w' hh => hTc w' (hK.hp hh)))|(apply spq_callp rfl;(·(repeat (first|exact eN|(apply eS;(·exact eT rfl)))));(·exact fun w' hh => hNc w' (hK.hp hh)))|(apply spq_callp rfl;(·(repeat (first|exact eN|(apply eS;(·exact eT rfl)))));(·exact fun w' hh => hPk2 w' (hK.hp hh)))|(apply spq_callp rfl;(·(repeat (first|exact eN|(apply eS;(·exact eT rfl)))));(·exact fun w' hh => hPo w' (hK.hp hh)))|(apply spl_callp rfl;(·(repeat (first|exact eN|(apply eS;(·exact eT rfl)))));(·exact fun w' hh => hPk w' (hK.hp hh)))|(apply spl_callp rfl;(·(repeat (first|exact eN|(apply eS;(·exact eT rfl)))));(·exact fun w' hh => hF w' (hK.hp hh)))|(apply sp_cond_f;(·exact eT rfl);(·(rw [hov', decide_eq_false (show ¬ (j : Int) < 0 by omega), decide_eq_false (show ¬ (i : Int) ≤ (j : Int) by omega)];rfl)))|apply then_n|apply sp_seq|apply sp_region|apply spl_nil|((apply sp_cond_t);(·exact eT rfl);(·(rfl)))|apply sp_skip|((first|apply spl_pure rfl|apply spq_pure rfl|(apply spl_pure_g rfl;(·(first|exact Gd.tt rfl rfl|exact Gd.tf rfl rfl))));(·(first|(apply ex_loadfield (ad:=ad) (i:=j) (k:=1);(·exact eG rfl);(·exact hK.1);(·exact hA);(·exact hoR);(·rfl))|(apply ex_loadpartE (cs':=#[.slice A n c]);(·exact eT rfl);(·exact Bk.own InH.mem);(·rfl);(·rfl))|((first|apply ex_move|apply ex_assign|apply ex_fieldAddr'|apply ex_not|apply ex_lss|apply ex_geq|apply ex_sneq|apply ex_andT)<;>(first|exact eT rfl|exact eC|exact eG rfl))|((first|apply ex_fieldAddr|apply ex_neq|apply ex_orT)<;>(first|exact eT rfl|exact eG rfl))|((apply ex_bneq)<;>(exact eT rfl))|((first|apply ex_loadown|apply ex_extract|apply ex_indexAddr)<;>(first|exact eT rfl|exact eG rfl|exact Bk.own InH.mem|rfl|assumption)))))|(apply spl_alloc rfl;intro _ _)|(apply spl_stores;(·exact eT rfl);(·exact eT rfl);(·(repeat (exact Upd.here)));(·(rfl));(·(rfl));(·exact Ones.one))|apply spq_nil|apply sp_draw mixed (by kernel_rfl))
      refine sp_cond_f (by (exact eT rfl)) (by rw [hfp]; cases b0 <;> rfl) ?_
      repeat (first|apply then_n|apply sp_seq|apply sp_region|apply spl_nil|apply sp_skip|apply sp_block|((apply spl_pure rfl);(·(((apply ex_assign)<;>(exact eC))))))
      rename_i g14 hg14
      refine sp_loop (X := Nat) (fun q => [(16, true, .int .i64 (q : Int)), (14, true, .pointer (some ⟨g14, 0, none⟩)), (4, true, .pointer (some ⟨g4, 0, none⟩)), (1, true, .string kind), (9, true, .bool true)]) (fun _ => w) (fun _ => [(g14, .cells x.cells 34 (0, 0)), (g4, .cells #[.slice A n c] 24 (0, 0))]) (fun q => q ≤ x.ss.n) (fun q => x.ss.n - q) 0 (Nat.zero_le _) (by (repeat (first|exact ESub.nil|apply ESub.cons rfl))) rfl (by (repeat (first|exact HKeep.refl|apply HKeep.keep|(apply HKeep.pick;(·(repeat (first|exact Rem.here|apply Rem.there))))|apply HKeep.drop (by first|assumption|omega)))) ?_
      intro q hq
      by_cases hlt : q < x.ss.n
      · obtain ⟨ad2, s, hA2, hb2, hs, -, -⟩ := hX.1.at_ hlt
        have hst := hX.2 s (List.mem_of_getElem? hs)
        have hbd3 := hst.1.bound
        have hbd2 := hX.1.bound
        have hfk : findN (ks.map KindR.pure) kind = some x.pure := by
          unfold findN
          rw [find_pure]
          cases hf : findK ks kind with
          | none => rw [hf] at hx; subst hx; cases hs
          | some y => rw [hf] at hx; cases hx; rfl
        have hsp : x.pure.slots[q]? = some s.pure := by show (x.slots.map SlotR.pure)[q]? = _; rw [List.getElem?_map, hs]; rfl
        obtain ⟨-, hv1, hv2⟩ := slot_valid hcv hfk hsp
        have hkl : s.kinds.length = s.ks.n := hst.1.len
        have hv1' : 1 ≤ s.normal.toNat := hv1
        have hv2' : s.normal.toNat ≤ s.kinds.length := hv2
        have how : ∀ (m : Nat) (z : ByteArray), s.kinds[m]? = some z → takesB ks kind s.name z = true ∧ normalB ks kind s.name z = decide (m < s.normal.toNat) := fun m z hz => by
          have := takes_own hcv hfk hsp hz
          rw [takes_pure, normal_pure]
          exact this
        repeat (first|apply then_n|apply sp_seq|apply sp_region|apply spl_nil|((apply sp_cond_t);(·exact eT rfl);(·(exact decide_eq_true (by omega))))|apply sp_skip|apply sp_block|((apply spl_pure rfl);(·(first|((first|apply ex_move|apply ex_assign|apply ex_fieldAddr'|apply ex_lss|apply ex_len)<;>(first|exact eT rfl|exact eC))|((apply ex_loadown)<;>(first|exact eT rfl|exact Bk.own InH.mem|rfl))))))
        refine sp_loop (X := Nat) (fun m => [(18, true, .int .i64 (m : Int)), (17, true, .int .i64 ((min m s.normal.toNat : Nat) : Int)), (16, true, .int .i64 (q : Int)), (14, true, .pointer (some ⟨g14, 0, none⟩)), (4, true, .pointer (some ⟨g4, 0, none⟩)), (1, true, .string kind), (9, true, .bool true)]) (fun _ => w) (fun _ => [(g14, .cells x.cells 34 (0, 0)), (g4, .cells #[.slice A n c] 24 (0, 0))]) (fun m => m ≤ s.ks.n) (fun m => s.ks.n - m) 0 (Nat.zero_le _) (by rw [Nat.zero_min]; (repeat (first|exact ESub.nil|apply ESub.cons rfl))) rfl (by (repeat (exact HKeep.refl))) ?_
        intro m hm
        by_cases hlt3 : m < s.ks.n
        · obtain ⟨ad3, z, hA3, hb3, hz, -, -⟩ := hst.1.at_ hlt3
          obtain ⟨h1, h2⟩ := how m z hz
          have hT2 := fun (w' : World) (h' : RdKinds w' w'.heap.size ⟨A, n, c⟩ ks) => takes_c (s := kind) (t := s.name) (o := z) h'
          have hN2 := fun (w' : World) (h' : RdKinds w' w'.heap.size ⟨A, n, c⟩ ks) => normal_c (s := kind) (t := s.name) (o := z) h'
          rw [h1] at hT2
          rw [h2] at hN2
          by_cases hmn : m < s.normal.toNat
          · rw [decide_eq_true hmn] at hN2
            have hmin : min (m + 1) s.normal.toNat = min m s.normal.toNat + 1 := by omega
            have hmb : min m s.normal.toNat ≤ m := Nat.min_le_left _ _
            generalize hM : min m s.normal.toNat = M at hmin hmb
            repeat (first|(apply sp_cond_t;(·exact eT rfl);(·rfl))|(apply sp_cond_f;(·exact eT rfl);(·rfl))|(apply spq_callp rfl;(·(repeat (first|exact eN|(apply eS;(·exact eT rfl)))));(·exact fun w' hh => hN2 w' (hK.hp hh)))|(apply spq_callp rfl;(·(repeat (first|exact eN|(apply eS;(·exact eT rfl)))));(·exact fun w' hh => hT2 w' (hK.hp hh)))|apply then_n|apply block_n|apply sp_seq|apply sp_region|apply spl_nil|((apply sp_cond_t);(·exact eT rfl);(·(exact decide_eq_true (by omega))))|apply sp_skip|apply sp_block|((first|apply spl_pure rfl|apply spq_pure rfl);(·(first|(apply ex_loadpartE (cs':=#[.slice A n c]);(·exact eT rfl);(·exact Bk.own InH.mem);(·rfl);(·rfl))|(apply ex_loadfield (ad:=ad2) (i:=q) (k:=0);(·exact eT rfl);(·exact hX.1);(·exact hA2);(·exact hs);(·rfl))|(apply ex_loadfield (ad:=ad2) (i:=q) (k:=1);(·exact eT rfl);(·exact hX.1);(·exact hA2);(·exact hs);(·rfl))|(apply ex_loadfield (ad:=ad3) (i:=m) (k:=0);(·exact eT rfl);(·exact hst.1);(·exact hA3);(·exact hz);(·rfl))|((first|apply ex_move|apply ex_assign|apply ex_fieldAddr'|apply ex_not|apply ex_lss|apply ex_len)<;>(exact eT rfl))|((apply ex_fieldAddr)<;>(exact eT rfl))|(apply ex_addn<;>(first|exact eT rfl|exact eC|(constructor<;>omega)))|((first|apply ex_loadown|apply ex_indexAddr)<;>(first|exact eT rfl|exact Bk.own InH.mem|rfl|assumption)))))|apply spq_nil|apply sp_draw mixed (by kernel_rfl))
            exact ⟨m + 1, hlt3, by (show s.ks.n - (m + 1) < s.ks.n - m; omega), (by rw [hmin]; (repeat (first|exact ESub.nil|apply ESub.cons rfl))), rfl, (by (repeat (exact HKeep.refl)))⟩
          · rw [decide_eq_false hmn] at hN2
            have hmin : min (m + 1) s.normal.toNat = min m s.normal.toNat := by omega
            repeat (first|(apply sp_cond_f;(·exact eT rfl);(·rfl))|(apply spq_callp rfl;(·(repeat (first|exact eN|(apply eS;(·exact eT rfl)))));(·exact fun w' hh => hN2 w' (hK.hp hh)))|(apply spq_callp rfl;(·(repeat (first|exact eN|(apply eS;(·exact eT rfl)))));(·exact fun w' hh => hT2 w' (hK.hp hh)))|apply then_n|apply block_n|apply sp_seq|apply sp_region|apply spl_nil|((apply sp_cond_t);(·exact eT rfl);(·(exact decide_eq_true (by omega))))|apply sp_skip|apply sp_block|((first|apply spl_pure rfl|apply spq_pure rfl);(·(first|(apply ex_loadpartE (cs':=#[.slice A n c]);(·exact eT rfl);(·exact Bk.own InH.mem);(·rfl);(·rfl))|(apply ex_loadfield (ad:=ad2) (i:=q) (k:=0);(·exact eT rfl);(·exact hX.1);(·exact hA2);(·exact hs);(·rfl))|(apply ex_loadfield (ad:=ad2) (i:=q) (k:=1);(·exact eT rfl);(·exact hX.1);(·exact hA2);(·exact hs);(·rfl))|(apply ex_loadfield (ad:=ad3) (i:=m) (k:=0);(·exact eT rfl);(·exact hst.1);(·exact hA3);(·exact hz);(·rfl))|((first|apply ex_move|apply ex_assign|apply ex_fieldAddr'|apply ex_not|apply ex_lss|apply ex_len)<;>(exact eT rfl))|((apply ex_fieldAddr)<;>(exact eT rfl))|(apply ex_addn<;>(first|exact eT rfl|exact eC|(constructor<;>omega)))|((first|apply ex_loadown|apply ex_indexAddr)<;>(first|exact eT rfl|exact Bk.own InH.mem|rfl|assumption)))))|apply spq_nil|apply sp_draw mixed (by kernel_rfl))
            exact ⟨m + 1, hlt3, by (show s.ks.n - (m + 1) < s.ks.n - m; omega), (by rw [hmin]; (repeat (first|exact ESub.nil|apply ESub.cons rfl))), rfl, (by (repeat (exact HKeep.refl)))⟩
        · have hmin : ((min m s.normal.toNat : Nat) : Int) = s.normal := by omega
          rw [hmin]
          have hno : ¬ s.normal < 1 := by omega
          repeat (first|(apply sp_cond_f;(·exact eT rfl);(·(rw [decide_eq_false hno];simp)))|apply then_n|apply block_n|apply sp_seq|apply sp_region|apply spl_nil|apply then_e|apply block_here|(apply sp_cond_f;(·exact eT rfl);(·(exact decide_eq_false (by omega))))|apply sp_skip|apply sp_exit|((first|apply spl_pure rfl|(apply spl_pure_g rfl;(·exact Gd.tf rfl rfl)));(·(first|(apply ex_loadfield (ad:=ad2) (i:=q) (k:=1);(·exact eT rfl);(·exact hX.1);(·exact hA2);(·exact hs);(·rfl))|(apply ex_loadfield (ad:=ad2) (i:=q) (k:=2);(·exact eT rfl);(·exact hX.1);(·exact hA2);(·exact hs);(·rfl))|((first|apply ex_move|apply ex_assign|apply ex_fieldAddr'|apply ex_lss|apply ex_sneq|apply ex_len)<;>(first|exact eT rfl|exact eC|exact eG rfl))|((first|apply ex_fieldAddr|apply ex_neq|apply ex_orT)<;>(first|exact eT rfl|exact eG rfl))|(apply ex_addn<;>(first|exact eT rfl|exact eC|(constructor<;>omega)))|((first|apply ex_loadown|apply ex_indexAddr)<;>(first|exact eT rfl|exact Bk.own InH.mem|rfl|assumption))))))
          exact ⟨q + 1, hlt, by (show x.ss.n - (q + 1) < x.ss.n - q; omega), (by (repeat (first|exact ESub.nil|apply ESub.cons rfl))), rfl, (by (repeat (exact HKeep.refl)))⟩
      ·
        repeat (first|apply then_n|apply sp_seq|apply sp_region|apply spl_nil|apply then_e|apply block_here|(apply sp_cond_f;(·exact eT rfl);(·(exact decide_eq_false (by omega))))|apply sp_ret|apply sp_exit|((apply spl_pure rfl);(·(first|((first|apply ex_move|apply ex_assign|apply ex_fieldAddr'|apply ex_lss|apply ex_len)<;>(exact eT rfl))|((apply ex_loadown)<;>(first|exact eT rfl|exact Bk.own InH.mem|rfl))))))
        (apply ret_ok rfl;(·((apply Res.ofOne;((apply Res1.tmp;(·rfl))))))); rfl
    | false =>
      have hN : normalB ks kind slot other = false := by
        cases h : normalB ks kind slot other with
        | false => rfl
        | true =>
          rw [takes_pure] at hT
          rw [normal_pure] at h
          rw [normal_takes h] at hT
          cases hT
      rw [hT] at hTc
      rw [hN] at hNc
      repeat (first|(apply sp_cond_f;(·exact eT rfl);(·rfl))|(apply spq_callp rfl;(·(repeat (first|exact eN|(apply eS;(·exact eT rfl)))));(·exact fun w' hh => hTc w' (hK.hp hh)))|(apply spq_callp rfl;(·(repeat (first|exact eN|(apply eS;(·exact eT rfl)))));(·exact fun w' hh => hNc w' (hK.hp hh)))|(apply spl_callp rfl;(·(repeat (first|exact eN|(apply eS;(·exact eT rfl)))));(·exact fun w' hh => hPk w' (hK.hp hh)))|(apply spl_callp rfl;(·(repeat (first|exact eN|(apply eS;(·exact eT rfl)))));(·exact fun w' hh => hF w' (hK.hp hh)))|apply then_n|apply sp_seq|apply sp_region|apply spl_nil|apply sp_skip|((first|apply spl_pure rfl|apply spq_pure rfl|(apply spl_pure_g rfl;(·exact Gd.tt rfl rfl)));(·(first|(apply ex_loadpartE (cs':=#[.slice A n c]);(·exact eT rfl);(·exact Bk.own InH.mem);(·rfl);(·rfl))|((first|apply ex_move|apply ex_assign|apply ex_not|apply ex_geq|apply ex_sneq|apply ex_andT)<;>(first|exact eT rfl|exact eC|exact eG rfl))|((apply ex_bneq)<;>(exact eT rfl))|((apply ex_extract)<;>(first|exact eT rfl|rfl)))))|(apply spl_alloc rfl;intro _ _)|(apply spl_stores;(·exact eT rfl);(·exact eT rfl);(·(repeat (exact Upd.here)));(·(rfl));(·(rfl));(·exact Ones.one))|apply spq_nil|apply sp_draw mixed (by kernel_rfl))
      refine sp_cond_f (by (exact eT rfl)) (by rw [hfp]; cases b0 <;> rfl) ?_
      repeat (first|apply then_n|apply sp_seq|apply sp_region|apply spl_nil|apply sp_skip|apply sp_block|((apply spl_pure rfl);(·(((apply ex_assign)<;>(exact eC))))))
      rename_i g14 hg14
      refine sp_loop (X := Nat) (fun q => [(16, true, .int .i64 (q : Int)), (14, true, .pointer (some ⟨g14, 0, none⟩)), (4, true, .pointer (some ⟨g4, 0, none⟩)), (1, true, .string kind), (9, true, .bool true)]) (fun _ => w) (fun _ => [(g14, .cells x.cells 34 (0, 0)), (g4, .cells #[.slice A n c] 24 (0, 0))]) (fun q => q ≤ x.ss.n) (fun q => x.ss.n - q) 0 (Nat.zero_le _) (by (repeat (first|exact ESub.nil|apply ESub.cons rfl))) rfl (by (repeat (first|exact HKeep.refl|apply HKeep.keep|(apply HKeep.pick;(·(repeat (first|exact Rem.here|apply Rem.there))))|apply HKeep.drop (by first|assumption|omega)))) ?_
      intro q hq
      by_cases hlt : q < x.ss.n
      · obtain ⟨ad2, s, hA2, hb2, hs, -, -⟩ := hX.1.at_ hlt
        have hst := hX.2 s (List.mem_of_getElem? hs)
        have hbd3 := hst.1.bound
        have hbd2 := hX.1.bound
        have hfk : findN (ks.map KindR.pure) kind = some x.pure := by
          unfold findN
          rw [find_pure]
          cases hf : findK ks kind with
          | none => rw [hf] at hx; subst hx; cases hs
          | some y => rw [hf] at hx; cases hx; rfl
        have hsp : x.pure.slots[q]? = some s.pure := by show (x.slots.map SlotR.pure)[q]? = _; rw [List.getElem?_map, hs]; rfl
        obtain ⟨-, hv1, hv2⟩ := slot_valid hcv hfk hsp
        have hkl : s.kinds.length = s.ks.n := hst.1.len
        have hv1' : 1 ≤ s.normal.toNat := hv1
        have hv2' : s.normal.toNat ≤ s.kinds.length := hv2
        have how : ∀ (m : Nat) (z : ByteArray), s.kinds[m]? = some z → takesB ks kind s.name z = true ∧ normalB ks kind s.name z = decide (m < s.normal.toNat) := fun m z hz => by
          have := takes_own hcv hfk hsp hz
          rw [takes_pure, normal_pure]
          exact this
        repeat (first|apply then_n|apply sp_seq|apply sp_region|apply spl_nil|((apply sp_cond_t);(·exact eT rfl);(·(exact decide_eq_true (by omega))))|apply sp_skip|apply sp_block|((apply spl_pure rfl);(·(first|((first|apply ex_move|apply ex_assign|apply ex_fieldAddr'|apply ex_lss|apply ex_len)<;>(first|exact eT rfl|exact eC))|((apply ex_loadown)<;>(first|exact eT rfl|exact Bk.own InH.mem|rfl))))))
        refine sp_loop (X := Nat) (fun m => [(18, true, .int .i64 (m : Int)), (17, true, .int .i64 ((min m s.normal.toNat : Nat) : Int)), (16, true, .int .i64 (q : Int)), (14, true, .pointer (some ⟨g14, 0, none⟩)), (4, true, .pointer (some ⟨g4, 0, none⟩)), (1, true, .string kind), (9, true, .bool true)]) (fun _ => w) (fun _ => [(g14, .cells x.cells 34 (0, 0)), (g4, .cells #[.slice A n c] 24 (0, 0))]) (fun m => m ≤ s.ks.n) (fun m => s.ks.n - m) 0 (Nat.zero_le _) (by rw [Nat.zero_min]; (repeat (first|exact ESub.nil|apply ESub.cons rfl))) rfl (by (repeat (exact HKeep.refl))) ?_
        intro m hm
        by_cases hlt3 : m < s.ks.n
        · obtain ⟨ad3, z, hA3, hb3, hz, -, -⟩ := hst.1.at_ hlt3
          obtain ⟨h1, h2⟩ := how m z hz
          have hT2 := fun (w' : World) (h' : RdKinds w' w'.heap.size ⟨A, n, c⟩ ks) => takes_c (s := kind) (t := s.name) (o := z) h'
          have hN2 := fun (w' : World) (h' : RdKinds w' w'.heap.size ⟨A, n, c⟩ ks) => normal_c (s := kind) (t := s.name) (o := z) h'
          rw [h1] at hT2
          rw [h2] at hN2
          by_cases hmn : m < s.normal.toNat
          · rw [decide_eq_true hmn] at hN2
            have hmin : min (m + 1) s.normal.toNat = min m s.normal.toNat + 1 := by omega
            have hmb : min m s.normal.toNat ≤ m := Nat.min_le_left _ _
            generalize hM : min m s.normal.toNat = M at hmin hmb
            repeat (first|(apply sp_cond_t;(·exact eT rfl);(·rfl))|(apply sp_cond_f;(·exact eT rfl);(·rfl))|(apply spq_callp rfl;(·(repeat (first|exact eN|(apply eS;(·exact eT rfl)))));(·exact fun w' hh => hN2 w' (hK.hp hh)))|(apply spq_callp rfl;(·(repeat (first|exact eN|(apply eS;(·exact eT rfl)))));(·exact fun w' hh => hT2 w' (hK.hp hh)))|apply then_n|apply block_n|apply sp_seq|apply sp_region|apply spl_nil|((apply sp_cond_t);(·exact eT rfl);(·(exact decide_eq_true (by omega))))|apply sp_skip|apply sp_block|((first|apply spl_pure rfl|apply spq_pure rfl);(·(first|(apply ex_loadpartE (cs':=#[.slice A n c]);(·exact eT rfl);(·exact Bk.own InH.mem);(·rfl);(·rfl))|(apply ex_loadfield (ad:=ad2) (i:=q) (k:=0);(·exact eT rfl);(·exact hX.1);(·exact hA2);(·exact hs);(·rfl))|(apply ex_loadfield (ad:=ad2) (i:=q) (k:=1);(·exact eT rfl);(·exact hX.1);(·exact hA2);(·exact hs);(·rfl))|(apply ex_loadfield (ad:=ad3) (i:=m) (k:=0);(·exact eT rfl);(·exact hst.1);(·exact hA3);(·exact hz);(·rfl))|((first|apply ex_move|apply ex_assign|apply ex_fieldAddr'|apply ex_not|apply ex_lss|apply ex_len)<;>(exact eT rfl))|((apply ex_fieldAddr)<;>(exact eT rfl))|(apply ex_addn<;>(first|exact eT rfl|exact eC|(constructor<;>omega)))|((first|apply ex_loadown|apply ex_indexAddr)<;>(first|exact eT rfl|exact Bk.own InH.mem|rfl|assumption)))))|apply spq_nil|apply sp_draw mixed (by kernel_rfl))
            exact ⟨m + 1, hlt3, by (show s.ks.n - (m + 1) < s.ks.n - m; omega), (by rw [hmin]; (repeat (first|exact ESub.nil|apply ESub.cons rfl))), rfl, (by (repeat (exact HKeep.refl)))⟩
          · rw [decide_eq_false hmn] at hN2
            have hmin : min (m + 1) s.normal.toNat = min m s.normal.toNat := by omega
            repeat (first|(apply sp_cond_f;(·exact eT rfl);(·rfl))|(apply spq_callp rfl;(·(repeat (first|exact eN|(apply eS;(·exact eT rfl)))));(·exact fun w' hh => hN2 w' (hK.hp hh)))|(apply spq_callp rfl;(·(repeat (first|exact eN|(apply eS;(·exact eT rfl)))));(·exact fun w' hh => hT2 w' (hK.hp hh)))|apply then_n|apply block_n|apply sp_seq|apply sp_region|apply spl_nil|((apply sp_cond_t);(·exact eT rfl);(·(exact decide_eq_true (by omega))))|apply sp_skip|apply sp_block|((first|apply spl_pure rfl|apply spq_pure rfl);(·(first|(apply ex_loadpartE (cs':=#[.slice A n c]);(·exact eT rfl);(·exact Bk.own InH.mem);(·rfl);(·rfl))|(apply ex_loadfield (ad:=ad2) (i:=q) (k:=0);(·exact eT rfl);(·exact hX.1);(·exact hA2);(·exact hs);(·rfl))|(apply ex_loadfield (ad:=ad2) (i:=q) (k:=1);(·exact eT rfl);(·exact hX.1);(·exact hA2);(·exact hs);(·rfl))|(apply ex_loadfield (ad:=ad3) (i:=m) (k:=0);(·exact eT rfl);(·exact hst.1);(·exact hA3);(·exact hz);(·rfl))|((first|apply ex_move|apply ex_assign|apply ex_fieldAddr'|apply ex_not|apply ex_lss|apply ex_len)<;>(exact eT rfl))|((apply ex_fieldAddr)<;>(exact eT rfl))|(apply ex_addn<;>(first|exact eT rfl|exact eC|(constructor<;>omega)))|((first|apply ex_loadown|apply ex_indexAddr)<;>(first|exact eT rfl|exact Bk.own InH.mem|rfl|assumption)))))|apply spq_nil|apply sp_draw mixed (by kernel_rfl))
            exact ⟨m + 1, hlt3, by (show s.ks.n - (m + 1) < s.ks.n - m; omega), (by rw [hmin]; (repeat (first|exact ESub.nil|apply ESub.cons rfl))), rfl, (by (repeat (exact HKeep.refl)))⟩
        · have hmin : ((min m s.normal.toNat : Nat) : Int) = s.normal := by omega
          rw [hmin]
          have hno : ¬ s.normal < 1 := by omega
          repeat (first|(apply sp_cond_f;(·exact eT rfl);(·(rw [decide_eq_false hno];simp)))|apply then_n|apply block_n|apply sp_seq|apply sp_region|apply spl_nil|apply then_e|apply block_here|(apply sp_cond_f;(·exact eT rfl);(·(exact decide_eq_false (by omega))))|apply sp_skip|apply sp_exit|((first|apply spl_pure rfl|(apply spl_pure_g rfl;(·exact Gd.tf rfl rfl)));(·(first|(apply ex_loadfield (ad:=ad2) (i:=q) (k:=1);(·exact eT rfl);(·exact hX.1);(·exact hA2);(·exact hs);(·rfl))|(apply ex_loadfield (ad:=ad2) (i:=q) (k:=2);(·exact eT rfl);(·exact hX.1);(·exact hA2);(·exact hs);(·rfl))|((first|apply ex_move|apply ex_assign|apply ex_fieldAddr'|apply ex_lss|apply ex_sneq|apply ex_len)<;>(first|exact eT rfl|exact eC|exact eG rfl))|((first|apply ex_fieldAddr|apply ex_neq|apply ex_orT)<;>(first|exact eT rfl|exact eG rfl))|(apply ex_addn<;>(first|exact eT rfl|exact eC|(constructor<;>omega)))|((first|apply ex_loadown|apply ex_indexAddr)<;>(first|exact eT rfl|exact Bk.own InH.mem|rfl|assumption))))))
          exact ⟨q + 1, hlt, by (show x.ss.n - (q + 1) < x.ss.n - q; omega), (by (repeat (first|exact ESub.nil|apply ESub.cons rfl))), rfl, (by (repeat (exact HKeep.refl)))⟩
      ·
        repeat (first|apply then_n|apply sp_seq|apply sp_region|apply spl_nil|apply then_e|apply block_here|(apply sp_cond_f;(·exact eT rfl);(·(exact decide_eq_false (by omega))))|apply sp_ret|apply sp_exit|((apply spl_pure rfl);(·(first|((first|apply ex_move|apply ex_assign|apply ex_fieldAddr'|apply ex_lss|apply ex_len)<;>(exact eT rfl))|((apply ex_loadown)<;>(first|exact eT rfl|exact Bk.own InH.mem|rfl))))))
        (apply ret_ok rfl;(·((apply Res.ofOne;((apply Res1.tmp;(·rfl))))))); rfl
end Go.Proofs.Ytfdjlphfohnnnaa
/-
  CatalogTexts, walked.
-/
namespace Go.Proofs.Ytfdjlphfohnnnaa
open Go.RowKit Go.Sy
set_option linter.unusedVariables false
set_option linter.unusedSimpArgs false
theorem textR_cases (ks : List KindR) : (validB ks = false ∧ textR ks = (⟨#[]⟩, 1)) ∨ (validB ks = true ∧ textR ks = (⟨#[]⟩, 7)) ∨ (validB ks = true ∧ textR ks = (textB (ks.map KindR.pure), 0) ∧ (lexR (textB (ks.map KindR.pure))).2.1 = 0) := by
  unfold textR
  cases validB ks with
  | false => exact .inl ⟨rfl, rfl⟩
  | true =>
    by_cases h : (lexR (textB (ks.map KindR.pure))).2.1 = 0
    · exact .inr (.inr ⟨rfl, by rw [if_pos rfl, if_pos h], h⟩)
    · exact .inr (.inl ⟨rfl, by rw [if_pos rfl, if_neg h]⟩)
theorem few2_c {w : World} {A A2 : Option Addr} {n c n2 c2 g : Nat} {ka kb : List KindR} (hA : RdKinds w w.heap.size ⟨A, n, c⟩ ka) (hB : RdKinds w w.heap.size ⟨A2, n2, c2⟩ kb) (hg : w.heap[g]? = some (.cells #[.slice A n c, .slice A2 n2 c2] 24 (0, 0))) :
    Calls Try.prog 10 #[.slice (some ⟨g, 0, none⟩) 2 2] w (Ret w (.bool (fewB ka && fewB kb))) := by
  have := few_c (w := w) (A := some ⟨g, 0, none⟩) (n := 2) (c := 2) (cs := [(⟨A, n, c⟩, ka), (⟨A2, n2, c2⟩, kb)]) ⟨RdS.ofFlat (C := catC) hg (Array.getElem?_eq_some_iff.1 hg).1 rfl (by decide) (fun _ _ => rfl) rfl, fun y hy => by
    rcases List.mem_cons.1 hy with rfl | hy
    · exact hA
    · rw [List.mem_singleton] at hy; subst hy; exact hB⟩
  simpa using this
theorem emp_size : (⟨#[]⟩ : ByteArray).size < 1000000000 := by decide
attribute [local irreducible] Calls thenQ blockQ retQ retFQ Spc Spl Spq Ex Ev Evs Gd Upd ESub HKeep Res Res1 wlk effQ Rem SrcAt Split lexR parseR sameC fewB validB textB textR
set_option maxRecDepth 100000 in
set_option maxHeartbeats 16000000 in
theorem lawTexts {w : World} {A A2 : Option Addr} {n c n2 c2 : Nat} {ka kb : List KindR} {t : ByteArray} (hA : RdKinds w w.heap.size ⟨A, n, c⟩ ka) (hB : RdKinds w w.heap.size ⟨A2, n2, c2⟩ kb) :
    Calls Try.prog 4 #[.agg #[.slice A n c], .agg #[.slice A2 n2 c2], .string t] w (Ret w (.bool true)) := by
  refine sp_enter (vs := [_, _, _]) Try.func4 rfl Try.ntmps4 rfl ?_
  repeat (first|(apply spl_callp rfl;(·(repeat (first|exact eN|(apply eS;(·exact eT rfl)))));(·exact fun w' hh => head_c))|(apply spl_callp rfl;(·(repeat (first|exact eN|(apply eS;(·exact eT rfl)))));(·exact fun w' hh => few2_c (hA.hp hh) (hB.hp hh) hh.ownI))|apply then_n|apply sp_seq|apply sp_region|apply spl_nil|((first|apply spl_pure rfl|(apply spl_pure_g rfl;(·exact Gd.tf rfl rfl)));(·(first|(apply ex_loadpartE (cs':=#[.slice A n c]);(·exact eT rfl);(·exact Bk.own InH.mem);(·rfl);(·rfl))|(apply ex_loadpartE (cs':=#[.slice A2 n2 c2]);(·exact eT rfl);(·exact Bk.own InH.mem);(·rfl);(·rfl))|((first|apply ex_move|apply ex_assign|apply ex_not|apply ex_gtr)<;>(first|exact eT rfl|exact eC|exact eG rfl))|((first|apply ex_slen|apply ex_orT)<;>(first|exact eT rfl|exact eG rfl)))))|(apply spl_box;(·exact eT rfl);(·rfl);intro _ _)|(apply spl_buildSlice rfl;(·rfl);(·(repeat (first|exact eN|(apply eS;(·exact eT rfl)))));(·rfl);(·rfl);(·rfl);intro _ _))
  rename_i gA hgA gB hgB gS hgS
  refine sp_cond (eT rfl) (fun hp => ?_) (fun hp => ?_)
  ·
    repeat (first|apply then_n|apply sp_seq|apply sp_region|apply spl_nil|apply then_r|apply sp_ret|((apply spl_pure rfl);(·(((first|apply ex_move|apply ex_assign)<;>(exact eT rfl))))))
    (apply ret_ok rfl;(·((apply Res.ofOne;((apply Res1.tmp;(·rfl))))))); rfl
  have hfa : fewB ka = true ∧ fewB kb = true ∧ ¬ (5000 : Int) < (t.size : Int) := by
    revert hp
    cases fewB ka <;> cases fewB kb <;> simp
  obtain ⟨hfa, hfb, ht⟩ := hfa
  clear hp
  refine spc_know (X := ∀ k ∈ ka, LensK k) (fun w' hh => (hA.hp hh).lens) fun hla => ?_
  refine spc_know (X := ∀ k ∈ kb, LensK k) (fun w' hh => (hB.hp hh).lens) fun hlb => ?_
  have hsa := (few_sized hfa).2
  have hsb := (few_sized hfb).2
  obtain ⟨u, f, hub⟩ : ∃ u f, textR kb = (u, f) := ⟨_, _, rfl⟩
  have hTb := fun (w' : World) (h' : RdKinds w' w'.heap.size ⟨A2, n2, c2⟩ kb) => text_e hub h' hsb
  have hVa := fun (w' : World) (h' : RdKinds w' w'.heap.size ⟨A, n, c⟩ ka) => valid_c (c := c) h' hsa
  obtain ⟨py, h, at_, hPt⟩ : ∃ a b c, parseR t = (a, b, c) := ⟨_, _, _, rfl⟩
  have hC : (∃ e, e ≠ 0 ∧ (decide (e = 1) == validB ka) = false ∧ textR ka = (⟨#[]⟩, e)) ∨ (validB ka = true ∧ textR ka = (textB (ka.map KindR.pure), 0) ∧ (lexR (textB (ka.map KindR.pure))).2.1 = 0) := by
    rcases textR_cases ka with ⟨h1, h2⟩ | ⟨h1, h2⟩ | ⟨h1, h2, h3⟩
    · exact .inl ⟨1, by decide, by rw [h1]; rfl, h2⟩
    · exact .inl ⟨7, by decide, by rw [h1]; rfl, h2⟩
    · exact .inr ⟨h1, h2, h3⟩
  rcases hC with ⟨e, he0, hev, hTe⟩ | ⟨hva, hTe, hlx⟩
  · have hTa := fun (w' : World) (h' : RdKinds w' w'.heap.size ⟨A, n, c⟩ ka) => text_e hTe h' hsa
    repeat (first|(apply spl_callp rfl;(·(repeat (first|exact eN|(apply eS;(·exact eT rfl)))));(·exact fun w' hh => hTa w' (hA.hp hh)))|(apply spl_callp rfl;(·(repeat (first|exact eN|(apply eS;(·exact eT rfl)))));(·exact fun w' hh => hTb w' (hB.hp hh)))|(apply spl_callp rfl;(·(repeat (first|exact eN|(apply eS;(·exact eT rfl)))));(·exact fun w' hh => hVa w' (hA.hp hh)))|(apply sp_cond_f;(·exact eT rfl);(·(rw [hev];simp)))|(apply sp_cond_f;(·exact eT rfl);(·exact decide_eq_false he0))|(apply spl_callh (X:=Heap × Sl × List KindR) rfl;(·(repeat (first|exact eN|(apply eS;(·exact eT rfl)))));(·exact fun w' hh => parse_e hPt (by omega));(rintro ⟨HY, sY, kY⟩ ⟨hcY, hpY, hnY⟩ hfY;dsimp only at hcY hpY hnY hfY))|apply then_n|apply sp_seq|apply sp_region|apply spl_nil|apply sp_skip|((first|apply spl_pure rfl|(apply spl_pure_g rfl;(·(first|exact Gd.tf rfl rfl|exact Gd.gt rfl rfl))));(·(first|(apply ex_loadpartE (cs':=#[.slice A n c]);(·exact eT rfl);(·exact Bk.own InH.mem);(·rfl);(·rfl))|(apply ex_loadpartE (cs':=#[.slice A2 n2 c2]);(·exact eT rfl);(·exact Bk.own InH.mem);(·rfl);(·rfl))|((first|apply ex_move|apply ex_assign|apply ex_seql|apply ex_sneq)<;>(first|exact eT rfl|exact eC|exact eG rfl))|((first|apply ex_eql|apply ex_neq|apply ex_orT)<;>(first|exact eT rfl|exact eC|exact eG rfl))|((first|apply ex_beql|apply ex_and)<;>(first|exact eT rfl|exact eG rfl))|((apply ex_extract)<;>(first|exact eT rfl|rfl)))))|(apply spl_alloc rfl;intro _ _)|(apply spl_stores;(·exact eT rfl);(·exact eT rfl);(·(repeat (exact Upd.here)));(·(rfl));(·(rfl));(·exact ones_of_all rfl)))
    by_cases hh0 : h = 0
    · subst hh0
      obtain ⟨hcvy, rfl⟩ := parseR_v hPt
      refine spc_know (X := ∀ k ∈ kY, LensK k) (fun w' hh => RdKinds.lens (hcY w' hh.holds)) fun hlY => ?_
      have hvY : validB kY = true := (valid_iff hlY).2 (by rw [hpY]; exact hcvy)
      have hszY := named_size (ks := kY) (by rw [hpY]; exact catV_named hcvy)
      have hVY := fun (w' : World) (h' : RdKinds w' w'.heap.size sY kY) => valid_c (A := sY.a) (n := sY.n) (c := sY.c) h' hszY
      rw [hvY] at hVY
      rcases textR_cases kY with ⟨q1, q2⟩ | ⟨q1, q2⟩ | ⟨q1, q2, q3⟩
      · rw [hvY] at q1; cases q1
      · obtain ⟨pz, iz, az, hPz⟩ : ∃ a b c, parseR ⟨#[]⟩ = (a, b, c) := ⟨_, _, _, rfl⟩
        repeat (first|(apply sp_cond_f;(·exact eT rfl);(·(simp;done)))|(apply spl_callp rfl;(·(repeat (first|exact eN|(apply eS;(·exact eT rfl)))));(·exact fun w' hh => text_e (A := sY.a) (n := sY.n) (c := sY.c) q2 (hcY w' hh.holds) hszY))|(apply spl_callp rfl;(·(repeat (first|exact eN|(apply eS;(·exact eT rfl)))));(·exact fun w' hh => hVY w' (hcY w' hh.holds)))|(apply spl_callh (X:=Heap × Sl × List KindR) rfl;(·(repeat (first|exact eN|(apply eS;(·exact eT rfl)))));(·exact fun w' hh => parse_e hPz emp_size);(rintro ⟨HZ, sZ, kZ⟩ ⟨hcZ, hpZ, hnZ⟩ hfZ;dsimp only at hcZ hpZ hnZ hfZ))|(apply spl_callp_g rfl;(·exact Gd.gt rfl rfl);(·(repeat (first|exact eN|(apply eS;(·exact eG rfl)))));(·exact fun _ w' hh => same_e rfl (hcZ w' hh.holds) (hcY w' hh.holds)))|apply then_n|apply sp_seq|apply sp_region|apply spl_nil|apply sp_skip|apply sp_ret|((first|apply spl_pure rfl|(apply spl_pure_g rfl;(·(first|exact Gd.tt rfl rfl|exact Gd.tf rfl rfl|exact Gd.gt rfl rfl))));(·(first|(apply ex_loadpartE (cs':=#[.slice sZ.a sZ.n sZ.c]);(·exact eT rfl);(·exact Bk.own InH.mem);(·rfl);(·rfl))|(apply ex_loadpartE (cs':=#[.slice sY.a sY.n sY.c]);(·exact eT rfl);(·exact Bk.own InH.mem);(·rfl);(·rfl))|((first|apply ex_move|apply ex_assign|apply ex_not|apply ex_seql|apply ex_sneq|apply ex_andT)<;>(first|exact eT rfl|exact eG rfl))|((first|apply ex_eql|apply ex_neq|apply ex_orT)<;>(first|exact eT rfl|exact eC|exact eG rfl))|((apply ex_and)<;>(exact eG rfl))|((apply ex_extract)<;>(first|exact eT rfl|rfl)))))|(apply spl_alloc rfl;intro _ _)|(apply spl_stores;(·exact eT rfl);(·exact eT rfl);(·(repeat (exact Upd.here)));(·(rfl));(·(rfl));(·exact ones_of_all rfl)))
        (apply ret_ok rfl;(·((apply Res.ofOne;((apply Res1.tmp;(·rfl))))))); simp
      · have hPz := text_parse (by rw [hpY]; exact hcvy) q3
        have hzs := (lexR_ok q3).1
        repeat (first|(apply sp_cond_f;(·exact eT rfl);(·(simp;done)))|(apply spl_callp rfl;(·(repeat (first|exact eN|(apply eS;(·exact eT rfl)))));(·exact fun w' hh => text_e (A := sY.a) (n := sY.n) (c := sY.c) q2 (hcY w' hh.holds) hszY))|(apply spl_callp rfl;(·(repeat (first|exact eN|(apply eS;(·exact eT rfl)))));(·exact fun w' hh => hVY w' (hcY w' hh.holds)))|(apply spl_callh (X:=Heap × Sl × List KindR) rfl;(·(repeat (first|exact eN|(apply eS;(·exact eT rfl)))));(·exact fun w' hh => parse_e hPz (by omega));(rintro ⟨HZ, sZ, kZ⟩ ⟨hcZ, hpZ, hnZ⟩ hfZ;dsimp only at hcZ hpZ hnZ hfZ))|(apply spl_callp_g rfl;(·exact Gd.tt rfl rfl);(·(repeat (first|exact eN|(apply eS;(·exact eT rfl)))));(·exact fun _ w' hh => same_e ((sameC_iff (parse_norm hPz hpZ) (parse_norm hPt hpY)).2 hpZ) (hcZ w' hh.holds) (hcY w' hh.holds)))|apply then_n|apply sp_seq|apply sp_region|apply spl_nil|apply sp_skip|apply sp_ret|((first|apply spl_pure rfl|(apply spl_pure_g rfl;(·(first|exact Gd.tt rfl rfl|exact Gd.tf rfl rfl))));(·(first|(apply ex_loadpartE (cs':=#[.slice sZ.a sZ.n sZ.c]);(·exact eT rfl);(·exact Bk.own InH.mem);(·rfl);(·rfl))|(apply ex_loadpartE (cs':=#[.slice sY.a sY.n sY.c]);(·exact eT rfl);(·exact Bk.own InH.mem);(·rfl);(·rfl))|((first|apply ex_move|apply ex_assign|apply ex_not|apply ex_seql|apply ex_sneq|apply ex_andT)<;>(first|exact eT rfl|exact eG rfl))|((first|apply ex_eql|apply ex_neq|apply ex_orT)<;>(first|exact eT rfl|exact eC|exact eG rfl))|((apply ex_extract)<;>(first|exact eT rfl|rfl)))))|(apply spl_alloc rfl;intro _ _)|(apply spl_stores;(·exact eT rfl);(·exact eT rfl);(·(repeat (exact Upd.here)));(·(rfl));(·(rfl));(·exact ones_of_all rfl)))
        (apply ret_ok rfl;(·((apply Res.ofOne;((apply Res1.tmp;(·rfl))))))); simp
    · obtain ⟨rfl, ha1, ha2⟩ := parseR_e hPt hh0
      have hkY : kY = [] := List.map_eq_nil_iff.1 hpY
      refine spc_know (X := sY.n = 0) (fun w' hh => by have := (hcY w' hh.holds).1.len; rw [hkY] at this; exact this.symm) fun hsn => ?_
      repeat (first|(apply sp_cond_t;(·exact eT rfl);(·(simp [hh0])))|apply then_n|apply sp_seq|apply sp_region|apply spl_nil|apply then_r|apply sp_ret|((first|apply spl_pure rfl|(apply spl_pure_g rfl;(·exact Gd.tt rfl rfl)));(·(first|((first|apply ex_move|apply ex_assign|apply ex_fieldAddr'|apply ex_leq|apply ex_geq|apply ex_seql|apply ex_len|apply ex_andT)<;>(first|exact eT rfl|exact eC|exact eG rfl))|((first|apply ex_eql|apply ex_slen)<;>(first|exact eT rfl|exact eC|exact eG rfl))|((apply ex_loadown)<;>(first|exact eT rfl|exact Bk.own InH.mem|rfl))))))
      (apply ret_ok rfl;(·((apply Res.ofOne;((apply Res1.tmp;(·rfl))))))); simp [hsn]; omega
  · have hcva := (valid_iff hla).1 hva
    have hzs := (lexR_ok hlx).1
    have hTa := fun (w' : World) (h' : RdKinds w' w'.heap.size ⟨A, n, c⟩ ka) => text_e hTe h' hsa
    rw [hva] at hVa
    have hPx := text_parse hcva hlx
    have hfab : f = 0 → decide (textB (ka.map KindR.pure) = u) = sameC ka kb := fun hf => by
      rcases textR_cases kb with ⟨q1, q2⟩ | ⟨q1, q2⟩ | ⟨q1, q2, q3⟩
      · rw [hub] at q2; cases q2; cases hf
      · rw [hub] at q2; cases q2; cases hf
      · rw [hub] at q2
        cases q2
        have hcvb := (valid_iff hlb).1 q1
        have h1 := text_inj hcva hcvb hlx q3
        have h2 := sameC_iff (NormK.ofV hcva) (NormK.ofV hcvb)
        rw [Bool.eq_iff_iff, decide_eq_true_eq, h1, h2]
    repeat (first|(apply spl_callp rfl;(·(repeat (first|exact eN|(apply eS;(·exact eT rfl)))));(·exact fun w' hh => hTa w' (hA.hp hh)))|(apply spl_callp rfl;(·(repeat (first|exact eN|(apply eS;(·exact eT rfl)))));(·exact fun w' hh => hTb w' (hB.hp hh)))|(apply spl_callp rfl;(·(repeat (first|exact eN|(apply eS;(·exact eT rfl)))));(·exact fun w' hh => hVa w' (hA.hp hh)))|(apply sp_cond_f;(·exact eT rfl);(·(simp;done)))|(apply sp_cond_t;(·exact eT rfl);(·rfl))|(apply spl_callh (X:=Heap × Sl × List KindR) rfl;(·(repeat (first|exact eN|(apply eS;(·exact eT rfl)))));(·exact fun w' hh => parse_e hPx (by omega));(rintro ⟨HX, sX, kX⟩ ⟨hcX, hpX, hnX⟩ hfX;dsimp only at hcX hpX hnX hfX;have hsX := (sameC_iff (parse_norm hPx hpX) (NormK.ofV hcva)).2 hpX))|apply then_n|apply sp_seq|apply sp_region|apply spl_nil|apply sp_skip|((first|apply spl_pure rfl|(apply spl_pure_g rfl;(·(first|exact Gd.tt rfl rfl|exact Gd.tf rfl rfl))));(·(first|(apply ex_loadpartE (cs':=#[.slice A n c]);(·exact eT rfl);(·exact Bk.own InH.mem);(·rfl);(·rfl))|(apply ex_loadpartE (cs':=#[.slice A2 n2 c2]);(·exact eT rfl);(·exact Bk.own InH.mem);(·rfl);(·rfl))|((first|apply ex_move|apply ex_assign|apply ex_seql|apply ex_sneq|apply ex_andT)<;>(first|exact eT rfl|exact eC|exact eG rfl))|((first|apply ex_eql|apply ex_neq|apply ex_orT)<;>(first|exact eT rfl|exact eC))|((apply ex_beql)<;>(exact eT rfl))|((apply ex_extract)<;>(first|exact eT rfl|rfl))|(apply ex_loadowns<;>(first|exact eT rfl|exact Bk.own InH.mem|(rfl))))))|(apply spl_alloc rfl;intro _ _)|(apply spl_stores;(·exact eT rfl);(·exact eT rfl);(·(repeat (exact Upd.here)));(·(rfl));(·(rfl));(·exact ones_of_all rfl))|(apply spl_guard_t;(·exact Gd.tf rfl rfl);(·rfl)))
    rename_i gX hgX
    by_cases hf0 : f = 0
    · subst hf0
      have hE := hfab rfl
      repeat (first|(apply spl_callp_g rfl;(·(first|exact Gd.none|exact Gd.tt rfl rfl));(·(repeat (first|exact eN|(apply eS;(·exact eT rfl)))));(·exact fun _ w' hh => same_e hsX (hcX w' hh.holds) (hA.hp hh)))|(apply spl_callp_g rfl;(·exact Gd.tt rfl rfl);(·(repeat (first|exact eN|(apply eS;(·exact eT rfl)))));(·exact fun _ w' hh => same_e rfl (hA.hp hh) (hB.hp hh)))|apply then_n|apply spl_nil|((first|apply spl_pure rfl|(apply spl_pure_g rfl;(·(first|exact Gd.tt rfl rfl|exact Gd.tf rfl rfl))));(·(first|(apply ex_loadpartE (cs':=#[.slice A n c]);(·exact eT rfl);(·exact Bk.own InH.mem);(·rfl);(·rfl))|(apply ex_loadpartE (cs':=#[.slice A2 n2 c2]);(·exact eT rfl);(·exact Bk.own InH.mem);(·rfl);(·rfl))|((first|apply ex_move|apply ex_not|apply ex_seql|apply ex_sneq|apply ex_andT)<;>(exact eT rfl))|((first|apply ex_eql|apply ex_neq|apply ex_orT)<;>(first|exact eT rfl|exact eC))|((apply ex_bneq)<;>(exact eT rfl))))))
      refine sp_cond_f (by (exact eT rfl)) (by rw [hE]; simp) ?_
      repeat (first|(apply spl_callh (X:=Heap × Sl × List KindR) rfl;(·(repeat (first|exact eN|(apply eS;(·exact eT rfl)))));(·exact fun w' hh => parse_e hPt (by omega));(rintro ⟨HY, sY, kY⟩ ⟨hcY, hpY, hnY⟩ hfY;dsimp only at hcY hpY hnY hfY))|apply then_n|apply sp_seq|apply sp_region|apply spl_nil|apply sp_skip|((apply spl_pure rfl);(·(first|((first|apply ex_move|apply ex_assign|apply ex_sneq)<;>(exact eT rfl))|((apply ex_neq)<;>(first|exact eT rfl|exact eC))|((apply ex_extract)<;>(first|exact eT rfl|rfl)))))|(apply spl_alloc rfl;intro _ _)|(apply spl_stores;(·exact eT rfl);(·exact eT rfl);(·(repeat (exact Upd.here)));(·(rfl));(·(rfl));(·exact ones_of_all rfl)))
      by_cases hh0 : h = 0
      · subst hh0
        obtain ⟨hcvy, rfl⟩ := parseR_v hPt
        refine spc_know (X := ∀ k ∈ kY, LensK k) (fun w' hh => RdKinds.lens (hcY w' hh.holds)) fun hlY => ?_
        have hvY : validB kY = true := (valid_iff hlY).2 (by rw [hpY]; exact hcvy)
        have hszY := named_size (ks := kY) (by rw [hpY]; exact catV_named hcvy)
        have hVY := fun (w' : World) (h' : RdKinds w' w'.heap.size sY kY) => valid_c (A := sY.a) (n := sY.n) (c := sY.c) h' hszY
        rw [hvY] at hVY
        rcases textR_cases kY with ⟨q1, q2⟩ | ⟨q1, q2⟩ | ⟨q1, q2, q3⟩
        · rw [hvY] at q1; cases q1
        · obtain ⟨pz, iz, az, hPz⟩ : ∃ a b c, parseR ⟨#[]⟩ = (a, b, c) := ⟨_, _, _, rfl⟩
          repeat (first|(apply sp_cond_f;(·exact eT rfl);(·(simp;done)))|(apply spl_callp rfl;(·(repeat (first|exact eN|(apply eS;(·exact eT rfl)))));(·exact fun w' hh => text_e (A := sY.a) (n := sY.n) (c := sY.c) q2 (hcY w' hh.holds) hszY))|(apply spl_callp rfl;(·(repeat (first|exact eN|(apply eS;(·exact eT rfl)))));(·exact fun w' hh => hVY w' (hcY w' hh.holds)))|(apply spl_callh (X:=Heap × Sl × List KindR) rfl;(·(repeat (first|exact eN|(apply eS;(·exact eT rfl)))));(·exact fun w' hh => parse_e hPz emp_size);(rintro ⟨HZ, sZ, kZ⟩ ⟨hcZ, hpZ, hnZ⟩ hfZ;dsimp only at hcZ hpZ hnZ hfZ))|(apply spl_callp_g rfl;(·exact Gd.gt rfl rfl);(·(repeat (first|exact eN|(apply eS;(·exact eG rfl)))));(·exact fun _ w' hh => same_e rfl (hcZ w' hh.holds) (hcY w' hh.holds)))|apply then_n|apply sp_seq|apply sp_region|apply spl_nil|apply sp_skip|apply sp_ret|((first|apply spl_pure rfl|(apply spl_pure_g rfl;(·(first|exact Gd.tt rfl rfl|exact Gd.tf rfl rfl|exact Gd.gt rfl rfl))));(·(first|(apply ex_loadpartE (cs':=#[.slice sZ.a sZ.n sZ.c]);(·exact eT rfl);(·exact Bk.own InH.mem);(·rfl);(·rfl))|(apply ex_loadpartE (cs':=#[.slice sY.a sY.n sY.c]);(·exact eT rfl);(·exact Bk.own InH.mem);(·rfl);(·rfl))|((first|apply ex_move|apply ex_assign|apply ex_not|apply ex_seql|apply ex_sneq|apply ex_andT)<;>(first|exact eT rfl|exact eG rfl))|((first|apply ex_eql|apply ex_neq|apply ex_orT)<;>(first|exact eT rfl|exact eC|exact eG rfl))|((apply ex_and)<;>(exact eG rfl))|((apply ex_extract)<;>(first|exact eT rfl|rfl)))))|(apply spl_alloc rfl;intro _ _)|(apply spl_stores;(·exact eT rfl);(·exact eT rfl);(·(repeat (exact Upd.here)));(·(rfl));(·(rfl));(·exact ones_of_all rfl)))
          (apply ret_ok rfl;(·((apply Res.ofOne;((apply Res1.tmp;(·rfl))))))); simp
        · have hPz := text_parse (by rw [hpY]; exact hcvy) q3
          have hzs := (lexR_ok q3).1
          repeat (first|(apply sp_cond_f;(·exact eT rfl);(·(simp;done)))|(apply spl_callp rfl;(·(repeat (first|exact eN|(apply eS;(·exact eT rfl)))));(·exact fun w' hh => text_e (A := sY.a) (n := sY.n) (c := sY.c) q2 (hcY w' hh.holds) hszY))|(apply spl_callp rfl;(·(repeat (first|exact eN|(apply eS;(·exact eT rfl)))));(·exact fun w' hh => hVY w' (hcY w' hh.holds)))|(apply spl_callh (X:=Heap × Sl × List KindR) rfl;(·(repeat (first|exact eN|(apply eS;(·exact eT rfl)))));(·exact fun w' hh => parse_e hPz (by omega));(rintro ⟨HZ, sZ, kZ⟩ ⟨hcZ, hpZ, hnZ⟩ hfZ;dsimp only at hcZ hpZ hnZ hfZ))|(apply spl_callp_g rfl;(·exact Gd.tt rfl rfl);(·(repeat (first|exact eN|(apply eS;(·exact eT rfl)))));(·exact fun _ w' hh => same_e ((sameC_iff (parse_norm hPz hpZ) (parse_norm hPt hpY)).2 hpZ) (hcZ w' hh.holds) (hcY w' hh.holds)))|apply then_n|apply sp_seq|apply sp_region|apply spl_nil|apply sp_skip|apply sp_ret|((first|apply spl_pure rfl|(apply spl_pure_g rfl;(·(first|exact Gd.tt rfl rfl|exact Gd.tf rfl rfl))));(·(first|(apply ex_loadpartE (cs':=#[.slice sZ.a sZ.n sZ.c]);(·exact eT rfl);(·exact Bk.own InH.mem);(·rfl);(·rfl))|(apply ex_loadpartE (cs':=#[.slice sY.a sY.n sY.c]);(·exact eT rfl);(·exact Bk.own InH.mem);(·rfl);(·rfl))|((first|apply ex_move|apply ex_assign|apply ex_not|apply ex_seql|apply ex_sneq|apply ex_andT)<;>(first|exact eT rfl|exact eG rfl))|((first|apply ex_eql|apply ex_neq|apply ex_orT)<;>(first|exact eT rfl|exact eC|exact eG rfl))|((apply ex_extract)<;>(first|exact eT rfl|rfl)))))|(apply spl_alloc rfl;intro _ _)|(apply spl_stores;(·exact eT rfl);(·exact eT rfl);(·(repeat (exact Upd.here)));(·(rfl));(·(rfl));(·exact ones_of_all rfl)))
          (apply ret_ok rfl;(·((apply Res.ofOne;((apply Res1.tmp;(·rfl))))))); simp
      · obtain ⟨rfl, ha1, ha2⟩ := parseR_e hPt hh0
        have hkY : kY = [] := List.map_eq_nil_iff.1 hpY
        refine spc_know (X := sY.n = 0) (fun w' hh => by have := (hcY w' hh.holds).1.len; rw [hkY] at this; exact this.symm) fun hsn => ?_
        repeat (first|(apply sp_cond_t;(·exact eT rfl);(·(simp [hh0])))|apply then_n|apply sp_seq|apply sp_region|apply spl_nil|apply then_r|apply sp_ret|((first|apply spl_pure rfl|(apply spl_pure_g rfl;(·exact Gd.tt rfl rfl)));(·(first|((first|apply ex_move|apply ex_assign|apply ex_fieldAddr'|apply ex_leq|apply ex_geq|apply ex_seql|apply ex_len|apply ex_andT)<;>(first|exact eT rfl|exact eC|exact eG rfl))|((first|apply ex_eql|apply ex_slen)<;>(first|exact eT rfl|exact eC|exact eG rfl))|((apply ex_loadown)<;>(first|exact eT rfl|exact Bk.own InH.mem|rfl))))))
        (apply ret_ok rfl;(·((apply Res.ofOne;((apply Res1.tmp;(·rfl))))))); simp [hsn]; omega
    ·
      repeat (first|(apply spl_callp_g rfl;(·(first|exact Gd.none|exact Gd.tt rfl rfl));(·(repeat (first|exact eN|(apply eS;(·(first|exact eT rfl|exact eG rfl))))));(·exact fun _ w' hh => same_e hsX (hcX w' hh.holds) (hA.hp hh)))|(apply spl_callp_g rfl;(·exact Gd.tt rfl rfl);(·(repeat (first|exact eN|(apply eS;(·exact eG rfl)))));(·exact fun _ w' hh => same_e rfl (hA.hp hh) (hB.hp hh)))|apply then_n|apply spl_nil|((first|apply spl_pure rfl|(apply spl_pure_g rfl;(·(first|exact Gd.tt rfl rfl|exact Gd.tf rfl rfl))));(·(first|(apply ex_loadpartE (cs':=#[.slice A n c]);(·exact eT rfl);(·exact Bk.own InH.mem);(·rfl);(·rfl))|(apply ex_loadpartE (cs':=#[.slice A2 n2 c2]);(·exact eT rfl);(·exact Bk.own InH.mem);(·rfl);(·rfl))|((first|apply ex_move|apply ex_not|apply ex_seql|apply ex_sneq|apply ex_andT)<;>(first|exact eT rfl|exact eG rfl))|((first|apply ex_eql|apply ex_neq|apply ex_orT)<;>(first|exact eT rfl|exact eC))|((apply ex_bneq)<;>(exact eG rfl))))))
      refine sp_cond_f (by (exact eT rfl)) (by simp [hf0]) ?_
      repeat (first|(apply spl_callh (X:=Heap × Sl × List KindR) rfl;(·(repeat (first|exact eN|(apply eS;(·exact eT rfl)))));(·exact fun w' hh => parse_e hPt (by omega));(rintro ⟨HY, sY, kY⟩ ⟨hcY, hpY, hnY⟩ hfY;dsimp only at hcY hpY hnY hfY))|apply then_n|apply sp_seq|apply sp_region|apply spl_nil|apply sp_skip|((apply spl_pure rfl);(·(first|((first|apply ex_move|apply ex_assign|apply ex_sneq)<;>(exact eT rfl))|((apply ex_neq)<;>(first|exact eT rfl|exact eC))|((apply ex_extract)<;>(first|exact eT rfl|rfl)))))|(apply spl_alloc rfl;intro _ _)|(apply spl_stores;(·exact eT rfl);(·exact eT rfl);(·(repeat (exact Upd.here)));(·(rfl));(·(rfl));(·exact ones_of_all rfl)))
      by_cases hh0 : h = 0
      · subst hh0
        obtain ⟨hcvy, rfl⟩ := parseR_v hPt
        refine spc_know (X := ∀ k ∈ kY, LensK k) (fun w' hh => RdKinds.lens (hcY w' hh.holds)) fun hlY => ?_
        have hvY : validB kY = true := (valid_iff hlY).2 (by rw [hpY]; exact hcvy)
        have hszY := named_size (ks := kY) (by rw [hpY]; exact catV_named hcvy)
        have hVY := fun (w' : World) (h' : RdKinds w' w'.heap.size sY kY) => valid_c (A := sY.a) (n := sY.n) (c := sY.c) h' hszY
        rw [hvY] at hVY
        rcases textR_cases kY with ⟨q1, q2⟩ | ⟨q1, q2⟩ | ⟨q1, q2, q3⟩
        · rw [hvY] at q1; cases q1
        · obtain ⟨pz, iz, az, hPz⟩ : ∃ a b c, parseR ⟨#[]⟩ = (a, b, c) := ⟨_, _, _, rfl⟩
          repeat (first|(apply sp_cond_f;(·exact eT rfl);(·(simp;done)))|(apply spl_callp rfl;(·(repeat (first|exact eN|(apply eS;(·exact eT rfl)))));(·exact fun w' hh => text_e (A := sY.a) (n := sY.n) (c := sY.c) q2 (hcY w' hh.holds) hszY))|(apply spl_callp rfl;(·(repeat (first|exact eN|(apply eS;(·exact eT rfl)))));(·exact fun w' hh => hVY w' (hcY w' hh.holds)))|(apply spl_callh (X:=Heap × Sl × List KindR) rfl;(·(repeat (first|exact eN|(apply eS;(·exact eT rfl)))));(·exact fun w' hh => parse_e hPz emp_size);(rintro ⟨HZ, sZ, kZ⟩ ⟨hcZ, hpZ, hnZ⟩ hfZ;dsimp only at hcZ hpZ hnZ hfZ))|(apply spl_callp_g rfl;(·exact Gd.gt rfl rfl);(·(repeat (first|exact eN|(apply eS;(·exact eG rfl)))));(·exact fun _ w' hh => same_e rfl (hcZ w' hh.holds) (hcY w' hh.holds)))|apply then_n|apply sp_seq|apply sp_region|apply spl_nil|apply sp_skip|apply sp_ret|((first|apply spl_pure rfl|(apply spl_pure_g rfl;(·(first|exact Gd.tt rfl rfl|exact Gd.tf rfl rfl|exact Gd.gt rfl rfl))));(·(first|(apply ex_loadpartE (cs':=#[.slice sZ.a sZ.n sZ.c]);(·exact eT rfl);(·exact Bk.own InH.mem);(·rfl);(·rfl))|(apply ex_loadpartE (cs':=#[.slice sY.a sY.n sY.c]);(·exact eT rfl);(·exact Bk.own InH.mem);(·rfl);(·rfl))|((first|apply ex_move|apply ex_assign|apply ex_not|apply ex_seql|apply ex_sneq|apply ex_andT)<;>(first|exact eT rfl|exact eG rfl))|((first|apply ex_eql|apply ex_neq|apply ex_orT)<;>(first|exact eT rfl|exact eC|exact eG rfl))|((apply ex_and)<;>(exact eG rfl))|((apply ex_extract)<;>(first|exact eT rfl|rfl)))))|(apply spl_alloc rfl;intro _ _)|(apply spl_stores;(·exact eT rfl);(·exact eT rfl);(·(repeat (exact Upd.here)));(·(rfl));(·(rfl));(·exact ones_of_all rfl)))
          (apply ret_ok rfl;(·((apply Res.ofOne;((apply Res1.tmp;(·rfl))))))); simp
        · have hPz := text_parse (by rw [hpY]; exact hcvy) q3
          have hzs := (lexR_ok q3).1
          repeat (first|(apply sp_cond_f;(·exact eT rfl);(·(simp;done)))|(apply spl_callp rfl;(·(repeat (first|exact eN|(apply eS;(·exact eT rfl)))));(·exact fun w' hh => text_e (A := sY.a) (n := sY.n) (c := sY.c) q2 (hcY w' hh.holds) hszY))|(apply spl_callp rfl;(·(repeat (first|exact eN|(apply eS;(·exact eT rfl)))));(·exact fun w' hh => hVY w' (hcY w' hh.holds)))|(apply spl_callh (X:=Heap × Sl × List KindR) rfl;(·(repeat (first|exact eN|(apply eS;(·exact eT rfl)))));(·exact fun w' hh => parse_e hPz (by omega));(rintro ⟨HZ, sZ, kZ⟩ ⟨hcZ, hpZ, hnZ⟩ hfZ;dsimp only at hcZ hpZ hnZ hfZ))|(apply spl_callp_g rfl;(·exact Gd.tt rfl rfl);(·(repeat (first|exact eN|(apply eS;(·exact eT rfl)))));(·exact fun _ w' hh => same_e ((sameC_iff (parse_norm hPz hpZ) (parse_norm hPt hpY)).2 hpZ) (hcZ w' hh.holds) (hcY w' hh.holds)))|apply then_n|apply sp_seq|apply sp_region|apply spl_nil|apply sp_skip|apply sp_ret|((first|apply spl_pure rfl|(apply spl_pure_g rfl;(·(first|exact Gd.tt rfl rfl|exact Gd.tf rfl rfl))));(·(first|(apply ex_loadpartE (cs':=#[.slice sZ.a sZ.n sZ.c]);(·exact eT rfl);(·exact Bk.own InH.mem);(·rfl);(·rfl))|(apply ex_loadpartE (cs':=#[.slice sY.a sY.n sY.c]);(·exact eT rfl);(·exact Bk.own InH.mem);(·rfl);(·rfl))|((first|apply ex_move|apply ex_assign|apply ex_not|apply ex_seql|apply ex_sneq|apply ex_andT)<;>(first|exact eT rfl|exact eG rfl))|((first|apply ex_eql|apply ex_neq|apply ex_orT)<;>(first|exact eT rfl|exact eC|exact eG rfl))|((apply ex_extract)<;>(first|exact eT rfl|rfl)))))|(apply spl_alloc rfl;intro _ _)|(apply spl_stores;(·exact eT rfl);(·exact eT rfl);(·(repeat (exact Upd.here)));(·(rfl));(·(rfl));(·exact ones_of_all rfl)))
          (apply ret_ok rfl;(·((apply Res.ofOne;((apply Res1.tmp;(·rfl))))))); simp
      · obtain ⟨rfl, ha1, ha2⟩ := parseR_e hPt hh0
        have hkY : kY = [] := List.map_eq_nil_iff.1 hpY
        refine spc_know (X := sY.n = 0) (fun w' hh => by have := (hcY w' hh.holds).1.len; rw [hkY] at this; exact this.symm) fun hsn => ?_
        repeat (first|(apply sp_cond_t;(·exact eT rfl);(·(simp [hh0])))|apply then_n|apply sp_seq|apply sp_region|apply spl_nil|apply then_r|apply sp_ret|((first|apply spl_pure rfl|(apply spl_pure_g rfl;(·exact Gd.tt rfl rfl)));(·(first|((first|apply ex_move|apply ex_assign|apply ex_fieldAddr'|apply ex_leq|apply ex_geq|apply ex_seql|apply ex_len|apply ex_andT)<;>(first|exact eT rfl|exact eC|exact eG rfl))|((first|apply ex_eql|apply ex_slen)<;>(first|exact eT rfl|exact eC|exact eG rfl))|((apply ex_loadown)<;>(first|exact eT rfl|exact Bk.own InH.mem|rfl))))))
        (apply ret_ok rfl;(·((apply Res.ofOne;((apply Res1.tmp;(·rfl))))))); simp [hsn]; omega
end Go.Proofs.Ytfdjlphfohnnnaa
/-
  CatalogBegins, walked.
-/
namespace Go.Proofs.Ytfdjlphfohnnnaa
open Go.RowKit Go.Sy
set_option linter.unusedVariables false
set_option linter.unusedSimpArgs false
theorem ex_slice_hE {P : Program} {Be : Nat} {w0 : World} {H : Heap} {G : Bool} {e : Env} {ty : TypeId} {t el : TypeId} {x y : Operand} {A : Option Addr} {n c sz m : Nat} {k : IntKind} (h1 : Ev G e x (.slice A n c)) (h2 : Ev G e y (.int k (m : Int))) (hb : m ≤ c) [ht : TSlice P t el] [hs : TSize P el sz] :
    Ex P Be w0 H G e (.slice t x none (some y) none) ty (.slice A m c) := by
  have := ex_slice_h (P := P) (Be := Be) (w0 := w0) (H := H) (ty := ty) h1 h2 ⟨by omega, by omega⟩ (ht := ht) (hs := hs)
  rwa [Int.toNat_natCast] at this
theorem ex_remL {P : Program} {Be : Nat} {w0 : World} {H : Heap} {G : Bool} {e : Env} {ty t t' : TypeId} {x y : Operand} {k : IntKind} {m n q : Nat} (hq : m % n = q) (hn : n ≠ 0) (h1 : Ev G e x (.int k (m : Int))) (h2 : Ev G e y (.int k (n : Int))) : Ex P Be w0 H G e (.binOp .rem t x y t') ty (.int k (q : Int)) := by
  have := ex_rem (P := P) (Be := Be) (w0 := w0) (H := H) (ty := ty) (t := t) (t' := t') h1 h2 (by omega)
  rwa [show (m : Int).tmod (n : Int) = (q : Int) from by rw [← hq]; rfl] at this
theorem RdKinds.take {w : World} {Be n c m : Nat} {A : Option Addr} {ks : List KindR} (h : RdKinds w Be ⟨A, n, c⟩ ks) (hm : m ≤ n) : RdKinds w Be ⟨A, m, c⟩ (ks.take m) := ⟨h.1.take hm, fun x hx => h.2 x (List.mem_of_mem_take hx)⟩
attribute [local irreducible] Calls thenQ blockQ retQ retFQ Spc Spl Spq Ex Ev Evs Gd Upd ESub HKeep Res Res1 wlk effQ Rem SrcAt Split fewB validB takesB normalB
set_option maxRecDepth 100000 in
set_option maxHeartbeats 8000000 in
theorem lawBegins {w : World} {A : Option Addr} {n c raw : Nat} {ks : List KindR} {kind slot other : ByteArray} (hraw : raw < 256) (hK : RdKinds w w.heap.size ⟨A, n, c⟩ ks) (hnc : n ≤ c) :
    Calls Try.prog 6 #[.agg #[.slice A n c], .int .u8 (raw : Int), .string kind, .string slot, .string other] w (Ret w (.bool true)) := by
  have hbd : n ≤ 9223372036854775807 := hK.1.bound
  refine sp_enter (vs := [_, _, _, _, _]) Try.func6 rfl Try.ntmps6 rfl ?_
  repeat (first|(apply spl_callp rfl;(·(repeat (first|exact eN|(apply eS;(·exact eT rfl)))));(·exact fun w' hh => head_c))|(apply spl_callp rfl;(·(repeat (first|exact eN|(apply eS;(·exact eT rfl)))));(·exact fun w' hh => few1_c (hK.hp hh) hh.ownI))|(apply spl_callp_g rfl;(·exact Gd.tf rfl rfl);(·(repeat (first|exact eN|(apply eS;(·exact eG rfl)))));(·exact fun hG w' hh => valid_c (hK.hp hh) (few_sized (by simpa using hG)).2))|apply then_n|apply sp_seq|apply sp_region|apply spl_nil|((first|apply spl_pure rfl|(apply spl_pure_g rfl;(·exact Gd.tf rfl rfl)));(·(first|(apply ex_loadpartE (cs':=#[.slice A n c]);(·exact eT rfl);(·exact Bk.own InH.mem);(·rfl);(·rfl))|((first|apply ex_move|apply ex_assign|apply ex_not|apply ex_gtr)<;>(first|exact eT rfl|exact eC|exact eG rfl))|((first|apply ex_slen|apply ex_orT)<;>(first|exact eT rfl|exact eG rfl))|(apply ex_add<;>(exact eG rfl)))))|(apply spl_box;(·exact eT rfl);(·rfl);intro _ _)|(apply spl_buildSlice rfl;(·rfl);(·(repeat (first|exact eN|(apply eS;(·exact eT rfl)))));(·rfl);(·rfl);(·rfl);intro _ _))
  rename_i g4 hg4 gS hgS
  refine sp_cond (eT rfl) (fun hp => ?_) (fun hp => ?_)
  ·
    repeat (first|apply then_n|apply sp_seq|apply sp_region|apply spl_nil|apply then_r|apply sp_ret|((apply spl_pure rfl);(·(((first|apply ex_move|apply ex_assign)<;>(exact eT rfl))))))
    (apply ret_ok rfl;(·((apply Res.ofOne;((apply Res1.tmp;(·rfl))))))); rfl
  · have hfew : fewB ks = true := by
      cases hf : fewB ks with
      | true => rfl
      | false => rw [hf] at hp; simp at hp
    have hval : validB ks = true := by
      cases hf : validB ks with
      | true => rfl
      | false => rw [hf] at hp; simp at hp
    clear hp
    refine spc_know (X := ∀ k ∈ ks, LensK k) (fun w' hh => (hK.hp hh).lens) fun hl => ?_
    have hcv := (valid_iff hl).1 hval
    have hsz := (few_sized hfew).2
    have h65 : n ≤ 65 := by have := (few_sized hfew).1; rw [hK.1.len] at this; exact this
    obtain ⟨m, hm⟩ : ∃ m, raw % (n + 1) = m := ⟨_, rfl⟩
    have hmn : m ≤ n := by have := Nat.mod_lt raw (show 0 < n + 1 by omega); omega
    have hw8 : IntKind.i64.wrap (raw : Int) = (raw : Int) := wrap64_in (by omega)
    have hKm := hK.take hmn
    have hlm : ∀ k ∈ ks.take m, LensK k := fun k hk => hl k (List.mem_of_mem_take hk)
    have hvm : validB (ks.take m) = true := (valid_iff hlm).2 (by rw [List.map_take]; exact catV_take hcv m)
    have hszm : ∀ k ∈ ks.take m, k.name.size < 9223372036854775808 ∧ ∀ s ∈ k.slots, s.name.size < 9223372036854775808 := fun k hk => hsz k (List.mem_of_mem_take hk)
    have hV := fun (w' : World) (h' : RdKinds w' w'.heap.size ⟨A, m, c⟩ (ks.take m)) => valid_c (c := c) h' hszm
    rw [hvm] at hV
    obtain ⟨b0, hb0⟩ : ∃ b, (findK (ks.take m) kind).isSome = b := ⟨_, rfl⟩
    have heq : b0 = true → takesB (ks.take m) kind slot other = takesB ks kind slot other ∧ normalB (ks.take m) kind slot other = normalB ks kind slot other := fun hb => by
      have hi : (findN ((ks.map KindR.pure).take m) kind).isSome = true := by
        rw [← List.map_take]
        unfold findN
        rw [find_pure, Option.isSome_map, hb0, hb]
      rw [takes_pure, takes_pure, normal_pure, normal_pure, List.map_take]
      exact takes_take hi
    have hF := fun (w' : World) (h' : RdKinds w' w'.heap.size ⟨A, m, c⟩ (ks.take m)) => find_e (c := c) rfl hb0 h'.1
    have hT1 := fun (w' : World) (h' : RdKinds w' w'.heap.size ⟨A, m, c⟩ (ks.take m)) => takes_c (s := kind) (t := slot) (o := other) h'
    have hT2 := fun (w' : World) (h' : RdKinds w' w'.heap.size ⟨A, n, c⟩ ks) => takes_c (s := kind) (t := slot) (o := other) h'
    have hN1 := fun (w' : World) (h' : RdKinds w' w'.heap.size ⟨A, m, c⟩ (ks.take m)) => normal_c (s := kind) (t := slot) (o := other) h'
    have hN2 := fun (w' : World) (h' : RdKinds w' w'.heap.size ⟨A, n, c⟩ ks) => normal_c (s := kind) (t := slot) (o := other) h'
    generalize takesB (ks.take m) kind slot other = t1 at *
    generalize takesB ks kind slot other = t2 at *
    generalize normalB (ks.take m) kind slot other = n1 at *
    generalize normalB ks kind slot other = n2 at *
    repeat (first|apply then_n|apply sp_seq|apply sp_skip)
    refine sp_drawn [(0, true), (1, true), (2, true), (3, true), (4, true), (5, true), (6, true), (7, true), (8, true), (9, true), (10, true), (11, false), (12, false)] 13 _ mixed (by kernel_rfl) HKeep.refl ?_
    repeat (first|apply then_n|apply sp_seq|apply sp_region|apply spl_nil|((first|apply spl_pure rfl|apply wlk_read rfl rfl);(·(first|(apply ex_convin;(·exact eT rfl);(·exact hw8))|(apply ex_remL (m:=raw) (n:=n+1) hm (by omega);(·exact eT rfl);(·exact eT rfl))|(apply ex_addE2 (r:=((n + 1 : Nat) : Int));(·exact eT rfl);(·exact eC);(·omega);(·(constructor<;>omega)))|(apply ex_slice_hE (m:=m);(·exact eT rfl);(·exact eT rfl);(·omega))|(apply ex_buildE (r:=#[.slice A m c]);(·(repeat (first|exact eN|(apply eS;(·exact eT rfl)))));(·rfl);(·rfl))|((first|apply ex_move|apply ex_fieldAddr'|apply ex_len)<;>(exact eT rfl))|((apply ex_loadown)<;>(first|exact eT rfl|exact Bk.own InH.mem|rfl))|(apply ex_loadowns<;>(first|exact eT rfl|exact Bk.own InH.mem|(rfl))))))|(apply spl_alloc rfl;intro _ _)|(apply spl_stores;(·exact eT rfl);(·exact eT rfl);(·(repeat (exact Upd.here)));(·(rfl));(·(rfl));(·exact ones_of_all rfl))|(apply effq;(·(intro h_;((repeat (first|exact HKeep.refl|(apply HKeep.pick;(·(repeat (first|exact Rem.here|apply Rem.there))))|apply HKeep.drop (by first|assumption|omega)))))))|apply wlk_nil|apply wlk_eff rfl)
    rename_i g12 hg12
    repeat (first|(apply sp_cond_f;(·exact eT rfl);(·rfl))|(apply spl_callp rfl;(·(repeat (first|exact eN|(apply eS;(·exact eT rfl)))));(·exact fun w' hh => hV w' (hKm.hp hh)))|(apply spl_callp rfl;(·(repeat (first|exact eN|(apply eS;(·exact eT rfl)))));(·exact fun w' hh => hF w' (hKm.hp hh)))|(apply spq_callp_g rfl;(·(first|exact Gd.tf rfl rfl|exact Gd.gt rfl rfl));(·(repeat (first|exact eN|(apply eS;(·exact eG rfl)))));(·exact fun _ w' hh => hT1 w' (hKm.hp hh)))|(apply spq_callp_g rfl;(·(first|exact Gd.tf rfl rfl|exact Gd.gt rfl rfl));(·(repeat (first|exact eN|(apply eS;(·exact eG rfl)))));(·exact fun _ w' hh => hT2 w' (hK.hp hh)))|(apply spq_callp_g rfl;(·exact Gd.gt rfl rfl);(·(repeat (first|exact eN|(apply eS;(·exact eG rfl)))));(·exact fun _ w' hh => hN1 w' (hKm.hp hh)))|(apply spq_callp_g rfl;(·exact Gd.gt rfl rfl);(·(repeat (first|exact eN|(apply eS;(·exact eG rfl)))));(·exact fun _ w' hh => hN2 w' (hK.hp hh)))|apply then_n|apply sp_seq|apply sp_region|apply spl_nil|apply sp_skip|apply sp_ret|((first|apply spl_pure rfl|apply spq_pure rfl|(apply spq_pure_g rfl;(·(first|exact Gd.tt rfl rfl|exact Gd.tf rfl rfl|exact Gd.gt rfl rfl))));(·(first|(apply ex_loadpartE (cs':=#[.slice A m c]);(·exact eT rfl);(·exact Bk.own InH.mem);(·rfl);(·rfl))|(apply ex_loadpartE (cs':=#[.slice A n c]);(·exact eT rfl);(·exact Bk.own InH.mem);(·rfl);(·rfl))|((first|apply ex_move|apply ex_assign|apply ex_not|apply ex_seql|apply ex_andT)<;>(first|exact eT rfl|exact eG rfl))|((first|apply ex_eql|apply ex_orT)<;>(first|exact eT rfl|exact eG rfl))|((first|apply ex_beql|apply ex_and)<;>(exact eG rfl))|((apply ex_extract)<;>(first|exact eT rfl|rfl)))))|(apply spl_alloc rfl;intro _ _)|(apply spl_stores;(·exact eT rfl);(·exact eT rfl);(·(repeat (exact Upd.here)));(·(rfl));(·(rfl));(·exact Ones.one))|apply spq_nil|apply sp_draw mixed (by kernel_rfl))
    (apply ret_ok rfl;(·((apply Res.ofOne;((apply Res1.tmp;(·rfl)))))))
    cases b0 with
    | false => rfl
    | true =>
      obtain ⟨rfl, rfl⟩ := heq rfl
      simp
end Go.Proofs.Ytfdjlphfohnnnaa
/-
  CatalogJoins, walked.
-/
namespace Go.Proofs.Ytfdjlphfohnnnaa
open Go.RowKit Go.Sy
set_option linter.unusedVariables false
set_option linter.unusedSimpArgs false
theorem ex_sslice_hE {P : Program} {Be : Nat} {w0 : World} {H : Heap} {G : Bool} {e : Env} {ty : TypeId} {t : TypeId} {x y : Operand} {s o : ByteArray} {k : IntKind} {m : Nat} (h1 : Ev G e x (.string s)) (h2 : Ev G e y (.int k (m : Int))) (hb : m ≤ s.size) (ho : s.extract 0 m = o) [ht : TStr P t] : Ex P Be w0 H G e (.slice t x none (some y) none) ty (.string o) := by
  have := ex_sslice_h (P := P) (Be := Be) (w0 := w0) (H := H) (ty := ty) h1 h2 ⟨by omega, by omega⟩ (ht := ht)
  rw [Int.toNat_natCast, ho] at this
  exact this
theorem ex_sslice_lE {P : Program} {Be : Nat} {w0 : World} {H : Heap} {G : Bool} {e : Env} {ty : TypeId} {t : TypeId} {x y : Operand} {s o : ByteArray} {k : IntKind} {m : Nat} (h1 : Ev G e x (.string s)) (h2 : Ev G e y (.int k (m : Int))) (hb : m ≤ s.size) (ho : s.extract m s.size = o) [ht : TStr P t] : Ex P Be w0 H G e (.slice t x (some y) none none) ty (.string o) := by
  have := ex_sslice_l (P := P) (Be := Be) (w0 := w0) (H := H) (ty := ty) h1 h2 ⟨by omega, by omega⟩ (ht := ht)
  rw [Int.toNat_natCast, ho] at this
  exact this
theorem extract_pre (a b : ByteArray) : (a ++ b).extract 0 a.size = a := tx_inj (by rw [tx_extract, tx_append, List.drop_zero, ← tx_len, List.take_left])
theorem extract_post (a b : ByteArray) : (a ++ b).extract a.size (a ++ b).size = b := tx_inj (by rw [tx_extract, List.take_of_length_le (by rw [tx_len]; omega), tx_append, ← tx_len a, List.drop_left])
attribute [local irreducible] Calls thenQ blockQ retQ retFQ Spc Spl Spq Ex Ev Evs Gd Upd ESub HKeep Res Res1 wlk effQ Rem SrcAt Split lexR parseR sameC fewB validB textB textR
set_option maxRecDepth 100000 in
set_option maxHeartbeats 16000000 in
theorem lawJoins {w : World} {A : Option Addr} {n c raw : Nat} {ks : List KindR} (hraw : raw < 256) (hK : RdKinds w w.heap.size ⟨A, n, c⟩ ks) (hnc : n ≤ c) :
    Calls Try.prog 7 #[.agg #[.slice A n c], .int .u8 (raw : Int)] w (Ret w (.bool true)) := by
  refine sp_enter (vs := [_, _]) Try.func7 rfl Try.ntmps7 rfl ?_
  cases hfew : fewB ks with
  | false =>
    repeat (first|(apply spl_callp rfl;(·(repeat (first|exact eN|(apply eS;(·exact eT rfl)))));(·exact fun w' hh => head_c))|(apply spl_callp rfl;(·(repeat (first|exact eN|(apply eS;(·exact eT rfl)))));(·exact fun w' hh => hfew ▸ few1_c (hK.hp hh) hh.ownI))|(apply sp_cond_t;(·exact eT rfl);(·rfl))|apply then_n|apply sp_seq|apply sp_region|apply spl_nil|apply then_r|apply sp_ret|((apply spl_pure rfl);(·(first|(apply ex_loadpartE (cs':=#[.slice A n c]);(·exact eT rfl);(·exact Bk.own InH.mem);(·rfl);(·rfl))|((first|apply ex_move|apply ex_assign|apply ex_not)<;>(first|exact eT rfl|exact eC)))))|(apply spl_box;(·exact eT rfl);(·rfl);intro _ _)|(apply spl_buildSlice rfl;(·rfl);(·(repeat (first|exact eN|(apply eS;(·exact eT rfl)))));(·rfl);(·rfl);(·rfl);intro _ _))
    (apply ret_ok rfl;(·((apply Res.ofOne;((apply Res1.tmp;(·rfl))))))); rfl
  | true =>
    have hsz := (few_sized hfew).2
    have h65 : n ≤ 65 := by have := (few_sized hfew).1; rw [hK.1.len] at this; exact this
    have hC : (∃ e s, e ≠ 0 ∧ textR ks = (s, e)) ∨ (validB ks = true ∧ textR ks = (textB (ks.map KindR.pure), 0) ∧ (lexR (textB (ks.map KindR.pure))).2.1 = 0) := by
      rcases textR_cases ks with ⟨h1, h2⟩ | ⟨h1, h2⟩ | ⟨h1, h2, h3⟩
      · exact .inl ⟨1, _, by decide, h2⟩
      · exact .inl ⟨7, _, by decide, h2⟩
      · exact .inr ⟨h1, h2, h3⟩
    rcases hC with ⟨e, s, he0, hTe⟩ | ⟨hva, hTe, hlx⟩
    ·
      repeat (first|(apply spl_callp rfl;(·(repeat (first|exact eN|(apply eS;(·exact eT rfl)))));(·exact fun w' hh => head_c))|(apply spl_callp rfl;(·(repeat (first|exact eN|(apply eS;(·exact eT rfl)))));(·exact fun w' hh => hfew ▸ few1_c (hK.hp hh) hh.ownI))|(apply sp_cond_f;(·exact eT rfl);(·rfl))|(apply spl_callp rfl;(·(repeat (first|exact eN|(apply eS;(·exact eT rfl)))));(·exact fun w' hh => text_e hTe (hK.hp hh) hsz))|(apply sp_cond_t;(·exact eT rfl);(·(simp [he0])))|apply then_n|apply sp_seq|apply sp_region|apply spl_nil|apply then_r|apply sp_skip|apply sp_ret|((apply spl_pure rfl);(·(first|(apply ex_loadpartE (cs':=#[.slice A n c]);(·exact eT rfl);(·exact Bk.own InH.mem);(·rfl);(·rfl))|((first|apply ex_move|apply ex_assign|apply ex_not|apply ex_sneq)<;>(first|exact eT rfl|exact eC))|((apply ex_neq)<;>(first|exact eT rfl|exact eC))|((apply ex_extract)<;>(first|exact eT rfl|rfl)))))|(apply spl_box;(·exact eT rfl);(·rfl);intro _ _)|(apply spl_buildSlice rfl;(·rfl);(·(repeat (first|exact eN|(apply eS;(·exact eT rfl)))));(·rfl);(·rfl);(·rfl);intro _ _))
      (apply ret_ok rfl;(·((apply Res.ofOne;((apply Res1.tmp;(·rfl))))))); rfl
    ·
      repeat (first|(apply spl_callp rfl;(·(repeat (first|exact eN|(apply eS;(·exact eT rfl)))));(·exact fun w' hh => head_c))|apply then_n|apply sp_seq|apply sp_region|apply spl_nil|((apply spl_pure rfl);(·(first|(apply ex_loadpartE (cs':=#[.slice A n c]);(·exact eT rfl);(·exact Bk.own InH.mem);(·rfl);(·rfl))|((apply ex_assign)<;>(first|exact eT rfl|exact eC)))))|(apply spl_box;(·exact eT rfl);(·rfl);intro _ _)|(apply spl_buildSlice rfl;(·rfl);(·(repeat (first|exact eN|(apply eS;(·exact eT rfl)))));(·rfl);(·rfl);(·rfl);intro _ _))
      refine spl_know (X := ∀ k ∈ ks, LensK k) (fun w' hh => (hK.hp hh).lens) fun hl => ?_
      have hcv := (valid_iff hl).1 hva
      obtain ⟨m, hm⟩ : ∃ m, raw % (n + 1) = m := ⟨_, rfl⟩
      have hmn : m ≤ n := by have := Nat.mod_lt raw (show 0 < n + 1 by omega); omega
      have hw8 : IntKind.i64.wrap (raw : Int) = (raw : Int) := wrap64_in (by omega)
      have hKm := hK.take hmn
      have hlm : ∀ k ∈ ks.take m, LensK k := fun k hk => hl k (List.mem_of_mem_take hk)
      have hvm : validB (ks.take m) = true := (valid_iff hlm).2 (by rw [List.map_take]; exact catV_take hcv m)
      have hszm : ∀ k ∈ ks.take m, k.name.size < 9223372036854775808 ∧ ∀ s ∈ k.slots, s.name.size < 9223372036854775808 := fun k hk => hsz k (List.mem_of_mem_take hk)
      have hlx' := hlx
      obtain ⟨hlxm, hsp⟩ := text_take hcv hlx m
      have hTm : textR (ks.take m) = (textB ((ks.map KindR.pure).take m), 0) := by
        unfold textR
        rw [if_pos hvm, List.map_take, if_pos hlxm]
      have hj := text_join hcv hlx m
      have hs20 := (lexR_ok hlx).1
      obtain ⟨ps, hps⟩ : ∃ ps, ps = ks.map KindR.pure := ⟨_, rfl⟩
      rw [← hps] at hcv hlx hlxm hsp hTm hj hTe hs20
      obtain ⟨t1, ht1⟩ : ∃ s, s = textB (ps.take m) := ⟨_, rfl⟩
      obtain ⟨t2, ht2⟩ : ∃ s, s = textB (ps.drop m) := ⟨_, rfl⟩
      rw [← ht1] at hsp hTm hj
      rw [← ht2] at hsp hj
      rw [hsp] at hTe hj hs20
      have hsz12 : (t1 ++ t2).size = t1.size + t2.size := ByteArray.size_append
      have hz1 : t1.size ≤ 1000000000 := by omega
      have hz2 : t2.size ≤ 1000000000 := by omega
      have hz3 : (t1 ++ ⟨#[35, 32, 98, 101, 104, 105, 110, 100, 32, 105, 116, 10]⟩).size ≤ 1000000000 := by rw [ByteArray.size_append]; show _ + 12 ≤ _; omega
      have hz4 : ((t1 ++ remark) ++ t2).size < 1000000000 := by rw [ByteArray.size_append, ByteArray.size_append]; show _ + 12 + _ < _; omega
      have hle : t1.size ≤ (t1 ++ t2).size := by omega
      have hng : ¬ ((t1 ++ t2).size : Int) < (t1.size : Int) := by omega
      rcases hj with hP | ⟨⟨a7, hP⟩, hbig⟩
      ·
        repeat (first|(apply spl_callp rfl;(·(repeat (first|exact eN|(apply eS;(·exact eT rfl)))));(·exact fun w' hh => hfew ▸ few1_c (hK.hp hh) hh.ownI))|(apply sp_cond_f;(·exact eT rfl);(·rfl))|(apply spl_callp rfl;(·(repeat (first|exact eN|(apply eS;(·exact eT rfl)))));(·exact fun w' hh => text_e hTe (hK.hp hh) hsz))|(apply sp_cond_f;(·exact eT rfl);(·(rw [decide_eq_false hng];simp)))|(apply spl_callp rfl;(·(repeat (first|exact eN|(apply eS;(·exact eT rfl)))));(·exact fun w' hh => text_e hTm (hKm.hp hh) hszm))|(apply spl_callh (X:=Heap × Sl × List KindR) rfl;(·(repeat (first|exact eN|(apply eS;(·exact eT rfl)))));(·exact fun w' hh => parse_e (t:=(t1 ++ remark) ++ t2) hP hz4);(rintro ⟨HZ, sZ, kZ⟩ ⟨hcZ, hpZ, hnZ⟩ hfZ;dsimp only at hcZ hpZ hnZ hfZ))|(apply spl_callp_g rfl;(·exact Gd.tt rfl rfl);(·(repeat (first|exact eN|(apply eS;(·exact eT rfl)))));(·exact fun _ w' hh => same_e ((sameC_iff (parse_norm hP hpZ) (NormK.ofV (by rw [← hps]; exact hcv))).2 (hpZ.trans hps)) (hcZ w' hh.holds) (hK.hp hh)))|apply then_n|apply sp_seq|apply sp_region|apply spl_nil|apply sp_skip|apply sp_ret|((first|apply spl_pure rfl|(apply spl_pure_g rfl;(·(first|exact Gd.tt rfl rfl|exact Gd.tf rfl rfl|exact Gd.gt rfl rfl))));(·(first|(apply ex_convin;(·exact eT rfl);(·exact hw8))|(apply ex_remL (m:=raw) (n:=n+1) hm (by omega);(·exact eT rfl);(·exact eT rfl))|(apply ex_addE2 (r:=((n + 1 : Nat) : Int));(·exact eT rfl);(·exact eC);(·omega);(·(constructor<;>omega)))|(apply ex_slice_hE (m:=m);(·exact eT rfl);(·exact eT rfl);(·omega))|(apply ex_buildE (r:=#[.slice A m c]);(·(repeat (first|exact eN|(apply eS;(·exact eT rfl)))));(·rfl);(·rfl))|(apply ex_sslice_hE (m:=t1.size) (o:=t1);(·exact eG rfl);(·exact eG rfl);(·exact hle);(·exact extract_pre t1 t2))|(apply ex_sslice_lE (m:=t1.size) (o:=t2);(·exact eT rfl);(·exact eT rfl);(·exact hle);(·exact extract_post t1 t2))|(apply ex_saddZ;(·exact eT rfl);(·(first|exact eT rfl|exact eC));(·(assumption));(·(first|assumption|decide)))|(apply ex_loadpartE (cs':=#[.slice sZ.a sZ.n sZ.c]);(·exact eT rfl);(·exact Bk.own InH.mem);(·rfl);(·rfl))|(apply ex_loadpartE (cs':=#[.slice A n c]);(·exact eT rfl);(·exact Bk.own InH.mem);(·rfl);(·rfl))|((first|apply ex_move|apply ex_assign|apply ex_fieldAddr'|apply ex_not|apply ex_gtr|apply ex_seql|apply ex_sneq|apply ex_len|apply ex_andT)<;>(first|exact eT rfl|exact eC|exact eG rfl))|((first|apply ex_eql|apply ex_neq|apply ex_slen|apply ex_orT)<;>(first|exact eT rfl|exact eC|exact eG rfl))|((apply ex_and)<;>(exact eG rfl))|((first|apply ex_loadown|apply ex_extract)<;>(first|exact eT rfl|exact Bk.own InH.mem|rfl)))))|(apply spl_alloc rfl;intro _ _)|(apply spl_stores;(·exact eT rfl);(·exact eT rfl);(·(repeat (exact Upd.here)));(·(rfl));(·(rfl));(·exact ones_of_all rfl)))
        (apply ret_ok rfl;(·((apply Res.ofOne;((apply Res1.tmp;(·rfl))))))); simp
      ·
        have hb2 : (19980 : Int) < ((t1 ++ t2).size : Int) := by omega
        repeat (first|(apply spl_callp rfl;(·(repeat (first|exact eN|(apply eS;(·exact eT rfl)))));(·exact fun w' hh => hfew ▸ few1_c (hK.hp hh) hh.ownI))|(apply sp_cond_f;(·exact eT rfl);(·rfl))|(apply spl_callp rfl;(·(repeat (first|exact eN|(apply eS;(·exact eT rfl)))));(·exact fun w' hh => text_e hTe (hK.hp hh) hsz))|(apply sp_cond_f;(·exact eT rfl);(·(rw [decide_eq_false hng];simp)))|(apply spl_callp rfl;(·(repeat (first|exact eN|(apply eS;(·exact eT rfl)))));(·exact fun w' hh => text_e hTm (hKm.hp hh) hszm))|(apply spl_callh (X:=Heap × Sl × List KindR) rfl;(·(repeat (first|exact eN|(apply eS;(·exact eT rfl)))));(·exact fun w' hh => parse_e (t:=(t1 ++ remark) ++ t2) hP hz4);(rintro ⟨HZ, sZ, kZ⟩ ⟨hcZ, hpZ, hnZ⟩ hfZ;dsimp only at hcZ hpZ hnZ hfZ))|(apply spl_callp_g rfl;(·exact Gd.tt rfl rfl);(·(repeat (first|exact eN|(apply eS;(·exact eG rfl)))));(·exact fun _ w' hh => same_e rfl (hcZ w' hh.holds) (hK.hp hh)))|apply then_n|apply sp_seq|apply sp_region|apply spl_nil|apply sp_skip|apply sp_ret|((first|apply spl_pure rfl|(apply spl_pure_g rfl;(·(first|exact Gd.tt rfl rfl|exact Gd.tf rfl rfl))));(·(first|(apply ex_convin;(·exact eT rfl);(·exact hw8))|(apply ex_remL (m:=raw) (n:=n+1) hm (by omega);(·exact eT rfl);(·exact eT rfl))|(apply ex_addE2 (r:=((n + 1 : Nat) : Int));(·exact eT rfl);(·exact eC);(·omega);(·(constructor<;>omega)))|(apply ex_slice_hE (m:=m);(·exact eT rfl);(·exact eT rfl);(·omega))|(apply ex_buildE (r:=#[.slice A m c]);(·(repeat (first|exact eN|(apply eS;(·exact eT rfl)))));(·rfl);(·rfl))|(apply ex_sslice_hE (m:=t1.size) (o:=t1);(·exact eG rfl);(·exact eG rfl);(·exact hle);(·exact extract_pre t1 t2))|(apply ex_sslice_lE (m:=t1.size) (o:=t2);(·exact eT rfl);(·exact eT rfl);(·exact hle);(·exact extract_post t1 t2))|(apply ex_saddZ;(·exact eT rfl);(·(first|exact eT rfl|exact eC));(·(assumption));(·(first|assumption|decide)))|(apply ex_loadpartE (cs':=#[.slice sZ.a sZ.n sZ.c]);(·exact eT rfl);(·exact Bk.own InH.mem);(·rfl);(·rfl))|(apply ex_loadpartE (cs':=#[.slice A n c]);(·exact eT rfl);(·exact Bk.own InH.mem);(·rfl);(·rfl))|((first|apply ex_move|apply ex_assign|apply ex_fieldAddr'|apply ex_not|apply ex_gtr|apply ex_seql|apply ex_sneq|apply ex_len|apply ex_andT)<;>(first|exact eT rfl|exact eC|exact eG rfl))|((first|apply ex_eql|apply ex_neq|apply ex_slen|apply ex_orT)<;>(first|exact eT rfl|exact eC|exact eG rfl))|((first|apply ex_loadown|apply ex_extract)<;>(first|exact eT rfl|exact Bk.own InH.mem|rfl)))))|(apply spl_alloc rfl;intro _ _)|(apply spl_stores;(·exact eT rfl);(·exact eT rfl);(·(repeat (exact Upd.here)));(·(rfl));(·(rfl));(·exact ones_of_all rfl)))
        (apply ret_ok rfl;(·((apply Res.ofOne;((apply Res1.tmp;(·rfl))))))); rw [decide_eq_true hb2]; simp
end Go.Proofs.Ytfdjlphfohnnnaa
