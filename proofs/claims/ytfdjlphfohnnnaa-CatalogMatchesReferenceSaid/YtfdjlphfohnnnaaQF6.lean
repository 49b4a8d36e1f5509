/-
  Contracts of the reference: Valid, get, Takes, Normal.
-/
import Derived.Test.YtfdjlphfohnnnaaQF5
import Derived.Test.YtfdjlphfohnnnaaQF4
import Derived.Test.YtfdjlphfohnnnaaQF2
namespace Go.Proofs.Ytfdjlphfohnnnaa
open Go.RowKit Go.Sy
set_option linter.unusedVariables false
set_option linter.unusedSimpArgs false
attribute [local irreducible] Calls thenQ blockQ retQ Spc Spl Spq Ex Ev Evs Gd Upd ESub HKeep Res Res1 wlk effQ wlkT effT Rem SrcAt Split
set_option maxRecDepth 100000 in
set_option maxHeartbeats 8000000 in
theorem refValid_c {w : World} {A : Option Addr} {n c : Nat} {ks : List KindR} (h : RdKinds w w.heap.size ⟨A, n, c⟩ ks) (hnc : n ≤ c) (hsm : ∀ k ∈ ks, k.name.size < 9223372036854775807 ∧ ∀ s ∈ k.slots, s.name.size < 9223372036854775807) :
    Calls Try.prog 20 #[.agg #[.slice A n c]] w (Ret w (.bool (validB ks))) := by
  have hbd : n ≤ 9223372036854775807 := h.1.bound
  have hlen : ks.length = n := h.1.len
  refine sp_enter (vs := [_]) Try.func20 rfl Try.ntmps20 rfl ?_
  by_cases h60 : (60 : Int) < (n : Int)
  · have hv : validB ks = false := by unfold validB; rw [decide_eq_false (by omega), Bool.and_false]
    rw [hv]
    repeat (first|(apply sp_cond_t;(·exact eT rfl);(·exact decide_eq_true h60))|apply then_n|apply sp_seq|apply sp_region|apply spl_nil|apply then_r|apply sp_ret|((apply spl_pure rfl);(·(first|((first|apply ex_assign|apply ex_fieldAddr'|apply ex_gtr|apply ex_len)<;>(first|exact eT rfl|exact eC))|((apply ex_loadown)<;>(first|exact eT rfl|exact Bk.own InH.mem|rfl)))))|(apply spl_box;(·exact eT rfl);(·rfl);intro _ _))
    (apply ret_ok rfl;(·((apply Res.ofOne;((apply Res1.tmp;(·rfl))))))); rfl
  have hv : validB ks = catOk [] ks := by unfold validB; rw [decide_eq_true (by omega), Bool.and_true]
  rw [hv]
  repeat (first|(apply sp_cond_f;(·exact eT rfl);(·exact decide_eq_false h60))|apply then_n|apply sp_seq|apply sp_region|apply spl_nil|apply sp_skip|apply sp_block|((apply spl_pure rfl);(·(first|((first|apply ex_assign|apply ex_fieldAddr'|apply ex_gtr|apply ex_len)<;>(first|exact eT rfl|exact eC))|((apply ex_loadown)<;>(first|exact eT rfl|exact Bk.own InH.mem|rfl)))))|(apply spl_box;(·exact eT rfl);(·rfl);intro _ _))
  rename_i g1 hg1
  refine sp_loop (X := Nat) (fun i => [(3, true, .int .i64 (i : Int)), (1, true, .pointer (some ⟨g1, 0, none⟩))]) (fun _ => w) (fun _ => [(g1, .cells #[.slice A n c] 24 (0, 0))]) (fun i => i ≤ n ∧ catOk [] ks = catOk (ks.take i) (ks.drop i)) (fun i => n - i) 0 ⟨Nat.zero_le _, rfl⟩ (by (repeat (first|exact ESub.nil|apply ESub.cons rfl))) rfl (by (repeat (exact HKeep.refl))) ?_
  rintro i ⟨hi, hcat⟩
  by_cases hlt : i < n
  · obtain ⟨ad, x, hA, hb, hx, hsz, hc⟩ := h.1.at_ hlt
    have hmem := List.mem_of_getElem? hx
    have hsl := h.2 x hmem
    have hbd2 := hsl.1.bound
    have hlen2 : x.slots.length = x.ss.n := hsl.1.len
    rw [catOk_at hx] at hcat
    have hKt := h.1.take hi
    have hfind := fun (w' : World) (h' : RdS w' w'.heap.size 3 KindR.cells A i (ks.take i)) => refFind_c (c := c) (s := x.name) h'
    obtain ⟨F, hF⟩ : ∃ F, findK (ks.take i) x.name = F := ⟨_, rfl⟩
    rw [hF] at hfind
    have hnm := fun w' : World => refName_c (w := w') x.name (hsm x hmem).1
    obtain ⟨hd, hhd⟩ : ∃ hd, hd = (F.isNone && (nameL (tx x.name) && decide (x.ss.n ≤ 12))) := ⟨_, rfl⟩
    have hgt : ∀ q : Nat, decide ((12 : Int) < (q : Int)) = !decide (q ≤ 12) := fun q => by
      rw [Bool.eq_iff_iff]; simp; omega
    have hcond : ((F.isSome || !nameL (tx x.name)) || decide ((12 : Int) < (x.ss.n : Int))) = !hd := by
      rw [hhd, hgt]
      cases F <;> cases nameL (tx x.name) <;> simp
    cases hd with
    | false =>
      have hko : kindOk (ks.take i) x = false := by unfold kindOk; rw [hF, ← hhd]; rfl
      rw [hko, Bool.false_and] at hcat
      rw [hcat]
      repeat (first|(apply spl_callp rfl;(·(repeat (first|exact eN|(apply eS;(·exact eT rfl)))));(·exact fun w' hh => hfind w' (hKt.hp' hh)))|(apply spl_callp_g rfl;(·exact Gd.tf rfl rfl);(·(repeat (first|exact eN|(apply eS;(·exact eG rfl)))));(·exact fun _ w' hh => hnm w'))|apply then_n|apply sp_seq|apply sp_region|apply spl_nil|apply then_r|apply block_r|((apply sp_cond_t);(·exact eT rfl);(·(first|exact decide_eq_true (by omega)|assumption)))|apply sp_skip|apply sp_ret|apply sp_block|((first|apply spl_pure rfl|(apply spl_pure_g rfl;(·exact Gd.tf rfl rfl)));(·(first|(apply ex_loadelem;(·exact eT rfl);(·exact h.1);(·exact hA);(·exact hx))|(apply ex_slice_hE (m:=i);(·exact eT rfl);(·exact eT rfl);(·omega))|(apply ex_buildE (r:=#[.slice A i c]);(·(repeat (first|exact eN|(apply eS;(·exact eT rfl)))));(·rfl);(·rfl))|((first|apply ex_move|apply ex_assign|apply ex_fieldAddr'|apply ex_not|apply ex_lss|apply ex_gtr|apply ex_len)<;>(first|exact eT rfl|exact eC|exact eG rfl))|((apply ex_orT)<;>(first|exact eT rfl|exact eG rfl))|((first|apply ex_loadown|apply ex_extract|apply ex_indexAddr)<;>(first|exact eT rfl|exact eG rfl|exact Bk.own InH.mem|rfl|assumption))|((apply ex_loadowns)<;>(first|exact eT rfl|exact Bk.own InH.mem|(rfl))))))|(apply spl_alloc rfl;intro _ _)|(apply spl_stores;(·exact eT rfl);(·exact eT rfl);(·(repeat (exact Upd.here)));(·(rfl));(·(rfl));(·(first|exact Ones.one|exact ones_of_all rfl))))
      (apply ret_ok rfl;(·((apply Res.ofOne;((apply Res1.tmp;(·rfl))))))); rfl
    | true =>
      have hko : kindOk (ks.take i) x = slotsOk (ks.take i) [] x.slots := by unfold kindOk; rw [hF, ← hhd]; rfl
      rw [hko] at hcat
      have h12 : x.ss.n ≤ 12 := by
        revert hhd
        cases F <;> cases nameL (tx x.name) <;> simp
      repeat (first|(apply spl_callp rfl;(·(repeat (first|exact eN|(apply eS;(·exact eT rfl)))));(·exact fun w' hh => hfind w' (hKt.hp' hh)))|(apply spl_callp_g rfl;(·exact Gd.tf rfl rfl);(·(repeat (first|exact eN|(apply eS;(·exact eG rfl)))));(·exact fun _ w' hh => hnm w'))|apply then_n|apply sp_seq|apply sp_region|apply spl_nil|((apply sp_cond_t);(·exact eT rfl);(·(exact decide_eq_true (by omega))))|(apply sp_cond_f;(·exact eT rfl);(·(assumption)))|apply sp_skip|apply sp_block|((first|apply spl_pure rfl|(apply spl_pure_g rfl;(·exact Gd.tf rfl rfl)));(·(first|(apply ex_loadelem;(·exact eT rfl);(·exact h.1);(·exact hA);(·exact hx))|(apply ex_slice_hE (m:=i);(·exact eT rfl);(·exact eT rfl);(·omega))|(apply ex_buildE (r:=#[.slice A i c]);(·(repeat (first|exact eN|(apply eS;(·exact eT rfl)))));(·rfl);(·rfl))|((first|apply ex_move|apply ex_assign|apply ex_fieldAddr'|apply ex_not|apply ex_lss|apply ex_gtr|apply ex_len)<;>(first|exact eT rfl|exact eC|exact eG rfl))|((apply ex_orT)<;>(first|exact eT rfl|exact eG rfl))|((first|apply ex_loadown|apply ex_extract|apply ex_indexAddr)<;>(first|exact eT rfl|exact eG rfl|exact Bk.own InH.mem|rfl|assumption))|((apply ex_loadowns)<;>(first|exact eT rfl|exact Bk.own InH.mem|(rfl))))))|(apply spl_alloc rfl;intro _ _)|(apply spl_stores;(·exact eT rfl);(·exact eT rfl);(·(repeat (exact Upd.here)));(·(rfl));(·(rfl));(·(first|exact Ones.one|exact ones_of_all rfl))))
      rename_i g4 hg4 g5 hg5 g6 hg6
      refine sp_loop (X := Nat × RowS) (fun z => [(9, true, .int .i64 (z.1 : Int)), (8, true, z.2.val z.1), (5, true, .pointer (some ⟨g5, 0, none⟩)), (4, true, .pointer (some ⟨g4, 0, none⟩)), (3, true, .int .i64 (i : Int)), (1, true, .pointer (some ⟨g1, 0, none⟩))]) (fun _ => w)
        (fun z => (g5, .cells #[.slice A i c] 24 (0, 0)) :: (g4, .cells x.cells 34 (0, 0)) :: (g1, .cells #[.slice A n c] 24 (0, 0)) :: (z.2.hp (flatS ((x.slots.take z.1).map (·.name))) 9 ++ []))
        (fun z => z.1 ≤ x.ss.n ∧ slotsOk (ks.take i) [] x.slots = slotsOk (ks.take i) ((x.slots.take z.1).map (·.name)) (x.slots.drop z.1) ∧ z.2.ok 1 z.1 (flatS ((x.slots.take z.1).map (·.name))) ∧ z.2.fresh w.heap.size) (fun z => x.ss.n - z.1) (0, RowS.start) ⟨Nat.zero_le _, rfl, RowS.ok_start, RowS.fresh_start⟩ (by (repeat (first|exact ESub.nil|apply ESub.cons rfl))) rfl (by (repeat (first|exact HKeep.refl|(apply HKeep.app;(·(repeat (first|exact Split.all|apply Split.cons))))|(apply HKeep.pick;(·(repeat (first|exact Rem.here|apply Rem.there))))|apply HKeep.drop (by first|assumption|omega)))) ?_
      rintro ⟨j, r⟩ ⟨hj, hslots, hr, hfr⟩
      dsimp only at hj hslots hr hfr ⊢
      by_cases hlt2 : j < x.ss.n
      · obtain ⟨ad2, y, hA2, hb2, hy, hsz2, hc2⟩ := hsl.1.at_ hlt2
        have hmem2 := List.mem_of_getElem? hy
        have hst := hsl.2 y hmem2
        have hbd3 := hst.1.bound
        have hsz3 := (hsm x hmem).2 y hmem2
        rw [slotsOk_at hy] at hslots
        have hrow := RowS.drop (xs := flatS ((x.slots.take j).map (·.name))) (T := 9) hfr
        have hsl2 := fun (w' : World) (q1 : RdS w' w'.heap.size 3 KindR.cells A i (ks.take i)) (q2 : RdS w' w'.heap.size 1 strC y.ks.a y.ks.n y.kinds) => refslot_c (c := c) q1 q2 hst.2 hsz3
        obtain ⟨so, hso⟩ : ∃ b, slotOk (ks.take i) y = b := ⟨_, rfl⟩
        rw [hso] at hsl2 hslots
        obtain ⟨sn, hsn⟩ : ∃ l, (x.slots.take j).map (·.name) = l := ⟨_, rfl⟩
        have hsnl : sn.length = j := by rw [← hsn, List.length_map, List.length_take]; omega
        have hsnx : (x.slots.take (j + 1)).map (·.name) = sn ++ [y.name] := by rw [take_succ hy, List.map_append, hsn]; rfl
        rw [hsn] at hslots hr hrow ⊢
        rw [hsnx] at hslots
        have hin := fun (w' : World) (H' H2 : Heap) (hh : Hp w.heap.size w H' w') (hs : Split H' (r.hp (flatS sn) 9) H2) => refIn_c (A := r.g.map fun g => ⟨g, 0, none⟩) (n := j) (c := r.cap) (xs := sn) (s := y.name) (RdS.ofRowS (T := 9) hh hs hsnl (by omega) (fun _ _ => rfl) hr)
        obtain ⟨I, hI⟩ : ∃ I, inL sn y.name = I := ⟨_, rfl⟩
        rw [hI] at hin
        have hval : (!so || I) = !(!inB y.name sn && so) := by
          rw [inB_inL, hI]
          cases so <;> cases I <;> rfl
        obtain ⟨G, hG⟩ : ∃ G, (!inB y.name sn && so) = G := ⟨_, rfl⟩
        rw [hG] at hval hslots
        cases G with
        | false =>
          rw [Bool.false_and] at hslots
          rw [hslots, Bool.false_and] at hcat
          rw [hcat]
          repeat (first|(apply spq_callp rfl;(·(repeat (first|exact eN|(apply eS;(·exact eT rfl)))));(·exact fun w' hh => hsl2 w' (hKt.hp' hh) (hst.1.hp' hh)))|(apply spq_callp_g rfl;(·exact Gd.tf rfl rfl);(·(repeat (first|exact eN|(apply eS;(·exact eG rfl)))));(·exact fun _ w' hh => hin w' _ _ hh (by (repeat (first|exact Split.here|apply Split.cons)))))|apply then_n|apply sp_seq|apply sp_region|apply spl_nil|apply then_r|apply block_r|((apply sp_cond_t);(·exact eT rfl);(·(first|exact decide_eq_true (by omega)|assumption)))|apply sp_skip|apply sp_ret|apply sp_block|((first|apply spl_pure rfl|apply spq_pure rfl|(apply spq_pure_g rfl;(·exact Gd.tf rfl rfl)));(·(first|(apply ex_loadelem (i:=j);(·exact eT rfl);(·exact hsl.1);(·exact hA2);(·exact hy))|(apply ex_loadfield (ad:=ad2) (i:=j) (k:=0);(·exact eG rfl);(·exact hsl.1);(·exact hA2);(·exact hy);(·rfl))|((first|apply ex_move|apply ex_assign|apply ex_fieldAddr'|apply ex_not|apply ex_lss|apply ex_len)<;>(first|exact eT rfl|exact eC))|((first|apply ex_fieldAddr|apply ex_orT)<;>(first|exact eT rfl|exact eG rfl))|((first|apply ex_loadown|apply ex_indexAddr)<;>(first|exact eT rfl|exact eG rfl|exact Bk.own InH.mem|rfl|assumption))|((apply ex_loadowns)<;>(first|exact eT rfl|exact Bk.own InH.mem|(rfl))))))|apply spq_nil|apply sp_draw mixed (by kernel_rfl))
          (apply ret_ok rfl;(·((apply Res.ofOne;((apply Res1.tmp;(·rfl))))))); rfl
        | true =>
          rw [Bool.true_and] at hslots
          repeat (first|(apply spq_callp rfl;(·(repeat (first|exact eN|(apply eS;(·exact eT rfl)))));(·exact fun w' hh => hsl2 w' (hKt.hp' hh) (hst.1.hp' hh)))|(apply spq_callp_g rfl;(·exact Gd.tf rfl rfl);(·(repeat (first|exact eN|(apply eS;(·exact eG rfl)))));(·exact fun _ w' hh => hin w' _ _ hh (by (repeat (first|exact Split.here|apply Split.cons)))))|apply then_n|apply block_n|apply sp_seq|apply sp_region|apply spl_nil|((apply sp_cond_t);(·exact eT rfl);(·(exact decide_eq_true (by omega))))|(apply sp_cond_f;(·exact eT rfl);(·(assumption)))|apply sp_skip|apply sp_block|((first|apply spl_pure rfl|apply spq_pure rfl|(apply spq_pure_g rfl;(·exact Gd.tf rfl rfl)));(·(first|(apply ex_loadelem (i:=j);(·exact eT rfl);(·exact hsl.1);(·exact hA2);(·exact hy))|(apply ex_loadfield (ad:=ad2) (i:=j) (k:=0);(·(first|exact eT rfl|exact eG rfl));(·exact hsl.1);(·exact hA2);(·exact hy);(·rfl))|((first|apply ex_move|apply ex_assign|apply ex_fieldAddr'|apply ex_not|apply ex_lss|apply ex_len)<;>(exact eT rfl))|((first|apply ex_fieldAddr|apply ex_orT)<;>(first|exact eT rfl|exact eG rfl))|((apply ex_addn)<;>(first|exact eT rfl|exact eC|(constructor<;>omega)))|((first|apply ex_loadown|apply ex_indexAddr)<;>(first|exact eT rfl|exact eG rfl|exact Bk.own InH.mem|rfl|assumption))|((apply ex_loadowns)<;>(first|exact eT rfl|exact Bk.own InH.mem|(rfl))))))|(apply spl_buildSlice rfl;(·rfl);(·(repeat (first|exact eN|(apply eS;(·exact eT rfl)))));(·rfl);(·rfl);(·rfl);intro _ _)|apply spq_nil|apply sp_draw mixed (by kernel_rfl)|(refine spl_append_row (r := r) (n := j) (xs := flatS sn) (news := (strC y.name).toList) (m := 1) (by (exact eT rfl)) (by (exact eT rfl)) (by (repeat (first|exact Split.here|apply Split.cons))) hr hfr (by omega) (fun w' hh => SrcAt.slice (CellsAt.own hh.ownI (fun j u hj => by rw [List.getElem?_toArray]; exact hj)) rfl rfl (fun v hv => by simp [strC] at hv; subst hv; rfl)) rfl (by omega) rfl rfl rfl rfl ?_;intro r2 hr2 hfr2;have hrow2 := RowS.drop (xs := flatS sn ++ (strC y.name).toList) (T := 9) hfr2))
          rw [flatS_snoc, ← hsnx] at hr2 hrow2 ⊢
          rw [← hsnx] at hslots
          exact ⟨(j + 1, r2), ⟨hlt2, hslots, hr2, hfr2⟩, by (show x.ss.n - (j + 1) < x.ss.n - j; omega), (by (repeat (first|exact ESub.nil|apply ESub.cons rfl))), rfl, (by (repeat (first|exact HKeep.refl|(apply HKeep.app;(·(repeat (exact Split.here))))|(apply HKeep.pick;(·(repeat (first|exact Rem.here|apply Rem.there|apply Rem.app))))|apply HKeep.drop (by first|assumption|omega))))⟩
      · have hend : slotsOk (ks.take i) ((x.slots.take j).map (·.name)) (x.slots.drop j) = true := by rw [List.drop_eq_nil_of_le (by omega)]; rfl
        rw [hend] at hslots
        rw [hslots, Bool.true_and] at hcat
        have hrow := RowS.drop (xs := flatS ((x.slots.take j).map (·.name))) (T := 9) hfr
        repeat (first|apply then_n|apply block_n|apply sp_seq|apply sp_region|apply spl_nil|apply then_e|apply block_here|(apply sp_cond_f;(·exact eT rfl);(·(exact decide_eq_false (by omega))))|apply sp_exit|((apply spl_pure rfl);(·(first|((first|apply ex_move|apply ex_assign|apply ex_fieldAddr'|apply ex_lss|apply ex_len)<;>(exact eT rfl))|((apply ex_addn)<;>(first|exact eT rfl|exact eC|(constructor<;>omega)))|((apply ex_loadown)<;>(first|exact eT rfl|exact Bk.own InH.mem|rfl))))))
        exact ⟨i + 1, ⟨hlt, hcat⟩, by (show n - (i + 1) < n - i; omega), (by (repeat (first|exact ESub.nil|apply ESub.cons rfl))), rfl, (by (repeat (first|exact HKeep.refl|(apply HKeep.pick;(·(repeat (first|exact Rem.here|apply Rem.there))))|apply HKeep.drop (by first|assumption|omega)|apply HKeep.dropA (by assumption))))⟩
  · rw [List.drop_eq_nil_of_le (by omega)] at hcat
    rw [hcat]
    repeat (first|apply then_n|apply sp_seq|apply sp_region|apply spl_nil|apply then_e|apply block_here|(apply sp_cond_f;(·exact eT rfl);(·(exact decide_eq_false (by omega))))|apply sp_ret|apply sp_exit|((apply spl_pure rfl);(·(first|((first|apply ex_move|apply ex_assign|apply ex_fieldAddr'|apply ex_lss|apply ex_len)<;>(first|exact eT rfl|exact eC))|((apply ex_loadown)<;>(first|exact eT rfl|exact Bk.own InH.mem|rfl))))))
    (apply ret_ok rfl;(·((apply Res.ofOne;((apply Res1.tmp;(·rfl))))))); rfl
set_option maxRecDepth 100000 in
set_option maxHeartbeats 4000000 in
theorem refget_c {w : World} {A : Option Addr} {n c : Nat} {ks : List KindR} {s t : ByteArray} (h : RdKinds w w.heap.size ⟨A, n, c⟩ ks) :
    Calls Try.prog 50 #[.agg #[.slice A n c], .string s, .string t] w (Ret w (.tuple #[.agg ((findS ((findK ks s).getD KindR.zero).slots t).getD SlotR.zero).cells, .bool (findS ((findK ks s).getD KindR.zero).slots t).isSome])) := by
  have hfind := fun (w' : World) (h' : RdS w' w'.heap.size 3 KindR.cells A n ks) => refFind_c (c := c) (s := s) h'
  have hrd := findK_rd (s := s) h
  obtain ⟨b, hb⟩ : ∃ b, (findK ks s).isSome = b := ⟨_, rfl⟩
  rw [hb] at hfind
  generalize (findK ks s).getD KindR.zero = K at *
  have hbd := hrd.1.bound
  have hlen := hrd.1.len
  refine sp_enter (vs := [_, _, _]) Try.func50 rfl Try.ntmps50 rfl ?_
  repeat (first|(apply spl_callp rfl;(·(repeat (first|exact eN|(apply eS;(·exact eT rfl)))));(·exact fun w' hh => hfind w' (h.1.hp' hh)))|apply then_n|apply sp_seq|apply sp_region|apply spl_nil|apply sp_block|((apply spl_pure rfl);(·(first|((first|apply ex_move|apply ex_assign)<;>(first|exact eT rfl|exact eC))|((apply ex_extract)<;>(first|exact eT rfl|rfl))|((apply ex_loadowns)<;>(first|exact eT rfl|exact Bk.own InH.mem|(rfl))))))|(apply spl_box;(·exact eT rfl);(·rfl);intro _ _)|(apply spl_alloc rfl;intro _ _)|(apply spl_stores;(·exact eT rfl);(·exact eT rfl);(·(repeat (exact Upd.here)));(·(rfl));(·(rfl));(·exact Ones.one)))
  rename_i g3 hg3 g6 hg6 g8 hg8
  refine sp_loop (X := Nat) (fun k => [(10, true, .int .i64 (k : Int)), (8, true, .pointer (some ⟨g8, 0, none⟩)), (6, true, .pointer (some ⟨g6, 0, none⟩)), (2, true, .string t)]) (fun _ => w) (fun _ => [(g8, .cells K.cells 34 (0, 0)), (g6, .cells SlotR.zero.cells 46 (0, 0))]) (fun k => k ≤ K.ss.n ∧ (K.slots.take k).any (fun x => decide (x.name = t)) = false) (fun k => K.ss.n - k) 0 ⟨Nat.zero_le _, rfl⟩ (by (repeat (first|exact ESub.nil|apply ESub.cons rfl))) rfl (by (repeat (first|exact HKeep.refl|apply HKeep.keep|apply HKeep.drop (by first|assumption|omega)))) ?_
  rintro k ⟨hk, hno⟩
  by_cases hlt : k < K.ss.n
  · obtain ⟨ad, x, hA, hbk, hx, hsz, hc⟩ := hrd.1.at_ hlt
    by_cases hp : x.name = t
    · have hf : findS K.slots t = some x := find_hit hno hx (decide_eq_true hp)
      rw [hf]
      repeat (first|(apply sp_cond_t;(·exact eT rfl);(·exact decide_eq_true hp))|apply then_n|apply sp_seq|apply sp_region|apply spl_nil|apply then_r|apply block_r|((apply sp_cond_t);(·exact eT rfl);(·(exact decide_eq_true (by omega))))|apply sp_skip|apply sp_ret|apply sp_block|((apply spl_pure rfl);(·(first|(apply ex_loadfield (ad:=ad) (i:=k) (k:=0);(·exact eT rfl);(·exact hrd.1);(·exact hA);(·exact hx);(·rfl))|(apply ex_loadelem;(·exact eT rfl);(·exact hrd.1);(·exact hA);(·exact hx))|((first|apply ex_move|apply ex_assign|apply ex_fieldAddr'|apply ex_lss|apply ex_seql|apply ex_len)<;>(first|exact eT rfl|exact eC))|((apply ex_fieldAddr)<;>(exact eT rfl))|((first|apply ex_loadown|apply ex_indexAddr)<;>(first|exact eT rfl|exact Bk.own InH.mem|rfl|assumption)))))|(apply spl_stores;(·exact eT rfl);(·exact eT rfl);(·(repeat (first|exact Upd.here|apply Upd.there)));(·(rfl));(·(rfl));(·exact Ones.one)))
      (apply ret_ok rfl;(·((apply Res.ofTwo<;>(first|(apply Res1.tmp;(·rfl))|(apply Res1.cell;(·rfl);(·exact InH.mem);(·(rfl)))))))); rfl
    ·
      repeat (first|(apply sp_cond_f;(·exact eT rfl);(·exact decide_eq_false hp))|apply then_n|apply block_n|apply sp_seq|apply sp_region|apply spl_nil|((apply sp_cond_t);(·exact eT rfl);(·(exact decide_eq_true (by omega))))|apply sp_skip|apply sp_block|((apply spl_pure rfl);(·(first|(apply ex_loadfield (ad:=ad) (i:=k) (k:=0);(·exact eT rfl);(·exact hrd.1);(·exact hA);(·exact hx);(·rfl))|((first|apply ex_move|apply ex_assign|apply ex_fieldAddr'|apply ex_lss|apply ex_seql|apply ex_len)<;>(exact eT rfl))|((apply ex_fieldAddr)<;>(exact eT rfl))|(apply ex_addn<;>(first|exact eT rfl|exact eC|(constructor<;>omega)))|((first|apply ex_loadown|apply ex_indexAddr)<;>(first|exact eT rfl|exact Bk.own InH.mem|rfl|assumption))))))
      exact ⟨k + 1, ⟨by omega, any_miss hno hx (decide_eq_false hp)⟩, by omega, (by (repeat (first|exact ESub.nil|apply ESub.cons rfl))), rfl, (by (repeat (exact HKeep.refl)))⟩
  · have hf : findS K.slots t = none := find_miss hno (by rw [hlen]; omega)
    rw [hf]
    repeat (first|apply then_n|apply sp_seq|apply sp_region|apply spl_nil|apply then_e|apply block_here|(apply sp_cond_f;(·exact eT rfl);(·(exact decide_eq_false (by omega))))|apply sp_ret|apply sp_exit|((apply spl_pure rfl);(·(first|(apply ex_buildE (r:=SlotR.zero.cells);(·(repeat (exact eN)));(·rfl);(·rfl))|((first|apply ex_move|apply ex_assign|apply ex_fieldAddr'|apply ex_lss|apply ex_len)<;>(first|exact eT rfl|exact eC))|((apply ex_loadown)<;>(first|exact eT rfl|exact Bk.own InH.mem|rfl)))))|(apply spl_stores;(·exact eT rfl);(·exact eT rfl);(·(repeat (first|exact Upd.here|apply Upd.there)));(·(rfl));(·(rfl));(·exact Ones.one)))
    (apply ret_ok rfl;(·((apply Res.ofTwo<;>(first|(apply Res1.tmp;(·rfl))|(apply Res1.cell;(·rfl);(·exact InH.mem);(·(rfl)))))))); rfl
theorem idx_inL (l : List ByteArray) (s : ByteArray) : decide (0 ≤ idx l (fun x => decide (s = x))) = inL l s := by
  rcases idx_cases l (fun x => decide (s = x)) with ⟨hf, hi⟩ | ⟨k, x, hf, hi, hx, hk⟩
  · rw [hi]
    have : inL l s = false := by
      rw [inL_not]
      intro hs
      have := List.find?_eq_none.1 hf s hs
      simp at this
    rw [this]; rfl
  · rw [hi, decide_eq_true (by omega)]
    have h1 := List.find?_some hf
    rw [decide_eq_true_eq] at h1
    rw [inL_hit hx h1.symm]
theorem idx_lt {l : List ByteArray} {s : ByteArray} {m : Nat} : (decide (0 ≤ idx l (fun x => decide (s = x))) && decide (idx l (fun x => decide (s = x)) < (m : Int))) = inL (l.take m) s := by
  rcases idx_cases l (fun x => decide (s = x)) with ⟨hf, hi⟩ | ⟨k, x, hf, hi, hx, hk⟩
  · rw [hi]
    have : inL (l.take m) s = false := by
      rw [inL_not]
      intro hs
      have := List.find?_eq_none.1 hf s (List.mem_of_mem_take hs)
      simp at this
    rw [this]; rfl
  · rw [hi, decide_eq_true (by omega), Bool.true_and]
    have h1 := List.find?_some hf
    rw [decide_eq_true_eq] at h1
    by_cases hkm : k < m
    · rw [decide_eq_true (by omega)]
      exact (inL_hit (k := k) (by rw [List.getElem?_take, if_pos hkm]; exact hx) h1.symm).symm
    · rw [decide_eq_false (by omega)]
      symm
      rw [inL_not]
      intro hs
      obtain ⟨j, hj, hjx⟩ := List.getElem_of_mem hs
      rw [List.length_take] at hj
      rw [List.getElem_take] at hjx
      have h3 : (l.take k).any (fun x => decide (s = x)) = false := by
        unfold idx at hi
        cases hfi : l.findIdx? (fun x => decide (s = x)) with
        | none => rw [hfi] at hi; simp only at hi; omega
        | some k' =>
          rw [hfi] at hi
          obtain ⟨q1, q2, q3⟩ := List.findIdx?_eq_some_iff_getElem.1 hfi
          have hkk : k' = k := by simp only at hi; omega
          subst hkk
          rw [List.any_eq_false]
          intro x hx
          obtain ⟨j', hj', rfl⟩ := List.getElem_of_mem hx
          rw [List.length_take] at hj'
          rw [List.getElem_take]
          exact q3 j' (by omega)
      have h4 := List.any_eq_false.1 h3 s (List.mem_of_mem_take (i := m) (by rw [List.take_take, Nat.min_eq_left (by omega)]; exact hs))
      simp at h4
set_option maxRecDepth 100000 in
set_option maxHeartbeats 1000000 in
theorem refTakes_c {w : World} {A : Option Addr} {n c : Nat} {ks : List KindR} {s t o : ByteArray} (h : RdKinds w w.heap.size ⟨A, n, c⟩ ks) :
    Calls Try.prog 22 #[.agg #[.slice A n c], .string s, .string t, .string o] w (Ret w (.bool (takesB ks s t o))) := by
  have hrd := findS_rd (s := t) (findK_rd (s := s) h)
  unfold takesB
  rw [idx_inL]
  have c1 := fun (w' : World) (h' : RdKinds w' w'.heap.size ⟨A, n, c⟩ ks) => refget_c (s := s) (t := t) h'
  generalize findS ((findK ks s).getD KindR.zero).slots t = S at *
  refine sp_enter (vs := [_, _, _, _]) Try.func22 rfl Try.ntmps22 rfl ?_
  repeat (first|(apply spl_callp rfl;(·(repeat (first|exact eN|(apply eS;(·exact eT rfl)))));(·exact fun w' hh => c1 w' (h.hp hh)))|(apply spl_callp_g rfl;(·exact Gd.tt rfl rfl);(·(repeat (first|exact eN|(apply eS;(·exact eG rfl)))));(·exact fun _ w' hh => refIn_c (hrd.1.hp' hh)))|apply then_n|apply sp_seq|apply sp_region|apply spl_nil|apply sp_ret|((first|apply spl_pure rfl|(apply spl_pure_g rfl;(·exact Gd.tt rfl rfl)));(·(first|((first|apply ex_move|apply ex_assign|apply ex_fieldAddr'|apply ex_andT)<;>(first|exact eT rfl|exact eC|exact eG rfl))|((first|apply ex_loadown|apply ex_extract)<;>(first|exact eT rfl|exact eG rfl|exact Bk.own InH.mem|rfl))|(apply ex_loadowns<;>(first|exact eT rfl|exact Bk.own InH.mem|(rfl))))))|(apply spl_box;(·exact eT rfl);(·rfl);intro _ _)|(apply spl_alloc rfl;intro _ _)|(apply spl_stores;(·exact eT rfl);(·exact eT rfl);(·(repeat (exact Upd.here)));(·(rfl));(·(rfl));(·exact Ones.one)))
  (apply ret_ok rfl;(·((apply Res.ofOne;((apply Res1.tmp;(·rfl))))))); rfl
set_option maxRecDepth 100000 in
set_option maxHeartbeats 1000000 in
theorem refNormal_c {w : World} {A : Option Addr} {n c : Nat} {ks : List KindR} {s t o : ByteArray} (h : RdKinds w w.heap.size ⟨A, n, c⟩ ks) :
    Calls Try.prog 24 #[.agg #[.slice A n c], .string s, .string t, .string o] w (Ret w (.bool (normalB ks s t o))) := by
  have hrd := findS_rd (s := t) (findK_rd (s := s) h)
  unfold normalB
  have c1 := fun (w' : World) (h' : RdKinds w' w'.heap.size ⟨A, n, c⟩ ks) => refget_c (s := s) (t := t) h'
  generalize findS ((findK ks s).getD KindR.zero).slots t = S at *
  have hbd := hrd.1.bound
  have hlen := hrd.1.len
  generalize hZ : S.getD SlotR.zero = Z at *
  obtain ⟨m, hm, hmn, hval⟩ : ∃ m : Nat, (if (if (Z.ks.n : Int) < Z.normal then (Z.ks.n : Int) else Z.normal) > 0 then (if (Z.ks.n : Int) < Z.normal then (Z.ks.n : Int) else Z.normal) else 0) = (m : Int) ∧ m ≤ Z.ks.n ∧ ((S.isSome && decide (0 ≤ idx Z.kinds (fun x => decide (o = x)))) && decide (idx Z.kinds (fun x => decide (o = x)) < Z.normal)) = (S.isSome && inL (Z.kinds.take m) o) := by
    refine ⟨(min Z.normal Z.ks.n).toNat, ?_, by omega, ?_⟩
    · split <;> split <;> omega
    · rw [← idx_lt, Bool.and_assoc]
      congr 1
      rcases idx_cases Z.kinds (fun x => decide (o = x)) with ⟨hf, hi⟩ | ⟨k, x, hf, hi, hx, hk⟩
      · rw [hi]; rfl
      · rw [hi]
        congr 1
        rw [Bool.eq_iff_iff, decide_eq_true_eq, decide_eq_true_eq]
        omega
  rw [hval]
  have hst := hrd.1.take hmn
  have hin := fun (w' : World) (h' : RdS w' w'.heap.size 1 strC Z.ks.a m (Z.kinds.take m)) => refIn_c (c := Z.ks.c) (s := o) h'
  refine sp_enter (vs := [_, _, _, _]) Try.func24 rfl Try.ntmps24 rfl ?_
  repeat (first|(apply spl_callp rfl;(·(repeat (first|exact eN|(apply eS;(·exact eT rfl)))));(·exact fun w' hh => c1 w' (h.hp hh)))|(apply spl_callp_g rfl;(·exact Gd.tt rfl rfl);(·(repeat (first|exact eN|(apply eS;(·exact eG rfl)))));(·exact fun _ w' hh => hin w' (hst.hp' hh)))|apply then_n|apply sp_seq|apply sp_region|apply spl_nil|apply sp_ret|((first|apply spl_pure rfl|(apply spl_pure_g rfl;(·exact Gd.tt rfl rfl)));(·(first|(apply ex_maxE (r:=(m:Int));(·exact eC);(·exact eT rfl);(·exact hm))|(apply ex_slice_hE (m:=m);(·exact eG rfl);(·exact eG rfl);(·have := hrd.2; omega))|((first|apply ex_move|apply ex_assign|apply ex_fieldAddr'|apply ex_len|apply ex_andT|apply ex_min)<;>(first|exact eT rfl|exact eC|exact eG rfl))|((first|apply ex_loadown|apply ex_extract)<;>(first|exact eT rfl|exact eG rfl|exact Bk.own InH.mem|rfl))|(apply ex_loadowns<;>(first|exact eT rfl|exact Bk.own InH.mem|(rfl))))))|(apply spl_box;(·exact eT rfl);(·rfl);intro _ _)|(apply spl_alloc rfl;intro _ _)|(apply spl_stores;(·exact eT rfl);(·exact eT rfl);(·(repeat (exact Upd.here)));(·(rfl));(·(rfl));(·exact Ones.one)))
  (apply ret_ok rfl;(·((apply Res.ofOne;((apply Res1.tmp;(·rfl))))))); rfl
end Go.Proofs.Ytfdjlphfohnnnaa
/-
  The lines and the text of the reference, in plain terms.
-/
namespace Go.Proofs.Ytfdjlphfohnnnaa
open Go.RowKit Go.Sy
set_option linter.unusedVariables false
set_option linter.unusedSimpArgs false
def kdX (nm : Int) : Nat → List ByteArray → List UInt8
  | _, [] => []
  | j, x :: r => ((if (j : Int) = nm then [32, 43] else []) ++ (32 :: tx x)) ++ kdX nm (j + 1) r
theorem kdX_app (nm : Int) : ∀ (a : List ByteArray) (j : Nat) (b : List ByteArray), kdX nm j (a ++ b) = kdX nm j a ++ kdX nm (j + a.length) b
  | [], j, b => rfl
  | x :: r, j, b => by
    have e : j + 1 + r.length = j + (x :: r).length := by simp only [List.length_cons]; omega
    simp only [List.cons_append, kdX, kdX_app nm r (j + 1) b, List.append_assoc, e]
theorem kdX_snoc (nm : Int) (a : List ByteArray) (x : ByteArray) : kdX nm 0 (a ++ [x]) = kdX nm 0 a ++ ((if (a.length : Int) = nm then [32, 43] else []) ++ (32 :: tx x)) := by
  rw [kdX_app, Nat.zero_add]; simp only [kdX, List.append_nil]
theorem kdX_plain {nm : Int} : ∀ (a : List ByteArray) (j : Nat), (∀ i, i < a.length → ((j + i : Nat) : Int) ≠ nm) → kdX nm j a = a.flatMap fun x => 32 :: tx x
  | [], _, _ => rfl
  | x :: r, j, h => by
    have h0 := h 0 (by simp)
    simp only [Nat.add_zero] at h0
    simp only [kdX, if_neg h0, List.nil_append, List.flatMap_cons]
    rw [kdX_plain r (j + 1) fun i hi => by have := h (i + 1) (by simp only [List.length_cons]; omega); rwa [show j + 1 + i = j + (i + 1) by omega]]
theorem joinX_cons (sep : List UInt8) (x : List UInt8) : ∀ r : List (List UInt8), joinX sep (x :: r) = x ++ r.flatMap fun y => sep ++ y
  | [] => rfl
  | y :: r => by
    have := joinX_cons sep y r
    simp only [joinX] at this ⊢
    simp only [List.flatMap_cons, List.append_assoc] at this ⊢
    rw [this]
theorem sp_join {l : List ByteArray} (h : l ≠ []) : (l.flatMap fun x => 32 :: tx x) = 32 :: joinX [32] (l.map tx) := by
  cases l with
  | nil => exact absurd rfl h
  | cons x r =>
    rw [List.map_cons, joinX_cons, List.flatMap_cons, List.flatMap_map]
    all_goals rfl
def slX (s : SlotR) : List UInt8 := (tx s.name ++ [58]) ++ kdX s.normal 0 s.kinds
theorem slX_eq {s : SlotR} (h1 : 1 ≤ s.normal) (h2 : s.normal ≤ (s.kinds.length : Int)) : slX s = slotX s.pure := by
  obtain ⟨m, hm⟩ : ∃ m : Nat, s.normal = (m : Int) := ⟨s.normal.toNat, by omega⟩
  have e1 : s.pure.normal = m := by show s.normal.toNat = m; omega
  have e2 : kdX s.normal 0 s.kinds = 32 :: (joinX [32] ((s.kinds.take m).map tx) ++ (if m < s.kinds.length then [32, 43, 32] ++ joinX [32] ((s.kinds.drop m).map tx) else [])) := by
    rw [hm] at h1 h2 ⊢
    have hsp := kdX_app (m : Int) (s.kinds.take m) 0 (s.kinds.drop m)
    rw [List.take_append_drop] at hsp
    have hl : (s.kinds.take m).length = m := by rw [List.length_take]; omega
    rw [hsp, hl, kdX_plain (s.kinds.take m) 0 (fun i hi => by omega), sp_join (fun h => by rw [h] at hl; simp at hl; omega)]
    simp only [List.cons_append]
    congr 2
    by_cases hlt : m < s.kinds.length
    · rw [if_pos hlt]
      cases hd : s.kinds.drop m with
      | nil => rw [List.drop_eq_nil_iff] at hd; omega
      | cons x r =>
        simp only [kdX, Nat.zero_add, if_true]
        rw [kdX_plain r (m + 1) (fun i hi => by omega), List.map_cons, joinX_cons, List.flatMap_map]
        simp
    · rw [if_neg hlt, List.drop_eq_nil_of_le (by omega)]; rfl
  unfold slX slotX
  rw [e1, e2]
  simp [SlotR.pure]
def blX : Nat → List SlotR → List UInt8
  | _, [] => []
  | i, s :: r => ((if i = 0 then [32, 40] else [59, 32]) ++ slX s) ++ blX (i + 1) r
theorem blX_app : ∀ (a : List SlotR) (j : Nat) (b : List SlotR), blX j (a ++ b) = blX j a ++ blX (j + a.length) b
  | [], j, b => rfl
  | x :: r, j, b => by
    have e : j + 1 + r.length = j + (x :: r).length := by simp only [List.length_cons]; omega
    simp only [List.cons_append, blX, blX_app r (j + 1) b, List.append_assoc, e]
theorem blX_snoc (a : List SlotR) (x : SlotR) : blX 0 (a ++ [x]) = blX 0 a ++ ((if a.length = 0 then [32, 40] else [59, 32]) ++ slX x) := by
  rw [blX_app, Nat.zero_add]; simp only [blX, List.append_nil]
theorem blX_plain : ∀ (a : List SlotR) (j : Nat), blX (j + 1) a = a.flatMap fun x => [59, 32] ++ slX x
  | [], _ => rfl
  | x :: r, j => by simp only [blX, blX_plain r (j + 1), List.flatMap_cons, if_neg (Nat.succ_ne_zero j)]
def hdX (k : KindR) : List UInt8 := (if k.vehicle then [118, 101, 104, 105, 99, 108, 101, 32] else [107, 105, 110, 100, 32]) ++ tx k.name
def lnX (k : KindR) : List UInt8 := ((hdX k ++ blX 0 k.slots) ++ (if 0 < k.slots.length then [41] else [])) ++ [59, 10]
theorem lnX_eq {k : KindR} (h : ∀ s ∈ k.slots, 1 ≤ s.normal ∧ s.normal ≤ (s.kinds.length : Int)) : lnX k = lineX k.pure := by
  have hb : blX 0 k.slots ++ (if 0 < k.slots.length then [41] else []) = (match k.pure.slots with | [] => [] | _ :: _ => [32] ++ bodyX k.pure.slots) := by
    cases hs : k.slots with
    | nil => simp [KindR.pure, hs, blX]
    | cons s r =>
      have he : ∀ x ∈ s :: r, slX x = slotX x.pure := fun x hx => slX_eq (h x (by rw [hs]; exact hx)).1 (h x (by rw [hs]; exact hx)).2
      have h2 : r.flatMap (fun x => [59, 32] ++ slX x) = ((r.map SlotR.pure).map slotX).flatMap fun y => [59, 32] ++ y := by
        rw [List.map_map, List.flatMap_map]
        have : ∀ l : List SlotR, (∀ x ∈ l, slX x = slotX x.pure) → (l.flatMap fun x => [59, 32] ++ slX x) = l.flatMap fun x => [59, 32] ++ (slotX ∘ SlotR.pure) x := by
          intro l
          induction l with
          | nil => intro _; rfl
          | cons y q ih =>
            intro hl
            rw [List.flatMap_cons, List.flatMap_cons, hl y (.head _), ih fun z hz => hl z (.tail _ hz)]
            all_goals rfl
        exact this r fun x hx => he x (.tail _ hx)
      simp only [KindR.pure, hs, List.map_cons, blX, bodyX, if_true]
      rw [joinX_cons, blX_plain, h2, he s (.head _)]
      simp
  unfold lnX lineX hdX
  have e : (if k.vehicle then [118, 101, 104, 105, 99, 108, 101, 32] else [107, 105, 110, 100, 32]) = (if k.pure.vehicle then tx wVehicle else tx wKind) ++ [32] := by
    show (if k.vehicle then _ else _) = (if k.vehicle then _ else _) ++ _
    cases k.vehicle <;> rfl
  rw [e, List.append_assoc _ (blX 0 k.slots), hb]
  show _ = (if k.pure.vehicle then tx wVehicle else tx wKind) ++ ([32] ++ (tx k.name ++ _))
  simp only [List.append_assoc]
  rfl
/-! Sizes. -/
theorem kdX_len {nm : Int} : ∀ (l : List ByteArray) (j : Nat), (∀ x ∈ l, x.size ≤ 100) → (kdX nm j l).length ≤ l.length * 103
  | [], _, _ => Nat.zero_le _
  | x :: r, j, h => by
    have h1 := kdX_len (nm := nm) r (j + 1) fun y hy => h y (.tail _ hy)
    have h2 := h x (.head _)
    rw [← tx_len] at h2
    simp only [kdX, List.length_append, List.length_cons]
    have : (if (j : Int) = nm then [32, 43] else ([] : List UInt8)).length ≤ 2 := by split <;> simp
    omega
theorem slX_len {s : SlotR} (h1 : s.name.size ≤ 100) (h2 : s.kinds.length ≤ 15) (h3 : ∀ x ∈ s.kinds, x.size ≤ 100) : (slX s).length ≤ 1646 := by
  have := kdX_len (nm := s.normal) s.kinds 0 h3
  rw [← tx_len] at h1
  unfold slX
  simp only [List.length_append, List.length_cons, List.length_nil]
  omega
structure FewS (s : SlotR) : Prop where
  nm : s.name.size ≤ 100
  cnt : s.kinds.length ≤ 15
  kinds : ∀ x ∈ s.kinds, x.size ≤ 100
structure FewK (k : KindR) : Prop where
  nm : k.name.size ≤ 100
  cnt : k.slots.length ≤ 15
  slots : ∀ s ∈ k.slots, FewS s
theorem blX_len : ∀ (l : List SlotR) (j : Nat), (∀ s ∈ l, FewS s) → (blX j l).length ≤ l.length * 1648
  | [], _, _ => Nat.zero_le _
  | x :: r, j, h => by
    have h1 := blX_len r (j + 1) fun y hy => h y (.tail _ hy)
    have h2 := h x (.head _)
    have h3 := slX_len h2.nm h2.cnt h2.kinds
    simp only [blX, List.length_append, List.length_cons]
    have : (if j = 0 then [32, 40] else ([59, 32] : List UInt8)).length = 2 := by split <;> rfl
    omega
theorem few_K {ks : List KindR} (hl : ∀ k ∈ ks, LensK k) (h : fewB ks = true) : ks.length ≤ 65 ∧ ∀ k ∈ ks, FewK k := by
  unfold fewB at h
  rw [Bool.and_eq_true, Bool.not_eq_true', decide_eq_false_iff_not, List.all_eq_true] at h
  obtain ⟨h0, h⟩ := h
  refine ⟨by omega, fun k hk => ?_⟩
  have h1 := h k hk
  have l1 := hl k hk
  unfold fewK at h1
  rw [Bool.and_eq_true, Bool.not_eq_true', Bool.or_eq_false_iff, decide_eq_false_iff_not, decide_eq_false_iff_not, List.all_eq_true] at h1
  obtain ⟨⟨a1, a2⟩, a3⟩ := h1
  refine ⟨by omega, by have := l1.len; omega, fun s hs => ?_⟩
  have h2 := a3 s hs
  have l2 := l1.slots s hs
  unfold fewS at h2
  rw [Bool.and_eq_true, Bool.not_eq_true', Bool.or_eq_false_iff, decide_eq_false_iff_not, decide_eq_false_iff_not, List.all_eq_true] at h2
  obtain ⟨⟨b1, b2⟩, b3⟩ := h2
  refine ⟨by omega, by have := l2.len; omega, fun x hx => ?_⟩
  have h3 := b3 x hx
  unfold smallB at h3
  rw [Bool.not_eq_true', decide_eq_false_iff_not] at h3
  omega
end Go.Proofs.Ytfdjlphfohnnnaa
/-
  Contracts of the reference: Line, Text.
-/
namespace Go.Proofs.Ytfdjlphfohnnnaa
open Go.RowKit Go.Sy
set_option linter.unusedVariables false
set_option linter.unusedSimpArgs false
theorem len_le_of_app {a b : List UInt8} {m : Nat} (h : (a ++ b).length ≤ m) : a.length ≤ m := by rw [List.length_append] at h; omega
attribute [local irreducible] Calls thenQ blockQ retQ Spc Spl Spq Ex Ev Evs Gd Upd ESub HKeep Res Res1 wlk effQ Rem SrcAt Split hdX kdX blX slX
set_option maxRecDepth 100000 in
set_option maxHeartbeats 8000000 in
theorem refLine_c {w : World} {k : KindR} (h : RdSlots w w.heap.size k.ss k.slots) (hf : FewK k) :
    Calls Try.prog 32 #[.agg k.cells] w (Ret w (.string (ofL (lnX k)))) := by
  have hbd := h.1.bound
  have hlen : k.slots.length = k.ss.n := h.1.len
  have h15 := hf.cnt
  have hkn := hf.nm
  have hz0 : k.name.size ≤ 1000000000 := by omega
  refine sp_enter (vs := [_]) Try.func32 rfl Try.ntmps32 rfl ?_
  repeat (first|(apply halt_at 8 (.string ((⟨#[107, 105, 110, 100, 32]⟩ : ByteArray) ++ k.name));(·rfl))|apply then_n|apply sp_seq|apply sp_region|apply spl_nil|((apply spl_pure rfl);(·(first|(apply ex_saddZ;(·exact eC);(·exact eT rfl);(·(decide));(·(assumption)))|((first|apply ex_assign|apply ex_fieldAddr')<;>(first|exact eT rfl|exact eC))|((apply ex_loadown)<;>(first|exact eT rfl|exact Bk.own InH.mem|rfl)))))|(apply spl_box;(·exact eT rfl);(·rfl);intro _ _))
  rename_i g1 hg1
  refine Halt.mk ?_
  have hhd : (hdX k).length ≤ 108 := by
    unfold hdX
    rw [List.length_append, tx_len]
    have : (if k.vehicle then [118, 101, 104, 105, 99, 108, 101, 32] else ([107, 105, 110, 100, 32] : List UInt8)).length ≤ 8 := by split <;> simp
    omega
  have hbl : ∀ i, (blX 0 (k.slots.take i)).length ≤ 24720 := fun i => by
    have h1 := blX_len (k.slots.take i) 0 fun s hs => hf.slots s (List.mem_of_mem_take hs)
    rw [List.length_take] at h1
    have : min i k.slots.length * 1648 ≤ 15 * 1648 := Nat.mul_le_mul_right _ (by omega)
    omega
  have hst0 : (if k.vehicle = true then (⟨#[118, 101, 104, 105, 99, 108, 101, 32]⟩ : ByteArray) ++ k.name else (⟨#[107, 105, 110, 100, 32]⟩ : ByteArray) ++ k.name) = ofL (hdX k ++ blX 0 (k.slots.take 0)) := by
    rw [List.take_zero]
    apply tx_inj
    rw [tx_ofL]
    unfold hdX blX
    cases k.vehicle
    · rw [if_neg (by simp), if_neg (by simp), tx_append, List.append_nil]; rfl
    · rw [if_pos rfl, if_pos rfl, tx_append, List.append_nil]; rfl
  refine spc_cut (X := Unit) (fun _ => [(3, true, .string (ofL (hdX k ++ blX 0 (k.slots.take 0)))), (1, true, .pointer (some ⟨g1, 0, none⟩))]) (fun _ => [(g1, .cells k.cells 34 (0, 0))]) (fun _ => True) ?_ ?_
  · cases hv : k.vehicle with
    | true =>
      rw [hv, if_pos rfl] at hst0
      repeat (first|(apply sp_cond_t;(·exact eT rfl);(·exact hv))|apply then_n|apply sp_seq|apply sp_region|apply spl_nil|((apply spl_pure rfl);(·(first|(apply ex_saddZ;(·exact eC);(·exact eT rfl);(·(decide));(·(assumption)))|((first|apply ex_assign|apply ex_fieldAddr')<;>(exact eT rfl))|((apply ex_loadown)<;>(first|exact eT rfl|exact Bk.own InH.mem|rfl))))))
      exact ⟨(), trivial, (by rw [← hst0]; (repeat (first|exact ESub.nil|apply ESub.cons rfl))), rfl, (by (repeat (exact HKeep.refl)))⟩
    | false =>
      rw [hv, if_neg (by simp)] at hst0
      repeat (first|(apply sp_cond_f;(·exact eT rfl);(·exact hv))|apply then_n|apply sp_seq|apply sp_region|apply spl_nil|apply sp_skip|((apply spl_pure rfl);(·(first|((apply ex_fieldAddr')<;>(exact eT rfl))|((apply ex_loadown)<;>(first|exact eT rfl|exact Bk.own InH.mem|rfl))))))
      exact ⟨(), trivial, (by rw [← hst0]; (repeat (first|exact ESub.nil|apply ESub.cons rfl))), rfl, (by (repeat (exact HKeep.refl)))⟩
  rintro ⟨⟩ -
  repeat (first|apply then_n|apply sp_seq|apply sp_region|apply spl_nil|apply sp_block|((apply spl_pure rfl);(·(((apply ex_assign)<;>(exact eC))))))
  refine sp_loop (X := Nat) (fun i => [(4, true, .int .i64 (i : Int)), (3, true, .string (ofL (hdX k ++ blX 0 (k.slots.take i)))), (1, true, .pointer (some ⟨g1, 0, none⟩))]) (fun _ => w) (fun _ => [(g1, .cells k.cells 34 (0, 0))]) (fun i => i ≤ k.ss.n) (fun i => k.ss.n - i) 0 (Nat.zero_le _) (by (repeat (first|exact ESub.nil|apply ESub.cons rfl))) rfl (by (repeat (exact HKeep.refl))) ?_
  intro i hi
  by_cases hlt : i < k.ss.n
  · obtain ⟨ad, s, hA, hb, hx, hsz, hc⟩ := h.1.at_ hlt
    have hmem := List.mem_of_getElem? hx
    have hst := h.2 s hmem
    have hfs := hf.slots s hmem
    have hbd3 := hst.1.bound
    have hlen3 : s.kinds.length = s.ks.n := hst.1.len
    have hsn := hfs.nm
    have hz1 : s.name.size ≤ 1000000000 := by omega
    obtain ⟨B, hB⟩ : ∃ B, hdX k ++ blX 0 (k.slots.take i) = B := ⟨_, rfl⟩
    have hBl : B.length ≤ 30000 := by rw [← hB, List.length_append]; have := hbl i; omega
    have hBz : (ofL B).size ≤ 1000000000 := by rw [size_ofL]; omega
    obtain ⟨sep, hsep⟩ : ∃ sep : List UInt8, (if i = 0 then [32, 40] else [59, 32]) = sep := ⟨_, rfl⟩
    have hsl : sep.length = 2 := by rw [← hsep]; split <;> rfl
    have hnext : hdX k ++ blX 0 (k.slots.take (i + 1)) = ((B ++ sep) ++ (tx s.name ++ [58])) ++ kdX s.normal 0 s.kinds := by
      rw [take_succ hx, blX_snoc, ← hB, ← hsep, List.length_take, show min i k.slots.length = i by omega]
      unfold slX
      simp only [List.append_assoc]
    rw [hB]
    have hsz2 : (ofL (B ++ sep)).size ≤ 1000000000 := by rw [size_ofL, List.length_append]; omega
    have hsz3 : (ofL (B ++ sep) ++ s.name).size ≤ 1000000000 := by rw [ByteArray.size_append, size_ofL, List.length_append]; omega
    have hst1 : (ofL (B ++ sep) ++ s.name) ++ ⟨#[58]⟩ = ofL (((B ++ sep) ++ (tx s.name ++ [58])) ++ kdX s.normal 0 (s.kinds.take 0)) := by
      apply tx_inj
      rw [tx_append, tx_append, tx_ofL, tx_ofL, List.take_zero]
      unfold kdX
      rw [List.append_nil, List.append_assoc]
      all_goals rfl
    repeat (first|(apply halt_at 18 (.bool (decide ((i : Int) < (k.ss.n : Int))));(·rfl))|apply then_n|apply sp_seq|apply sp_region|apply spl_nil|((apply sp_cond_t);(·exact eT rfl);(·(exact decide_eq_true (by omega))))|apply sp_skip|((apply spl_pure rfl);(·(first|((first|apply ex_move|apply ex_fieldAddr'|apply ex_lss|apply ex_len)<;>(exact eT rfl))|((apply ex_loadown)<;>(first|exact eT rfl|exact Bk.own InH.mem|rfl))))))
    refine Halt.mk ?_
    apply sp_seq
    apply sp_block
    refine spc_cut (X := Unit) (fun _ => [(4, true, .int .i64 (i : Int)), (3, true, .string (ofL (B ++ sep))), (1, true, .pointer (some ⟨g1, 0, none⟩))]) (fun _ => [(g1, .cells k.cells 34 (0, 0))]) (fun _ => True) ?_ ?_
    · by_cases hi0 : i = 0
      · have hst2 : ofL B ++ ⟨#[32, 40]⟩ = ofL (B ++ sep) := by
          apply tx_inj
          rw [tx_append, tx_ofL, tx_ofL, ← hsep, if_pos hi0]; rfl
        repeat (first|(apply sp_cond_t;(·exact eT rfl);(·exact decide_eq_true (by omega)))|apply then_n|apply sp_seq|apply sp_region|apply spl_nil|((apply spl_pure rfl);(·(first|(apply ex_saddZ;(·exact eT rfl);(·exact eC);(·(assumption));(·(decide)))|((first|apply ex_move|apply ex_assign|apply ex_seql)<;>(exact eT rfl))|((apply ex_eql)<;>(first|exact eT rfl|exact eC))))))
        exact ⟨(), trivial, (by rw [← hst2]; (repeat (first|exact ESub.nil|apply ESub.cons rfl))), rfl, (by (repeat (exact HKeep.refl)))⟩
      · have hst2 : ofL B ++ ⟨#[59, 32]⟩ = ofL (B ++ sep) := by
          apply tx_inj
          rw [tx_append, tx_ofL, tx_ofL, ← hsep, if_neg hi0]; rfl
        repeat (first|(apply sp_cond_f;(·exact eT rfl);(·exact decide_eq_false (by omega)))|apply then_n|apply sp_seq|apply sp_region|apply spl_nil|((apply spl_pure rfl);(·(first|(apply ex_saddZ;(·exact eT rfl);(·exact eC);(·(assumption));(·(decide)))|((first|apply ex_move|apply ex_assign|apply ex_seql)<;>(exact eT rfl))|((apply ex_eql)<;>(first|exact eT rfl|exact eC))))))
        exact ⟨(), trivial, (by rw [← hst2]; (repeat (first|exact ESub.nil|apply ESub.cons rfl))), rfl, (by (repeat (exact HKeep.refl)))⟩
    rintro ⟨⟩ -
    repeat (first|apply then_n|apply sp_seq|apply sp_region|apply spl_nil|apply sp_block|((apply spl_pure rfl);(·(first|(apply ex_loadfield (ad:=ad) (i:=i) (k:=0);(·exact eT rfl);(·exact h.1);(·exact hA);(·exact hx);(·rfl))|(apply ex_saddZ;(·exact eT rfl);(·(first|exact eT rfl|exact eC));(·(assumption));(·(first|assumption|decide)))|((first|apply ex_move|apply ex_assign|apply ex_fieldAddr')<;>(first|exact eT rfl|exact eC))|((apply ex_fieldAddr)<;>(exact eT rfl))|((first|apply ex_loadown|apply ex_indexAddr)<;>(first|exact eT rfl|exact Bk.own InH.mem|rfl|assumption))))))
    rw [hst1]
    obtain ⟨C, hC⟩ : ∃ C, (B ++ sep) ++ (tx s.name ++ [58]) = C := ⟨_, rfl⟩
    rw [hC] at hnext ⊢
    have hCl : C.length ≤ 40000 := by rw [← hC]; simp only [List.length_append, tx_len, List.length_cons, List.length_nil]; omega
    have hkl : ∀ m, (kdX s.normal 0 (s.kinds.take m)).length ≤ 1545 := fun m => by
      have h1 := kdX_len (nm := s.normal) (s.kinds.take m) 0 fun x hx => hfs.kinds x (List.mem_of_mem_take hx)
      have h2 := hfs.cnt
      rw [List.length_take] at h1
      have : min m s.kinds.length * 103 ≤ 15 * 103 := Nat.mul_le_mul_right _ (by omega)
      omega
    refine sp_loop (X := Nat) (fun m => [(5, true, .int .i64 (m : Int)), (4, true, .int .i64 (i : Int)), (3, true, .string (ofL (C ++ kdX s.normal 0 (s.kinds.take m)))), (1, true, .pointer (some ⟨g1, 0, none⟩))]) (fun _ => w) (fun _ => [(g1, .cells k.cells 34 (0, 0))]) (fun m => m ≤ s.ks.n) (fun m => s.ks.n - m) 0 (Nat.zero_le _) (by (repeat (first|exact ESub.nil|apply ESub.cons rfl))) rfl (by (repeat (exact HKeep.refl))) ?_
    intro m hm
    by_cases hlt2 : m < s.ks.n
    · obtain ⟨ad2, x, hA2, hb2, hx2, hsz22, hc2⟩ := hst.1.at_ hlt2
      have hxz := hfs.kinds x (List.mem_of_getElem? hx2)
      have hkm := hkl m
      obtain ⟨D, hD⟩ : ∃ D, C ++ kdX s.normal 0 (s.kinds.take m) = D := ⟨_, rfl⟩
      have hDl : D.length ≤ 50000 := by rw [← hD, List.length_append]; omega
      have hDz : (ofL D).size ≤ 1000000000 := by rw [size_ofL]; omega
      have hxz2 : x.size ≤ 1000000000 := by omega
      have hnx : C ++ kdX s.normal 0 (s.kinds.take (m + 1)) = (D ++ (if (m : Int) = s.normal then [32, 43] else [])) ++ (32 :: tx x) := by
        rw [take_succ hx2, kdX_snoc, ← hD, List.length_take, show min m s.kinds.length = m by omega]
        simp only [List.append_assoc]
      rw [hD]
      by_cases hmn : (m : Int) = s.normal
      · rw [if_pos hmn] at hnx
        have hs4 : (ofL D ++ ⟨#[32, 43]⟩).size ≤ 1000000000 := by rw [ByteArray.size_append, size_ofL]; show _ + 2 ≤ _; omega
        have hs5 : ((ofL D ++ ⟨#[32, 43]⟩) ++ ⟨#[32]⟩).size ≤ 1000000000 := by rw [ByteArray.size_append, ByteArray.size_append, size_ofL]; show _ + 2 + 1 ≤ _; omega
        have hst3 : ((ofL D ++ ⟨#[32, 43]⟩) ++ ⟨#[32]⟩) ++ x = ofL (C ++ kdX s.normal 0 (s.kinds.take (m + 1))) := by
          apply tx_inj
          rw [hnx, tx_append, tx_append, tx_append, tx_ofL, tx_ofL, List.append_assoc (D ++ _)]
          all_goals rfl
        repeat (first|(apply sp_cond_t;(·exact eT rfl);(·exact decide_eq_true hmn))|apply then_n|apply block_n|apply sp_seq|apply sp_region|apply spl_nil|((apply sp_cond_t);(·exact eT rfl);(·(exact decide_eq_true (by omega))))|apply sp_skip|apply sp_block|((apply spl_pure rfl);(·(first|(apply ex_loadfield (ad:=ad) (i:=i) (k:=1);(·exact eT rfl);(·exact h.1);(·exact hA);(·exact hx);(·rfl))|(apply ex_loadfield (ad:=ad) (i:=i) (k:=2);(·exact eT rfl);(·exact h.1);(·exact hA);(·exact hx);(·rfl))|(apply ex_loadfield (ad:=ad2) (i:=m) (k:=0);(·exact eT rfl);(·exact hst.1);(·exact hA2);(·exact hx2);(·rfl))|(apply ex_saddZ;(·exact eT rfl);(·(first|exact eT rfl|exact eC));(·(assumption));(·(first|assumption|decide)))|((first|apply ex_move|apply ex_assign|apply ex_fieldAddr'|apply ex_lss|apply ex_seql|apply ex_len)<;>(exact eT rfl))|((first|apply ex_fieldAddr|apply ex_eql)<;>(exact eT rfl))|(apply ex_addn<;>(first|exact eT rfl|exact eC|(constructor<;>omega)))|((first|apply ex_loadown|apply ex_indexAddr)<;>(first|exact eT rfl|exact Bk.own InH.mem|rfl|assumption))))))
        rw [hst3]
        exact ⟨m + 1, hlt2, by (show s.ks.n - (m + 1) < s.ks.n - m; omega), (by (repeat (first|exact ESub.nil|apply ESub.cons rfl))), rfl, (by (repeat (exact HKeep.refl)))⟩
      · rw [if_neg hmn, List.append_nil] at hnx
        have hs5 : (ofL D ++ ⟨#[32]⟩).size ≤ 1000000000 := by rw [ByteArray.size_append, size_ofL]; show _ + 1 ≤ _; omega
        have hst3 : (ofL D ++ ⟨#[32]⟩) ++ x = ofL (C ++ kdX s.normal 0 (s.kinds.take (m + 1))) := by
          apply tx_inj
          rw [hnx, tx_append, tx_append, tx_ofL, tx_ofL, List.append_assoc]
          all_goals rfl
        repeat (first|(apply sp_cond_f;(·exact eT rfl);(·exact decide_eq_false hmn))|apply then_n|apply block_n|apply sp_seq|apply sp_region|apply spl_nil|((apply sp_cond_t);(·exact eT rfl);(·(exact decide_eq_true (by omega))))|apply sp_skip|apply sp_block|((apply spl_pure rfl);(·(first|(apply ex_loadfield (ad:=ad) (i:=i) (k:=1);(·exact eT rfl);(·exact h.1);(·exact hA);(·exact hx);(·rfl))|(apply ex_loadfield (ad:=ad) (i:=i) (k:=2);(·exact eT rfl);(·exact h.1);(·exact hA);(·exact hx);(·rfl))|(apply ex_loadfield (ad:=ad2) (i:=m) (k:=0);(·exact eT rfl);(·exact hst.1);(·exact hA2);(·exact hx2);(·rfl))|(apply ex_saddZ;(·exact eT rfl);(·(first|exact eT rfl|exact eC));(·(assumption));(·(first|assumption|decide)))|((first|apply ex_move|apply ex_assign|apply ex_fieldAddr'|apply ex_lss|apply ex_seql|apply ex_len)<;>(exact eT rfl))|((first|apply ex_fieldAddr|apply ex_eql)<;>(exact eT rfl))|(apply ex_addn<;>(first|exact eT rfl|exact eC|(constructor<;>omega)))|((first|apply ex_loadown|apply ex_indexAddr)<;>(first|exact eT rfl|exact Bk.own InH.mem|rfl|assumption))))))
        rw [hst3]
        exact ⟨m + 1, hlt2, by (show s.ks.n - (m + 1) < s.ks.n - m; omega), (by (repeat (first|exact ESub.nil|apply ESub.cons rfl))), rfl, (by (repeat (exact HKeep.refl)))⟩
    · have hme : m = s.ks.n := by omega
      subst hme
      rw [List.take_of_length_le (by omega), ← hnext]
      repeat (first|apply then_n|apply block_n|apply sp_seq|apply sp_region|apply spl_nil|apply then_e|apply block_here|(apply sp_cond_f;(·exact eT rfl);(·(exact decide_eq_false (by omega))))|apply sp_exit|((apply spl_pure rfl);(·(first|(apply ex_loadfield (ad:=ad) (i:=i) (k:=1);(·exact eT rfl);(·exact h.1);(·exact hA);(·exact hx);(·rfl))|((first|apply ex_move|apply ex_assign|apply ex_fieldAddr'|apply ex_lss|apply ex_len)<;>(exact eT rfl))|((apply ex_fieldAddr)<;>(exact eT rfl))|(apply ex_addn<;>(first|exact eT rfl|exact eC|(constructor<;>omega)))|((first|apply ex_loadown|apply ex_indexAddr)<;>(first|exact eT rfl|exact Bk.own InH.mem|rfl|assumption))))))
      exact ⟨i + 1, hlt, by (show k.ss.n - (i + 1) < k.ss.n - i; omega), (by (repeat (first|exact ESub.nil|apply ESub.cons rfl))), rfl, (by (repeat (exact HKeep.refl)))⟩
  · have hie : i = k.ss.n := by omega
    have hbz := hbl k.ss.n
    have hz9 : (ofL (hdX k ++ blX 0 (k.slots.take k.ss.n))).size ≤ 1000000000 := by rw [size_ofL, List.length_append]; omega
    subst hie
    rw [List.take_of_length_le (by omega)] at hz9 ⊢
    by_cases hpos : (0 : Int) < (k.ss.n : Int)
    · have hst9 : (ofL (hdX k ++ blX 0 k.slots) ++ ⟨#[41]⟩) ++ ⟨#[59, 10]⟩ = ofL (lnX k) := by
        unfold lnX
        rw [if_pos (by omega)]
        apply tx_inj
        rw [tx_append, tx_append, tx_ofL, tx_ofL]
        all_goals rfl
      have hz10 : (ofL (hdX k ++ blX 0 k.slots) ++ ⟨#[41]⟩).size ≤ 1000000000 := by rw [ByteArray.size_append]; rw [size_ofL] at hz9 ⊢; show _ + 1 ≤ _; rw [List.length_append] at hz9 ⊢; rw [List.take_of_length_le (by omega)] at hbz; omega
      repeat (first|(apply sp_cond_t;(·exact eT rfl);(·exact decide_eq_true hpos))|apply then_n|apply sp_seq|apply sp_region|apply spl_nil|apply then_e|apply block_here|(apply sp_cond_f;(·exact eT rfl);(·(exact decide_eq_false (by omega))))|apply sp_ret|apply sp_exit|((apply spl_pure rfl);(·(first|(apply ex_saddZ;(·exact eT rfl);(·exact eC);(·(assumption));(·(decide)))|((first|apply ex_move|apply ex_assign|apply ex_fieldAddr'|apply ex_lss|apply ex_gtr|apply ex_len)<;>(first|exact eT rfl|exact eC))|((apply ex_loadown)<;>(first|exact eT rfl|exact Bk.own InH.mem|rfl))))))
      rw [hst9]
      (apply ret_ok rfl;(·((apply Res.ofOne;((apply Res1.tmp;(·rfl))))))); rfl
    · have hst9 : ofL (hdX k ++ blX 0 k.slots) ++ ⟨#[59, 10]⟩ = ofL (lnX k) := by
        unfold lnX
        rw [if_neg (by omega), List.append_nil]
        apply tx_inj
        rw [tx_append, tx_ofL, tx_ofL]
        all_goals rfl
      repeat (first|(apply sp_cond_f;(·exact eT rfl);(·exact decide_eq_false hpos))|apply then_n|apply sp_seq|apply sp_region|apply spl_nil|apply then_e|apply block_here|(apply sp_cond_f;(·exact eT rfl);(·(exact decide_eq_false (by omega))))|apply sp_skip|apply sp_ret|apply sp_exit|((apply spl_pure rfl);(·(first|(apply ex_saddZ;(·exact eT rfl);(·exact eC);(·(assumption));(·(decide)))|((first|apply ex_move|apply ex_assign|apply ex_fieldAddr'|apply ex_lss|apply ex_gtr|apply ex_len)<;>(first|exact eT rfl|exact eC))|((apply ex_loadown)<;>(first|exact eT rfl|exact Bk.own InH.mem|rfl))))))
      rw [hst9]
      (apply ret_ok rfl;(·((apply Res.ofOne;((apply Res1.tmp;(·rfl))))))); rfl
theorem textL {ks : List KindR} (h : ∀ k ∈ ks, ∀ s ∈ k.slots, 1 ≤ s.normal ∧ s.normal ≤ (s.kinds.length : Int)) : ks.flatMap lnX = textX (ks.map KindR.pure) := by
  unfold textX
  rw [List.flatMap_map]
  induction ks with
  | nil => rfl
  | cons k r ih =>
    rw [List.flatMap_cons, List.flatMap_cons, lnX_eq (h k (.head _)), ih fun x hx => h x (.tail _ hx)]
theorem lnX_len {k : KindR} (h : FewK k) : (lnX k).length ≤ 25000 := by
  have h1 := blX_len k.slots 0 h.slots
  have h2 := h.cnt
  have h3 := h.nm
  rw [← tx_len] at h3
  unfold lnX hdX
  simp only [List.length_append, List.length_cons, List.length_nil]
  have e1 : (if k.vehicle = true then [118, 101, 104, 105, 99, 108, 101, 32] else ([107, 105, 110, 100, 32] : List UInt8)).length ≤ 8 := by split <;> simp
  have e2 : (if 0 < k.slots.length then [41] else ([] : List UInt8)).length ≤ 1 := by split <;> simp
  omega
theorem text_bound {ks : List KindR} (hf : ∀ k ∈ ks, FewK k) (hv : ∀ k ∈ ks, nameL (tx k.name) = true ∧ k.slots.length ≤ 12 ∧ ∀ s ∈ k.slots, nameL (tx s.name) = true ∧ ∀ x ∈ s.kinds, nameL (tx x) = true) : (ks.flatMap lnX).length ≤ ks.length * 10000 := by
  induction ks with
  | nil => exact Nat.zero_le _
  | cons k r ih =>
    have h1 := ih (fun x hx => hf x (.tail _ hx)) fun x hx => hv x (.tail _ hx)
    obtain ⟨v1, v2, v3⟩ := hv k (.head _)
    have f1 := hf k (.head _)
    have n1 := (name_size v1).2
    rw [← tx_len] at n1
    have hk : ∀ (nm : Int) (l : List ByteArray) (j : Nat), (∀ x ∈ l, nameL (tx x) = true) → (kdX nm j l).length ≤ l.length * 27 := by
      intro nm l
      induction l with
      | nil => intro j _; simp [kdX]
      | cons x q ih =>
        intro j hx
        have q1 := ih (j + 1) fun y hy => hx y (.tail _ hy)
        have q2 := (name_size (hx x (.head _))).2
        rw [← tx_len] at q2
        simp only [kdX, List.length_append, List.length_cons]
        have : (if (j : Int) = nm then [32, 43] else ([] : List UInt8)).length ≤ 2 := by split <;> simp
        omega
    have hb : ∀ (l : List SlotR) (j : Nat), (∀ s ∈ l, FewS s ∧ nameL (tx s.name) = true ∧ ∀ x ∈ s.kinds, nameL (tx x) = true) → (blX j l).length ≤ l.length * 450 := by
      intro l
      induction l with
      | nil => intro j _; simp [blX]
      | cons s q ih =>
        intro j hx
        have q1 := ih (j + 1) fun y hy => hx y (.tail _ hy)
        obtain ⟨q2, q3, q4⟩ := hx s (.head _)
        have q5 := hk s.normal s.kinds 0 q4
        have q6 := (name_size q3).2
        have q7 := q2.cnt
        rw [← tx_len] at q6
        simp only [blX, slX, List.length_append, List.length_cons, List.length_nil]
        have : (if j = 0 then [32, 40] else ([59, 32] : List UInt8)).length = 2 := by split <;> rfl
        omega
    have b1 := hb k.slots 0 fun s hs => ⟨f1.slots s hs, v3 s hs⟩
    rw [List.flatMap_cons, List.length_append, List.length_cons]
    have e0 : (lnX k).length ≤ 10000 := by
      unfold lnX hdX
      simp only [List.length_append, List.length_cons, List.length_nil]
      have e1 : (if k.vehicle = true then [118, 101, 104, 105, 99, 108, 101, 32] else ([107, 105, 110, 100, 32] : List UInt8)).length ≤ 8 := by split <;> simp
      have e2 : (if 0 < k.slots.length then [41] else ([] : List UInt8)).length ≤ 1 := by split <;> simp
      omega
    omega
attribute [local irreducible] lnX lexR textB validB
set_option maxRecDepth 100000 in
set_option maxHeartbeats 8000000 in
theorem refText_c {w : World} {A : Option Addr} {n c : Nat} {ks : List KindR} (h : RdKinds w w.heap.size ⟨A, n, c⟩ ks) (hnc : n ≤ c) (hfew : fewB ks = true) :
    Calls Try.prog 12 #[.agg #[.slice A n c]] w (Ret w (.tuple #[.string (textR ks).1, .int .i64 (textR ks).2])) := by
  have hlen : ks.length = n := h.1.len
  have hbd : n ≤ 9223372036854775807 := h.1.bound
  have hla := h.lens
  obtain ⟨h65, hFK⟩ := few_K hla hfew
  have hval := fun (w' : World) (h' : RdKinds w' w'.heap.size ⟨A, n, c⟩ ks) => refValid_c (c := c) h' hnc (fun k hk => ⟨by have := (hFK k hk).nm; omega, fun s hs => by have := ((hFK k hk).slots s hs).nm; omega⟩)
  refine sp_enter (vs := [_]) Try.func12 rfl Try.ntmps12 rfl ?_
  unfold textR
  cases hv : validB ks with
  | false =>
    rw [hv] at hval
    repeat (first|(apply spl_callp rfl;(·(repeat (first|exact eN|(apply eS;(·exact eT rfl)))));(·exact fun w' hh => hval w' (h.hp hh)))|(apply sp_cond_t;(·exact eT rfl);(·rfl))|apply then_n|apply sp_seq|apply sp_region|apply spl_nil|apply then_r|apply sp_ret|((apply spl_pure rfl);(·(first|((first|apply ex_assign|apply ex_not)<;>(first|exact eT rfl|exact eC))|((apply ex_loadowns)<;>(first|exact eT rfl|exact Bk.own InH.mem|(rfl))))))|(apply spl_box;(·exact eT rfl);(·rfl);intro _ _))
    (apply ret_ok rfl;(·((apply Res.ofTwo<;>((apply Res1.tmp;(·rfl))))))); rfl
  | true =>
    rw [hv] at hval
    have hcv := (valid_iff hla).1 hv
    have hall := (catV_all hcv).2
    have hnorm : ∀ k ∈ ks, ∀ s ∈ k.slots, 1 ≤ s.normal ∧ s.normal ≤ (s.kinds.length : Int) := fun k hk s hs => by
      have h1 := (hall k.pure (List.mem_map.2 ⟨k, hk, rfl⟩)).slots s.pure (List.mem_map.2 ⟨s, hs, rfl⟩)
      have h2 := h1.one
      have h3 := h1.le
      simp only [SlotR.pure] at h2 h3
      omega
    have htx := textL hnorm
    have hbnd : (ks.flatMap lnX).length ≤ 650000 := by
      have := text_bound hFK fun k hk => by
        have h1 := hall k.pure (List.mem_map.2 ⟨k, hk, rfl⟩)
        refine ⟨h1.nm, by have := h1.few; simpa [KindR.pure] using this, fun s hs => ?_⟩
        have h2 := h1.slots s.pure (List.mem_map.2 ⟨s, hs, rfl⟩)
        exact ⟨h2.nm, h2.nms⟩
      have : ks.length * 10000 ≤ 65 * 10000 := Nat.mul_le_mul_right _ h65
      omega
    have hpre : ∀ i, ((ks.take i).flatMap lnX).length ≤ 650000 := fun i => by
      have h1 : ks.flatMap lnX = (ks.take i).flatMap lnX ++ (ks.drop i).flatMap lnX := by rw [← List.flatMap_append, List.take_append_drop]
      rw [h1, List.length_append] at hbnd
      omega
    repeat (first|(apply spl_callp rfl;(·(repeat (first|exact eN|(apply eS;(·exact eT rfl)))));(·exact fun w' hh => hval w' (h.hp hh)))|(apply sp_cond_f;(·exact eT rfl);(·rfl))|apply then_n|apply sp_seq|apply sp_region|apply spl_nil|apply sp_skip|apply sp_block|((apply spl_pure rfl);(·(first|((first|apply ex_assign|apply ex_not)<;>(first|exact eT rfl|exact eC))|((apply ex_loadowns)<;>(first|exact eT rfl|exact Bk.own InH.mem|(rfl))))))|(apply spl_box;(·exact eT rfl);(·rfl);intro _ _))
    rename_i g1 hg1
    refine sp_loop (X := Nat) (fun i => [(5, true, .int .i64 (i : Int)), (4, true, .string (ofL ((ks.take i).flatMap lnX))), (1, true, .pointer (some ⟨g1, 0, none⟩))]) (fun _ => w) (fun _ => [(g1, .cells #[.slice A n c] 24 (0, 0))]) (fun i => i ≤ n) (fun i => n - i) 0 (Nat.zero_le _) (by rw [List.take_zero, List.flatMap_nil]; (repeat (first|exact ESub.nil|apply ESub.cons rfl))) rfl (by (repeat (exact HKeep.refl))) ?_
    intro i hi
    by_cases hlt : i < n
    · obtain ⟨ad, x, hA, hb, hx, hsz, hc⟩ := h.1.at_ hlt
      have hmem := List.mem_of_getElem? hx
      have hsl := h.2 x hmem
      have hline := fun (w' : World) (h' : RdSlots w' w'.heap.size x.ss x.slots) => refLine_c h' (hFK x hmem)
      have hz1 : (ofL ((ks.take i).flatMap lnX)).size ≤ 1000000000 := by rw [size_ofL]; have := hpre i; omega
      have hz2 : (ofL (lnX x)).size ≤ 1000000000 := by rw [size_ofL]; have := lnX_len (hFK x hmem); omega
      have hst : ofL ((ks.take i).flatMap lnX) ++ ofL (lnX x) = ofL ((ks.take (i + 1)).flatMap lnX) := by
        apply tx_inj; rw [tx_append, tx_ofL, tx_ofL, tx_ofL, take_succ hx, List.flatMap_append]; simp
      repeat (first|(apply spl_callp rfl;(·(repeat (first|exact eN|(apply eS;(·exact eT rfl)))));(·exact fun w' hh => hline w' (hsl.hp hh)))|apply then_n|apply block_n|apply sp_seq|apply sp_region|apply spl_nil|((apply sp_cond_t);(·exact eT rfl);(·(exact decide_eq_true (by omega))))|apply sp_skip|apply sp_block|((apply spl_pure rfl);(·(first|(apply ex_loadelem;(·exact eT rfl);(·exact h.1);(·exact hA);(·exact hx))|(apply ex_saddZ;(·exact eT rfl);(·exact eT rfl);(·(assumption));(·(assumption)))|((first|apply ex_move|apply ex_assign|apply ex_fieldAddr'|apply ex_lss|apply ex_len)<;>(exact eT rfl))|(apply ex_addn<;>(first|exact eT rfl|exact eC|(constructor<;>omega)))|((first|apply ex_loadown|apply ex_indexAddr)<;>(first|exact eT rfl|exact Bk.own InH.mem|rfl|assumption))))))
      rw [hst]
      exact ⟨i + 1, hlt, by (show n - (i + 1) < n - i; omega), (by (repeat (first|exact ESub.nil|apply ESub.cons rfl))), rfl, (by (repeat (exact HKeep.refl)))⟩
    · have hie : i = n := by omega
      subst hie
      rw [List.take_of_length_le (by omega), htx]
      obtain ⟨T, hT⟩ : ∃ T, textB (ks.map KindR.pure) = T := ⟨_, rfl⟩
      have hTx : ofL (textX (ks.map KindR.pure)) = T := by
        rw [← hT]; apply tx_inj; rw [tx_ofL, tx_textB]
      rw [hTx, hT, if_pos rfl]
      have hTz : T.size < 1000000 := by rw [← hTx, size_ofL, ← htx]; omega
      obtain ⟨L, E, AT, hR⟩ : ∃ L E AT, lexR T = (L, E, AT) := ⟨_, _, _, rfl⟩
      have hlx := fun w' => refLex_c (w := w') T hTz
      rw [hR] at hlx ⊢
      dsimp only at hlx ⊢
      by_cases hE : E = 0
      · rw [if_pos hE]
        repeat (first|(apply spl_callh (X:=RowS) rfl;(·(repeat (first|exact eN|(apply eS;(·exact eT rfl)))));(·exact fun w' hh => hlx w');(rintro x hx hfx))|(apply sp_cond_f;(·exact eT rfl);(·(simp [hE])))|apply then_n|apply sp_seq|apply sp_region|apply spl_nil|apply then_e|apply block_here|apply sp_skip|apply sp_ret|apply sp_exit|((apply spl_pure rfl);(·(first|((first|apply ex_move|apply ex_assign|apply ex_fieldAddr'|apply ex_lss|apply ex_sneq|apply ex_len)<;>(first|exact eT rfl|exact eC))|((apply ex_neq)<;>(first|exact eT rfl|exact eC))|((first|apply ex_loadown|apply ex_extract)<;>(first|exact eT rfl|exact Bk.own InH.mem|rfl))))))
        (apply ret_ok rfl;(·((apply Res.ofTwo<;>((apply Res1.tmp;(·rfl))))))); rfl
      · rw [if_neg hE]
        repeat (first|(apply spl_callh (X:=RowS) rfl;(·(repeat (first|exact eN|(apply eS;(·exact eT rfl)))));(·exact fun w' hh => hlx w');(rintro x hx hfx))|(apply sp_cond_t;(·exact eT rfl);(·(simp [hE])))|apply then_n|apply sp_seq|apply sp_region|apply spl_nil|apply then_r|apply then_e|apply block_here|(apply sp_cond_f;(·exact eT rfl);(·(exact decide_eq_false (by omega))))|apply sp_ret|apply sp_exit|((apply spl_pure rfl);(·(first|((first|apply ex_move|apply ex_assign|apply ex_fieldAddr'|apply ex_lss|apply ex_sneq|apply ex_len)<;>(first|exact eT rfl|exact eC))|((apply ex_neq)<;>(first|exact eT rfl|exact eC))|((first|apply ex_loadown|apply ex_extract)<;>(first|exact eT rfl|exact Bk.own InH.mem|rfl))))))
        (apply ret_ok rfl;(·((apply Res.ofTwo<;>((apply Res1.tmp;(·rfl))))))); rfl
end Go.Proofs.Ytfdjlphfohnnnaa
/-
  Contracts: when two catalogs are the same.
-/
namespace Go.Proofs.Ytfdjlphfohnnnaa
open Go.RowKit Go.Sy
set_option linter.unusedVariables false
set_option linter.unusedSimpArgs false
def all2 {α : Type} (p : α → α → Bool) : List α → List α → Bool
  | [], [] => true
  | x :: xs, y :: ys => p x y && all2 p xs ys
  | _, _ => false
theorem all2_len {α : Type} {p : α → α → Bool} : ∀ {xs ys : List α}, xs.length ≠ ys.length → all2 p xs ys = false
  | [], [], h => absurd rfl h
  | [], _ :: _, _ => rfl
  | _ :: _, [], _ => rfl
  | x :: xs, y :: ys, h => by
    simp only [all2]
    rw [all2_len (by simpa using h), Bool.and_false]
theorem all2_drop {α : Type} {p : α → α → Bool} {xs ys : List α} {i : Nat} {x y : α} (hx : xs[i]? = some x) (hy : ys[i]? = some y) : all2 p (xs.drop i) (ys.drop i) = (p x y && all2 p (xs.drop (i + 1)) (ys.drop (i + 1))) := by
  obtain ⟨h1, h2⟩ := List.getElem?_eq_some_iff.1 hx
  obtain ⟨h3, h4⟩ := List.getElem?_eq_some_iff.1 hy
  rw [← List.getElem_cons_drop h1, ← List.getElem_cons_drop h3, h2, h4]
  all_goals rfl
theorem all2_end {α : Type} {p : α → α → Bool} {xs ys : List α} {i : Nat} (h : xs.length ≤ i) (h2 : ys.length ≤ i) : all2 p (xs.drop i) (ys.drop i) = true := by rw [List.drop_eq_nil_of_le h, List.drop_eq_nil_of_le h2]; rfl
theorem all2_iff {α β : Type} {p : α → α → Bool} {f : α → β} : ∀ {xs ys : List α}, (∀ x ∈ xs, ∀ y ∈ ys, (p x y = true ↔ f x = f y)) → (all2 p xs ys = true ↔ xs.map f = ys.map f)
  | [], [], _ => by simp [all2]
  | [], _ :: _, _ => by simp [all2]
  | _ :: _, [], _ => by simp [all2]
  | x :: xs, y :: ys, h => by
    simp only [all2, List.map_cons, List.cons.injEq, Bool.and_eq_true]
    rw [h x (.head _) y (.head _), all2_iff fun a ha b hb => h a (.tail _ ha) b (.tail _ hb)]
def eqB (x y : ByteArray) : Bool := decide (x = y)
def sameS (a b : SlotR) : Bool := !((!decide (a.name = b.name) || !decide (a.normal = b.normal)) || !all2 eqB a.kinds b.kinds)
def sameK (a b : KindR) : Bool := (decide (a.name = b.name) && (a.vehicle == b.vehicle)) && all2 sameS a.slots b.slots
def sameC (a b : List KindR) : Bool := all2 sameK a b
attribute [local irreducible] Calls thenQ blockQ retQ Spc Spl Spq Ex Ev Evs Gd Upd ESub HKeep Res Res1 wlk effQ Rem SrcAt Split
set_option maxRecDepth 100000 in
set_option maxHeartbeats 4000000 in
theorem Strings_c {w : World} {A B : Option Addr} {n c m d : Nat} {xs ys : List ByteArray} (h : RdS w w.heap.size 1 strC A n xs) (h' : RdS w w.heap.size 1 strC B m ys) :
    Calls Try.prog 43 #[.slice A n c, .slice B m d] w (Ret w (.bool (all2 eqB xs ys))) := by
  have hbd := h.bound
  have hl := h.len
  have hl' := h'.len
  refine sp_enter (vs := [_, _]) Try.func43 rfl Try.ntmps43 rfl ?_
  by_cases hnm : n = m
  · subst hnm
    repeat (first|(apply sp_cond_f;(·exact eT rfl);(·(simp)))|apply then_n|apply sp_seq|apply sp_region|apply spl_nil|apply sp_skip|apply sp_block|((apply spl_pure rfl);(·(first|((first|apply ex_move|apply ex_assign|apply ex_sneq|apply ex_len)<;>(first|exact eT rfl|exact eC))|((apply ex_neq)<;>(exact eT rfl))))))
    refine sp_loop (X := Nat) (fun i => [(5, true, .int .i64 (i : Int)), (1, true, .slice B n d), (0, true, .slice A n c)]) (fun _ => w) (fun _ => []) (fun i => i ≤ n ∧ all2 eqB xs ys = all2 eqB (xs.drop i) (ys.drop i)) (fun i => n - i) 0 ⟨Nat.zero_le _, rfl⟩ (by (repeat (first|exact ESub.nil|apply ESub.cons rfl))) rfl (by (repeat (exact HKeep.refl))) ?_
    rintro i ⟨hi, hinv⟩
    by_cases hlt : i < n
    · obtain ⟨ad, x, hA, -, hx, -, -⟩ := h.at_ hlt
      obtain ⟨ad', y, hB, -, hy, -, -⟩ := h'.at_ hlt
      rw [all2_drop hx hy] at hinv
      by_cases he : x = y
      · have hp : eqB x y = true := decide_eq_true he
        rw [hp, Bool.true_and] at hinv
        repeat (first|(apply sp_cond_f;(·exact eT rfl);(·(rw [decide_eq_true he];rfl)))|apply then_n|apply block_n|apply sp_seq|apply sp_region|apply spl_nil|((apply sp_cond_t);(·exact eT rfl);(·(exact decide_eq_true (by omega))))|apply sp_skip|apply sp_block|((first|apply spl_pure rfl|apply spq_pure rfl);(·(first|(apply ex_loadfield (ad:=ad) (i:=i) (k:=0);(·exact eT rfl);(·exact h);(·exact hA);(·exact hx);(·rfl))|(apply ex_loadfield (ad:=ad') (i:=i) (k:=0);(·exact eT rfl);(·exact h');(·exact hB);(·exact hy);(·rfl))|((first|apply ex_move|apply ex_assign|apply ex_lss|apply ex_sneq|apply ex_len)<;>(exact eT rfl))|(apply ex_addn<;>(first|exact eT rfl|exact eC|(constructor<;>omega)))|((apply ex_indexAddr)<;>(first|exact eT rfl|assumption)))))|apply spq_nil|apply sp_draw mixed (by kernel_rfl))
        exact ⟨i + 1, ⟨hlt, hinv⟩, by (show n - (i + 1) < n - i; omega), (by (repeat (first|exact ESub.nil|apply ESub.cons rfl))), rfl, (by (repeat (exact HKeep.refl)))⟩
      · have hp : eqB x y = false := decide_eq_false he
        rw [hp, Bool.false_and] at hinv
        rw [hinv]
        repeat (first|(apply sp_cond_t;(·exact eT rfl);(·(rw [decide_eq_false he];rfl)))|apply then_n|apply sp_seq|apply sp_region|apply spl_nil|apply then_r|apply block_r|((apply sp_cond_t);(·exact eT rfl);(·(exact decide_eq_true (by omega))))|apply sp_skip|apply sp_ret|apply sp_block|((first|apply spl_pure rfl|apply spq_pure rfl);(·(first|(apply ex_loadfield (ad:=ad) (i:=i) (k:=0);(·exact eT rfl);(·exact h);(·exact hA);(·exact hx);(·rfl))|(apply ex_loadfield (ad:=ad') (i:=i) (k:=0);(·exact eT rfl);(·exact h');(·exact hB);(·exact hy);(·rfl))|((first|apply ex_move|apply ex_assign|apply ex_lss|apply ex_sneq|apply ex_len)<;>(first|exact eT rfl|exact eC))|((apply ex_indexAddr)<;>(first|exact eT rfl|assumption)))))|apply spq_nil|apply sp_draw mixed (by kernel_rfl))
        (apply ret_ok rfl;(·((apply Res.ofOne;((apply Res1.tmp;(·rfl))))))); rfl
    · rw [all2_end (by omega) (by omega)] at hinv
      rw [hinv]
      repeat (first|apply then_n|apply sp_seq|apply sp_region|apply spl_nil|apply then_e|apply block_here|(apply sp_cond_f;(·exact eT rfl);(·(exact decide_eq_false (by omega))))|apply sp_ret|apply sp_exit|((apply spl_pure rfl);(·(((first|apply ex_move|apply ex_assign|apply ex_lss|apply ex_len)<;>(first|exact eT rfl|exact eC))))))
      (apply ret_ok rfl;(·((apply Res.ofOne;((apply Res1.tmp;(·rfl))))))); rfl
  · rw [all2_len (by omega)]
    have hnm' : ¬ (n : Int) = (m : Int) := by omega
    repeat (first|(apply sp_cond_t;(·exact eT rfl);(·(rw [decide_eq_false hnm'];rfl)))|apply then_n|apply sp_seq|apply sp_region|apply spl_nil|apply then_r|apply sp_ret|((apply spl_pure rfl);(·(first|((first|apply ex_move|apply ex_assign|apply ex_sneq|apply ex_len)<;>(first|exact eT rfl|exact eC))|((apply ex_neq)<;>(exact eT rfl))))))
    (apply ret_ok rfl;(·((apply Res.ofOne;((apply Res1.tmp;(·rfl))))))); rfl
set_option maxRecDepth 100000 in
set_option maxHeartbeats 4000000 in
theorem SameKind_c {w : World} {a b : KindR} (h : RdSlots w w.heap.size a.ss a.slots) (h' : RdSlots w w.heap.size b.ss b.slots) :
    Calls Try.prog 18 #[.agg a.cells, .agg b.cells] w (Ret w (.bool (sameK a b))) := by
  have hbd := h.1.bound
  have hl := h.1.len
  have hl' := h'.1.len
  refine sp_enter (vs := [_, _]) Try.func18 rfl Try.ntmps18 rfl ?_
  unfold sameK
  repeat (first|apply then_n|apply sp_seq|apply sp_region|apply spl_nil|((first|apply spl_pure rfl|(apply spl_pure_g rfl;(·exact Gd.tf rfl rfl)));(·(first|((first|apply ex_move|apply ex_assign|apply ex_fieldAddr'|apply ex_sneq|apply ex_len)<;>(first|exact eT rfl|exact eC|exact eG rfl))|((first|apply ex_neq|apply ex_orT)<;>(first|exact eT rfl|exact eG rfl))|((apply ex_bneq)<;>(exact eG rfl))|((apply ex_loadown)<;>(first|exact eT rfl|exact eG rfl|exact Bk.own InH.mem|rfl)))))|(apply spl_box;(·exact eT rfl);(·rfl);intro _ _))
  rename_i g2 hg2 g3 hg3
  refine sp_cond (eT rfl) (fun hp => ?_) (fun hp => ?_)
  · have hf : ((decide (a.name = b.name) && (a.vehicle == b.vehicle)) && all2 sameS a.slots b.slots) = false := by
      by_cases hlen : a.ss.n = b.ss.n
      · have : decide ((a.ss.n : Int) = (b.ss.n : Int)) = true := decide_eq_true (by omega)
        rw [this] at hp
        revert hp
        cases decide (a.name = b.name) <;> cases (a.vehicle == b.vehicle) <;> simp
      · rw [all2_len (by omega), Bool.and_false]
    rw [hf]
    repeat (first|apply then_n|apply sp_seq|apply sp_region|apply spl_nil|apply then_r|apply sp_ret|((apply spl_pure rfl);(·(((apply ex_assign)<;>(exact eC))))))
    (apply ret_ok rfl;(·((apply Res.ofOne;((apply Res1.tmp;(·rfl))))))); rfl
  · have hE : decide (a.name = b.name) = true ∧ (a.vehicle == b.vehicle) = true ∧ a.ss.n = b.ss.n := by
      by_cases hlen : a.ss.n = b.ss.n
      · revert hp
        cases decide (a.name = b.name) <;> cases (a.vehicle == b.vehicle) <;> simp [hlen]
      · have : decide ((a.ss.n : Int) = (b.ss.n : Int)) = false := decide_eq_false (by omega)
        rw [this] at hp
        revert hp
        cases decide (a.name = b.name) <;> cases (a.vehicle == b.vehicle) <;> simp
    obtain ⟨h1, h2, h3⟩ := hE
    rw [h1, h2, Bool.true_and, Bool.true_and]
    clear hp
    repeat (first|apply then_n|apply sp_seq|apply sp_region|apply spl_nil|apply sp_skip|apply sp_block|((apply spl_pure rfl);(·(((apply ex_assign)<;>(exact eC))))))
    refine sp_loop (X := Nat) (fun i => [(5, true, .int .i64 (i : Int)), (3, true, .pointer (some ⟨g3, 0, none⟩)), (2, true, .pointer (some ⟨g2, 0, none⟩))]) (fun _ => w) (fun _ => [(g3, .cells b.cells 34 (0, 0)), (g2, .cells a.cells 34 (0, 0))]) (fun i => i ≤ a.ss.n ∧ all2 sameS a.slots b.slots = all2 sameS (a.slots.drop i) (b.slots.drop i)) (fun i => a.ss.n - i) 0 ⟨Nat.zero_le _, rfl⟩ (by (repeat (first|exact ESub.nil|apply ESub.cons rfl))) rfl (by (repeat (exact HKeep.refl))) ?_
    rintro i ⟨hi, hinv⟩
    by_cases hlt : i < a.ss.n
    · have hlt2 : i < b.ss.n := by omega
      obtain ⟨ad, x, hA, -, hx, -, -⟩ := h.1.at_ hlt
      obtain ⟨ad', y, hB, -, hy, -, -⟩ := h'.1.at_ hlt2
      have hx1 := h.2 x (List.mem_of_getElem? hx)
      have hy1 := h'.2 y (List.mem_of_getElem? hy)
      rw [all2_drop hx hy] at hinv
      obtain ⟨bs, hbs⟩ : ∃ v, all2 eqB x.kinds y.kinds = v := ⟨_, rfl⟩
      have hS := fun (w' : World) (q1 : RdS w' w'.heap.size 1 strC x.ks.a x.ks.n x.kinds) (q2 : RdS w' w'.heap.size 1 strC y.ks.a y.ks.n y.kinds) => Strings_c (c := x.ks.c) (d := y.ks.c) q1 q2
      rw [hbs] at hS
      cases hp : sameS x y with
      | true =>
        rw [hp, Bool.true_and] at hinv
        unfold sameS at hp
        rw [Bool.not_eq_true', hbs] at hp
        repeat (first|(apply sp_cond_f;(·exact eT rfl);(·with_reducible exact hp))|(apply spq_callp_g rfl;(·exact Gd.tf rfl rfl);(·(repeat (first|exact eN|(apply eS;(·exact eG rfl)))));(·exact fun _ w' hh => hS w' (hx1.1.hp' hh) (hy1.1.hp' hh)))|apply then_n|apply block_n|apply sp_seq|apply sp_region|apply spl_nil|((apply sp_cond_t);(·exact eT rfl);(·(exact decide_eq_true (by omega))))|apply sp_skip|apply sp_block|((first|apply spl_pure rfl|apply spq_pure rfl|(apply spq_pure_g rfl;(·exact Gd.tf rfl rfl)));(·(first|(apply ex_loadfield (ad:=ad) (i:=i) (k:=0);(·exact eT rfl);(·exact h.1);(·exact hA);(·exact hx);(·rfl))|(apply ex_loadfield (ad:=ad') (i:=i) (k:=0);(·exact eT rfl);(·exact h'.1);(·exact hB);(·exact hy);(·rfl))|(apply ex_loadfield (ad:=ad) (i:=i) (k:=2);(·exact eG rfl);(·exact h.1);(·exact hA);(·exact hx);(·rfl))|(apply ex_loadfield (ad:=ad') (i:=i) (k:=2);(·exact eG rfl);(·exact h'.1);(·exact hB);(·exact hy);(·rfl))|(apply ex_loadfield (ad:=ad) (i:=i) (k:=1);(·exact eG rfl);(·exact h.1);(·exact hA);(·exact hx);(·rfl))|(apply ex_loadfield (ad:=ad') (i:=i) (k:=1);(·exact eG rfl);(·exact h'.1);(·exact hB);(·exact hy);(·rfl))|((first|apply ex_move|apply ex_assign|apply ex_fieldAddr'|apply ex_not|apply ex_lss|apply ex_sneq|apply ex_len)<;>(first|exact eT rfl|exact eG rfl))|((first|apply ex_fieldAddr|apply ex_neq|apply ex_orT)<;>(first|exact eT rfl|exact eG rfl))|(apply ex_addn<;>(first|exact eT rfl|exact eC|(constructor<;>omega)))|((first|apply ex_loadown|apply ex_indexAddr)<;>(first|exact eT rfl|exact eG rfl|exact Bk.own InH.mem|rfl|assumption)))))|apply spq_nil|apply sp_draw mixed (by kernel_rfl))
        exact ⟨i + 1, ⟨hlt, hinv⟩, by (show a.ss.n - (i + 1) < a.ss.n - i; omega), (by (repeat (first|exact ESub.nil|apply ESub.cons rfl))), rfl, (by (repeat (exact HKeep.refl)))⟩
      | false =>
        rw [hp, Bool.false_and] at hinv
        rw [hinv]
        unfold sameS at hp
        rw [Bool.not_eq_false', hbs] at hp
        repeat (first|(apply sp_cond_t;(·exact eT rfl);(·with_reducible exact hp))|(apply spq_callp_g rfl;(·exact Gd.tf rfl rfl);(·(repeat (first|exact eN|(apply eS;(·exact eG rfl)))));(·exact fun _ w' hh => hS w' (hx1.1.hp' hh) (hy1.1.hp' hh)))|apply then_n|apply sp_seq|apply sp_region|apply spl_nil|apply then_r|apply block_r|((apply sp_cond_t);(·exact eT rfl);(·(exact decide_eq_true (by omega))))|apply sp_skip|apply sp_ret|apply sp_block|((first|apply spl_pure rfl|apply spq_pure rfl|(apply spq_pure_g rfl;(·exact Gd.tf rfl rfl)));(·(first|(apply ex_loadfield (ad:=ad) (i:=i) (k:=0);(·exact eT rfl);(·exact h.1);(·exact hA);(·exact hx);(·rfl))|(apply ex_loadfield (ad:=ad') (i:=i) (k:=0);(·exact eT rfl);(·exact h'.1);(·exact hB);(·exact hy);(·rfl))|(apply ex_loadfield (ad:=ad) (i:=i) (k:=2);(·exact eG rfl);(·exact h.1);(·exact hA);(·exact hx);(·rfl))|(apply ex_loadfield (ad:=ad') (i:=i) (k:=2);(·exact eG rfl);(·exact h'.1);(·exact hB);(·exact hy);(·rfl))|(apply ex_loadfield (ad:=ad) (i:=i) (k:=1);(·exact eG rfl);(·exact h.1);(·exact hA);(·exact hx);(·rfl))|(apply ex_loadfield (ad:=ad') (i:=i) (k:=1);(·exact eG rfl);(·exact h'.1);(·exact hB);(·exact hy);(·rfl))|((first|apply ex_move|apply ex_assign|apply ex_fieldAddr'|apply ex_not|apply ex_lss|apply ex_sneq|apply ex_len)<;>(first|exact eT rfl|exact eC|exact eG rfl))|((first|apply ex_fieldAddr|apply ex_neq|apply ex_orT)<;>(first|exact eT rfl|exact eG rfl))|((first|apply ex_loadown|apply ex_indexAddr)<;>(first|exact eT rfl|exact eG rfl|exact Bk.own InH.mem|rfl|assumption)))))|apply spq_nil|apply sp_draw mixed (by kernel_rfl))
        (apply ret_ok rfl;(·((apply Res.ofOne;((apply Res1.tmp;(·rfl))))))); rfl
    · rw [all2_end (by omega) (by omega)] at hinv
      rw [hinv]
      repeat (first|apply then_n|apply sp_seq|apply sp_region|apply spl_nil|apply then_e|apply block_here|(apply sp_cond_f;(·exact eT rfl);(·(exact decide_eq_false (by omega))))|apply sp_ret|apply sp_exit|((apply spl_pure rfl);(·(first|((first|apply ex_move|apply ex_assign|apply ex_fieldAddr'|apply ex_lss|apply ex_len)<;>(first|exact eT rfl|exact eC))|((apply ex_loadown)<;>(first|exact eT rfl|exact Bk.own InH.mem|rfl))))))
      (apply ret_ok rfl;(·((apply Res.ofOne;((apply Res1.tmp;(·rfl))))))); rfl
set_option maxRecDepth 100000 in
set_option maxHeartbeats 4000000 in
theorem Same_c {w : World} {A B : Option Addr} {n c m d : Nat} {xs ys : List KindR} (h : RdKinds w w.heap.size ⟨A, n, c⟩ xs) (h' : RdKinds w w.heap.size ⟨B, m, d⟩ ys) :
    Calls Try.prog 17 #[.agg #[.slice A n c], .agg #[.slice B m d]] w (Ret w (.bool (sameC xs ys))) := by
  have hbd : n ≤ 9223372036854775807 := h.1.bound
  have hl : xs.length = n := h.1.len
  have hl' : ys.length = m := h'.1.len
  refine sp_enter (vs := [_, _]) Try.func17 rfl Try.ntmps17 rfl ?_
  unfold sameC
  by_cases hnm : n = m
  · subst hnm
    repeat (first|(apply sp_cond_f;(·exact eT rfl);(·(simp)))|apply then_n|apply sp_seq|apply sp_region|apply spl_nil|apply sp_skip|apply sp_block|((apply spl_pure rfl);(·(first|((first|apply ex_assign|apply ex_fieldAddr'|apply ex_sneq|apply ex_len)<;>(first|exact eT rfl|exact eC))|((apply ex_neq)<;>(exact eT rfl))|((apply ex_loadown)<;>(first|exact eT rfl|exact Bk.own InH.mem|rfl)))))|(apply spl_box;(·exact eT rfl);(·rfl);intro _ _))
    rename_i g2 hg2 g3 hg3
    refine sp_loop (X := Nat) (fun i => [(5, true, .int .i64 (i : Int)), (3, true, .pointer (some ⟨g3, 0, none⟩)), (2, true, .pointer (some ⟨g2, 0, none⟩))]) (fun _ => w) (fun _ => [(g3, .cells #[.slice B n d] 24 (0, 0)), (g2, .cells #[.slice A n c] 24 (0, 0))]) (fun i => i ≤ n ∧ all2 sameK xs ys = all2 sameK (xs.drop i) (ys.drop i)) (fun i => n - i) 0 ⟨Nat.zero_le _, rfl⟩ (by (repeat (first|exact ESub.nil|apply ESub.cons rfl))) rfl (by (repeat (exact HKeep.refl))) ?_
    rintro i ⟨hi, hinv⟩
    by_cases hlt : i < n
    · obtain ⟨ad, x, hA, -, hx, -, -⟩ := h.1.at_ hlt
      obtain ⟨ad', y, hB, -, hy, -, -⟩ := h'.1.at_ hlt
      have hx1 := h.2 x (List.mem_of_getElem? hx)
      have hy1 := h'.2 y (List.mem_of_getElem? hy)
      rw [all2_drop hx hy] at hinv
      have hS := fun (w' : World) (q1 : RdSlots w' w'.heap.size x.ss x.slots) (q2 : RdSlots w' w'.heap.size y.ss y.slots) => SameKind_c q1 q2
      cases hp : sameK x y with
      | true =>
        rw [hp, Bool.true_and] at hinv
        rw [hp] at hS
        repeat (first|(apply sp_cond_f;(·exact eT rfl);(·rfl))|(apply spq_callp rfl;(·(repeat (first|exact eN|(apply eS;(·exact eT rfl)))));(·exact fun w' hh => hS w' (hx1.hp hh) (hy1.hp hh)))|apply then_n|apply block_n|apply sp_seq|apply sp_region|apply spl_nil|((apply sp_cond_t);(·exact eT rfl);(·(exact decide_eq_true (by omega))))|apply sp_skip|apply sp_block|((first|apply spl_pure rfl|apply spq_pure rfl);(·(first|(apply ex_loadelem;(·exact eT rfl);(·exact h.1);(·exact hA);(·exact hx))|(apply ex_loadelem;(·exact eT rfl);(·exact h'.1);(·exact hB);(·exact hy))|((first|apply ex_move|apply ex_assign|apply ex_fieldAddr'|apply ex_not|apply ex_lss|apply ex_len)<;>(exact eT rfl))|(apply ex_addn<;>(first|exact eT rfl|exact eC|(constructor<;>omega)))|((first|apply ex_loadown|apply ex_indexAddr)<;>(first|exact eT rfl|exact Bk.own InH.mem|rfl|assumption)))))|apply spq_nil|apply sp_draw mixed (by kernel_rfl))
        exact ⟨i + 1, ⟨hlt, hinv⟩, by (show n - (i + 1) < n - i; omega), (by (repeat (first|exact ESub.nil|apply ESub.cons rfl))), rfl, (by (repeat (exact HKeep.refl)))⟩
      | false =>
        rw [hp, Bool.false_and] at hinv
        rw [hp] at hS
        rw [hinv]
        repeat (first|(apply sp_cond_t;(·exact eT rfl);(·rfl))|(apply spq_callp rfl;(·(repeat (first|exact eN|(apply eS;(·exact eT rfl)))));(·exact fun w' hh => hS w' (hx1.hp hh) (hy1.hp hh)))|apply then_n|apply sp_seq|apply sp_region|apply spl_nil|apply then_r|apply block_r|((apply sp_cond_t);(·exact eT rfl);(·(exact decide_eq_true (by omega))))|apply sp_skip|apply sp_ret|apply sp_block|((first|apply spl_pure rfl|apply spq_pure rfl);(·(first|(apply ex_loadelem;(·exact eT rfl);(·exact h.1);(·exact hA);(·exact hx))|(apply ex_loadelem;(·exact eT rfl);(·exact h'.1);(·exact hB);(·exact hy))|((first|apply ex_move|apply ex_assign|apply ex_fieldAddr'|apply ex_not|apply ex_lss|apply ex_len)<;>(first|exact eT rfl|exact eC))|((first|apply ex_loadown|apply ex_indexAddr)<;>(first|exact eT rfl|exact Bk.own InH.mem|rfl|assumption)))))|apply spq_nil|apply sp_draw mixed (by kernel_rfl))
        (apply ret_ok rfl;(·((apply Res.ofOne;((apply Res1.tmp;(·rfl))))))); rfl
    · rw [all2_end (by omega) (by omega)] at hinv
      rw [hinv]
      repeat (first|apply then_n|apply sp_seq|apply sp_region|apply spl_nil|apply then_e|apply block_here|(apply sp_cond_f;(·exact eT rfl);(·(exact decide_eq_false (by omega))))|apply sp_ret|apply sp_exit|((apply spl_pure rfl);(·(first|((first|apply ex_move|apply ex_assign|apply ex_fieldAddr'|apply ex_lss|apply ex_len)<;>(first|exact eT rfl|exact eC))|((apply ex_loadown)<;>(first|exact eT rfl|exact Bk.own InH.mem|rfl))))))
      (apply ret_ok rfl;(·((apply Res.ofOne;((apply Res1.tmp;(·rfl))))))); rfl
  · rw [all2_len (by omega)]
    have hnm' : ¬ (n : Int) = (m : Int) := by omega
    repeat (first|(apply sp_cond_t;(·exact eT rfl);(·(rw [decide_eq_false hnm'];rfl)))|apply then_n|apply sp_seq|apply sp_region|apply spl_nil|apply then_r|apply sp_ret|((apply spl_pure rfl);(·(first|((first|apply ex_assign|apply ex_fieldAddr'|apply ex_sneq|apply ex_len)<;>(first|exact eT rfl|exact eC))|((apply ex_neq)<;>(exact eT rfl))|((apply ex_loadown)<;>(first|exact eT rfl|exact Bk.own InH.mem|rfl)))))|(apply spl_box;(·exact eT rfl);(·rfl);intro _ _))
    (apply ret_ok rfl;(·((apply Res.ofOne;((apply Res1.tmp;(·rfl))))))); rfl
end Go.Proofs.Ytfdjlphfohnnnaa
/-
  Texts of catalogs, parsed again; tokens with gaps behind each.
-/
namespace Go.Proofs.Ytfdjlphfohnnnaa
open Go.RowKit Go.Sy
set_option linter.unusedVariables false
set_option linter.unusedSimpArgs false
theorem lexR_ok {t : ByteArray} (h : (lexR t).2.1 = 0) : t.size ≤ 20000 ∧ (lexN (tx t) 0).1.length ≤ 5000 ∧ (lexN (tx t) 0).2 = none := by
  unfold lexR at h
  rw [lexA_N] at h
  split at h
  · cases h
  · rename_i h1
    split at h
    · cases h
    · rename_i h2
      have h3 := List.getElem?_eq_none_iff.1 h2
      split at h
      · rename_i h4; exact ⟨by omega, h3, h4⟩
      · rename_i p h4
        have := (lexN_errpos _ _ p.1 p.2 h4).2.2
        simp only at h
        omega
theorem lexR_of {t : ByteArray} (h1 : t.size ≤ 20000) (h2 : (lexN (tx t) 0).1.length ≤ 5000) (h3 : (lexN (tx t) 0).2 = none) : lexR t = ((lexN (tx t) 0).1, 0, 0) := by
  unfold lexR
  rw [lexA_N, if_neg (by omega), List.getElem?_eq_none h2]
  simp only
  rw [h3]
/-! The text of a valid catalog. -/
theorem text_lex {ps : List PKind} (h : catV [] ps) (a : Nat) : (lexN (tx (textB ps)) a).2 = none ∧ (lexN (tx (textB ps)) a).1.map kt = catT ps := by
  rw [tx_textB]; exact lex_text (catV_named h) a
theorem text_parse {ps : List PKind} (h : catV [] ps) (h0 : (lexR (textB ps)).2.1 = 0) : parseR (textB ps) = (ps, 0, 0) := by
  obtain ⟨h1, h2, h3⟩ := lexR_ok h0
  exact parseR_rt (lexR_of h1 h2 h3) (text_lex h 0).2 h
theorem text_inj {ps qs : List PKind} (hp : catV [] ps) (hq : catV [] qs) (h1 : (lexR (textB ps)).2.1 = 0) (h2 : (lexR (textB qs)).2.1 = 0) : textB ps = textB qs ↔ ps = qs := by
  constructor
  · intro h
    have e1 := text_parse hp h1
    have e2 := text_parse hq h2
    rw [h, e2] at e1
    exact (congrArg Prod.fst e1).symm
  · rintro rfl; rfl
theorem text_count {ps : List PKind} (h : catV [] ps) : (lexN (tx (textB ps)) 0).1.length = (catT ps).length := by
  have := congrArg List.length (text_lex h 0).2
  rwa [List.length_map] at this
theorem textX_app (ps qs : List PKind) : textX (ps ++ qs) = textX ps ++ textX qs := by simp [textX]
theorem catT_app (ps qs : List PKind) : catT (ps ++ qs) = catT ps ++ catT qs := by simp [catT]
theorem textB_app (ps qs : List PKind) : textB (ps ++ qs) = textB ps ++ textB qs := tx_inj (by rw [tx_append, tx_textB, tx_textB, tx_textB, textX_app])
/-- The first kinds have a text, too. -/
theorem text_take {ps : List PKind} (h : catV [] ps) (h0 : (lexR (textB ps)).2.1 = 0) (n : Nat) : (lexR (textB (ps.take n))).2.1 = 0 ∧ textB ps = textB (ps.take n) ++ textB (ps.drop n) := by
  have hsp : textB ps = textB (ps.take n) ++ textB (ps.drop n) := by rw [← textB_app, List.take_append_drop]
  obtain ⟨h1, h2, h3⟩ := lexR_ok h0
  have ht := catV_take h n
  refine ⟨?_, hsp⟩
  rw [text_count h] at h2
  have hc : (catT ps).length = (catT (ps.take n)).length + (catT (ps.drop n)).length := by rw [← List.length_append, ← catT_app, List.take_append_drop]
  rw [lexR_of (by rw [hsp, ByteArray.size_append] at h1; omega) (by rw [text_count ht]; omega) (text_lex ht 0).1]
def remark : ByteArray := ⟨#[35, 32, 98, 101, 104, 105, 110, 100, 32, 105, 116, 10]⟩
theorem PF.rem_ : PF (tx remark) [] := by
  intro y a
  refine ⟨[], rfl, ?_⟩
  rw [List.nil_append, lexN_skip (l := tx remark ++ y) (l' := y) (d := 12) (by simp [tx, remark, skipM, isBlank, hasB, blanks]) (by rw [List.length_append]; show 12 + y.length = _; omega)]
  all_goals rfl
/-- Two parts with a remark between them. -/
theorem text_join {ps : List PKind} (h : catV [] ps) (h0 : (lexR (textB ps)).2.1 = 0) (n : Nat) :
    parseR ((textB (ps.take n) ++ remark) ++ textB (ps.drop n)) = (ps, 0, 0) ∨ ((∃ a, parseR ((textB (ps.take n) ++ remark) ++ textB (ps.drop n)) = ([], 7, a)) ∧ 19980 < (textB ps).size) := by
  obtain ⟨h1, h2, h3⟩ := lexR_ok h0
  obtain ⟨-, hsp⟩ := text_take h h0 n
  have hnm := catV_named h
  have hP : PF ((textX (ps.take n) ++ tx remark) ++ textX (ps.drop n)) (catT ps) := by
    have e1 := PF.text (ks := ps.take n) fun k hk => hnm k (List.mem_of_mem_take hk)
    have e2 := PF.text (ks := ps.drop n) fun k hk => hnm k (List.mem_of_mem_drop hk)
    have := (e1.app PF.rem_).app e2
    rwa [List.append_nil, ← catT_app, List.take_append_drop] at this
  have htx : tx ((textB (ps.take n) ++ remark) ++ textB (ps.drop n)) = (textX (ps.take n) ++ tx remark) ++ textX (ps.drop n) := by rw [tx_append, tx_append, tx_textB, tx_textB]
  obtain ⟨q, e, hq⟩ := hP [] 0
  rw [List.append_nil, ← htx] at hq
  have hq1 : (lexN (tx ((textB (ps.take n) ++ remark) ++ textB (ps.drop n))) 0) = (q, none) := by
    rw [hq, lexN_nil rfl]; simp
  have hlen : q.length ≤ 5000 := by
    have := congrArg List.length e
    rw [List.length_map] at this
    rw [text_count h] at h2
    omega
  have hsize : ((textB (ps.take n) ++ remark) ++ textB (ps.drop n)).size = (textB ps).size + 12 := by
    rw [hsp, ByteArray.size_append, ByteArray.size_append, ByteArray.size_append]
    show _ + 12 + _ = _
    omega
  by_cases hbig : 20000 < ((textB (ps.take n) ++ remark) ++ textB (ps.drop n)).size
  · refine .inr ⟨⟨-1, ?_⟩, by omega⟩
    unfold parseR lexR
    rw [if_pos hbig]
    all_goals rfl
  · refine .inl (parseR_rt (l := q) (a := 0) ?_ e h)
    rw [lexR_of (by omega) (by rw [hq1]; exact hlen) (by rw [hq1]), hq1]
/-! Tokens with a line feed and a blank behind each. -/
def wr2 (l : List Tk) : List UInt8 := l.flatMap fun x => writT x ++ [10, 32]
theorem lexN_lf (m : List UInt8) (a : Nat) : lexN (10 :: 32 :: m) a = lexN m (a + 2) := lexN_skip (d := 2) (by simp [skipM, show isBlank 10 = true from by decide, show isBlank 32 = true from by decide]) rfl
theorem lexN_wr2 (l : List UInt8) (a : Nat) : (lexN l a).2 = none → ∀ b, (lexN (wr2 (lexN l a).1) b).2 = none ∧ (lexN l a).1.map kt = (lexN (wr2 (lexN l a).1) b).1.map kt := by
  refine lexN_ind (P := fun l a => (lexN l a).2 = none → ∀ b, (lexN (wr2 (lexN l a).1) b).2 = none ∧ (lexN l a).1.map kt = (lexN (wr2 (lexN l a).1) b).1.map kt)
    (fun l a h => ?_) (fun l a c r e hs ht => ?_) (fun l a c r k s n hs ht ih => ?_) l.length l a (Nat.le_refl _)
  · rw [lexN_nil h]
    intro _ b
    rw [show wr2 ([] : List Tk) = [] from rfl, lexN_nil rfl]
    exact ⟨rfl, rfl⟩
  · rw [lexN_err hs ht]; intro h; cases h
  · obtain ⟨h1, h2⟩ := skipM_head _ _ _ _ hs
    rw [lexN_tok hs ht]
    intro h b
    have e : wr2 (⟨k, ofL s, a + (l.length - (c :: r).length)⟩ :: (lexN ((c :: r).drop n) (a + (l.length - (c :: r).length) + n)).1) = writ k s ++ (10 :: 32 :: wr2 (lexN ((c :: r).drop n) (a + (l.length - (c :: r).length) + n)).1) := by
      simp only [wr2, List.flatMap_cons, writT, tx_ofL, List.append_assoc]; rfl
    rw [e, lexN_writ h1 h2 ht (ends_blank (by decide)), lexN_lf]
    obtain ⟨i1, i2⟩ := ih h (b + n + 2)
    exact ⟨i1, by simp only [List.map_cons, i2]; rfl⟩
theorem wr2_len (l : List Tk) : (wr2 l).length = (wrL l).length + l.length := by
  induction l with
  | nil => rfl
  | cons x r ih =>
    simp only [wr2, wrL, List.flatMap_cons, List.length_append, List.length_cons, List.length_nil] at *
    omega
theorem gaps_law {t : ByteArray} (ht : t.size ≤ 3000) (h : (lexR t).2.1 = 0) : (lexR (ofL (wr2 (lexR t).1))).2.1 = 0 ∧ (wr2 (lexR t).1).length ≤ 9000 ∧ (parseR t).1 = (parseR (ofL (wr2 (lexR t).1))).1 ∧ (parseR t).2.1 = (parseR (ofL (wr2 (lexR t).1))).2.1 := by
  obtain ⟨h1, h2, h3⟩ := lexR_ok h
  have hR := lexR_of h1 h2 h3
  rw [hR]
  simp only
  obtain ⟨g1, g2⟩ := lexN_wr2 (tx t) 0 h3 0
  have hl := wr2_len (lexN (tx t) 0).1
  have hw := wrL_len (tx t) 0
  have hc := lexN_count (tx t) 0
  rw [tx_len] at hw hc
  have hsz : (ofL (wr2 (lexN (tx t) 0).1)).size ≤ 20000 := by rw [size_ofL]; omega
  have hR2 : lexR (ofL (wr2 (lexN (tx t) 0).1)) = ((lexN (wr2 (lexN (tx t) 0).1) 0).1, 0, 0) := by
    have := lexR_of (t := ofL (wr2 (lexN (tx t) 0).1)) hsz (by
      rw [tx_ofL]
      have := congrArg List.length g2
      rw [List.length_map, List.length_map] at this
      omega) (by rw [tx_ofL]; exact g1)
    rwa [tx_ofL] at this
  refine ⟨by rw [hR2], by omega, ?_⟩
  exact parseR_s hR hR2 g2
/-! The same. -/
theorem sameS_iff {a b : SlotR} (ha : 1 ≤ a.normal) (hb : 1 ≤ b.normal) : sameS a b = true ↔ a.pure = b.pure := by
  have hk : all2 eqB a.kinds b.kinds = true ↔ a.kinds = b.kinds := by
    have := all2_iff (p := eqB) (f := id) (xs := a.kinds) (ys := b.kinds) fun x _ y _ => by unfold eqB; simp
    simpa using this
  unfold sameS
  rw [Bool.not_eq_true', Bool.or_eq_false_iff, Bool.or_eq_false_iff, Bool.not_eq_false', Bool.not_eq_false', Bool.not_eq_false', decide_eq_true_eq, decide_eq_true_eq, hk]
  unfold SlotR.pure
  rw [PSlot.mk.injEq]
  constructor
  · rintro ⟨⟨h1, h2⟩, h3⟩; exact ⟨h1, h3, by rw [h2]⟩
  · rintro ⟨h1, h3, h2⟩; exact ⟨⟨h1, by omega⟩, h3⟩
def NormK (ks : List KindR) : Prop := ∀ k ∈ ks, ∀ s ∈ k.slots, 1 ≤ s.normal
theorem sameC_iff {a b : List KindR} (ha : NormK a) (hb : NormK b) : sameC a b = true ↔ a.map KindR.pure = b.map KindR.pure := by
  unfold sameC
  refine all2_iff fun x hx y hy => ?_
  unfold sameK
  rw [Bool.and_eq_true, Bool.and_eq_true, decide_eq_true_eq, beq_iff_eq, all2_iff (f := SlotR.pure) fun s hs t ht => sameS_iff (ha x hx s hs) (hb y hy t ht)]
  unfold KindR.pure
  rw [PKind.mk.injEq, and_assoc]
theorem NormK.ofV {ks : List KindR} (h : catV [] (ks.map KindR.pure)) : NormK ks := by
  intro k hk s hs
  have hP := (catV_all h).2 k.pure (List.mem_map.2 ⟨k, hk, rfl⟩)
  have := (hP.slots s.pure (List.mem_map.2 ⟨s, hs, rfl⟩)).one
  simp only [SlotR.pure] at this
  omega
end Go.Proofs.Ytfdjlphfohnnnaa
/-
  CatalogGaps, walked.
-/
namespace Go.Proofs.Ytfdjlphfohnnnaa
open Go.RowKit Go.Sy
set_option linter.unusedVariables false
set_option linter.unusedSimpArgs false
theorem parse_norm {t : ByteArray} {ps : List PKind} {e a : Int} {ks : List KindR} (h : parseR t = (ps, e, a)) (hk : ks.map KindR.pure = ps) : NormK ks := by
  by_cases he : e = 0
  · subst he
    exact NormK.ofV (by rw [hk]; exact (parseR_v h).1)
  · obtain ⟨rfl, -⟩ := parseR_e h he
    have : ks = [] := List.map_eq_nil_iff.1 hk
    subst this
    intro k hk; cases hk
theorem same_e {w : World} {a b : Sl} {xs ys : List KindR} {v : Bool} (hv : sameC xs ys = v) (h : RdKinds w w.heap.size a xs) (h' : RdKinds w w.heap.size b ys) :
    Calls Try.prog 17 #[.agg #[.slice a.a a.n a.c], .agg #[.slice b.a b.n b.c]] w (Ret w (.bool v)) := by
  have := Same_c (A := a.a) (n := a.n) (c := a.c) (B := b.a) (m := b.n) (d := b.c) h h'
  rwa [hv] at this
attribute [local irreducible] Calls thenQ blockQ retQ retFQ Spc Spl Spq Ex Ev Evs Gd Upd ESub HKeep Res Res1 wlk effQ Rem SrcAt Split lexR parseR sameC wr2 quoteL
set_option maxRecDepth 100000 in
set_option maxHeartbeats 8000000 in
theorem lawGaps {w : World} (t : ByteArray) (htz : t.size < 9223372036854775808) : Calls Try.prog 8 #[.string t] w (Ret w (.bool true)) := by
  refine sp_enter (vs := [_]) Try.func8 rfl Try.ntmps8 rfl ?_
  by_cases hbig : (3000 : Int) < (t.size : Int)
  ·
    repeat (first|(apply spl_callp rfl;(·(repeat (exact eN)));(·exact fun w' hh => head_c))|(apply sp_cond_t;(·exact eT rfl);(·exact decide_eq_true hbig))|apply then_n|apply sp_seq|apply sp_region|apply spl_nil|apply then_r|apply sp_ret|((apply spl_pure rfl);(·(first|((first|apply ex_move|apply ex_assign|apply ex_gtr)<;>(first|exact eT rfl|exact eC))|((apply ex_slen)<;>(exact eT rfl))))))
    (apply ret_ok rfl;(·((apply Res.ofOne;((apply Res1.tmp;(·rfl))))))); rfl
  have ht : t.size ≤ 3000 := by omega
  obtain ⟨L, E, AT, hR⟩ : ∃ L E AT, lexR t = (L, E, AT) := ⟨_, _, _, rfl⟩
  have hlx := fun w' => lex_e (w := w') hR (by omega)
  by_cases hE : E = 0
  · subst hE
    have hlaw := gaps_law ht (by rw [hR])
    rw [hR] at hlaw
    dsimp only at hlaw
    obtain ⟨g0, g1, g2, g3⟩ := hlaw
    have hL : L.length ≤ 5000 := by have := lexR_cnt t; rw [hR] at this; exact this
    have hpos : ∀ x ∈ L, (writT x).length ≤ 3000 := by
      obtain ⟨q1, q2, q3⟩ := lexR_ok (t := t) (by rw [hR])
      have := lexR_of q1 q2 q3
      rw [hR] at this
      cases this
      intro x hx
      have := (lexN_pos _ _ x hx).2
      rw [tx_len] at this
      omega
    repeat (first|(apply spl_callp rfl;(·(repeat (first|exact eN|(apply eS;(·exact eT rfl)))));(·exact fun w' hh => head_c))|(apply sp_cond_f;(·exact eT rfl);(·exact decide_eq_false hbig))|(apply sp_cond_f;(·exact eT rfl);(·rfl))|(apply spl_callh (X:=RowS) rfl;(·(repeat (first|exact eN|(apply eS;(·exact eT rfl)))));(·exact fun w' hh => hlx w');(rintro x hx hfx))|apply then_n|apply sp_seq|apply sp_region|apply spl_nil|apply sp_skip|apply sp_block|((apply spl_pure rfl);(·(first|((first|apply ex_move|apply ex_assign|apply ex_gtr|apply ex_sneq)<;>(first|exact eT rfl|exact eC))|((first|apply ex_neq|apply ex_slen)<;>(first|exact eT rfl|exact eC))|((apply ex_extract)<;>(first|exact eT rfl|rfl))))))
    have hfx' : ∀ p ∈ x.hp (flatT L) 53, w.heap.size ≤ p.1 := hfx
    have hpre : ∀ i, (wr2 (L.take i)).length ≤ 9000 := fun i => by
      have h1 : wr2 L = wr2 (L.take i) ++ wr2 (L.drop i) := by
        unfold wr2
        rw [← List.flatMap_append, List.take_append_drop]
      rw [h1, List.length_append] at g1
      omega
    have hw0 : ofL (wr2 (L.take 0)) = ⟨#[]⟩ := by rw [List.take_zero]; unfold wr2; rfl
    refine sp_loop (X := Nat) (fun i => [(11, true, .int .i64 (i : Int)), (10, true, .string (ofL (wr2 (L.take i)))), (4, true, x.val L.length), (3, true, .bool true), (0, true, .string t)]) (fun _ => w) (fun _ => x.hp (flatT L) 53 ++ []) (fun i => i ≤ L.length) (fun i => L.length - i) 0 (Nat.zero_le _) (by rw [hw0]; (repeat (first|exact ESub.nil|apply ESub.cons rfl))) rfl (by (repeat (exact HKeep.refl))) ?_
    intro i hi
    by_cases hlt : i < L.length
    · rcases x with ⟨_ | g, cap, tail⟩
      · obtain ⟨h1, -⟩ := hx; omega
      have htk : L[i]? = some L[i] := List.getElem?_eq_getElem hlt
      generalize L[i] = tk at htk
      have hmem := List.mem_of_getElem? htk
      have hwp := hpos tk hmem
      have hTr : ∀ w', Hp w.heap.size w (RowS.hp ⟨some g, cap, tail⟩ (flatT L) 53 ++ []) w' → RdS w' w'.heap.size 3 tkC (some ⟨g, 0, none⟩) L.length L := fun w' hh =>
        RdS.ofRowW (r := ⟨some g, cap, tail⟩) (xs := L) (T := 53) (fun p hp => hh.own p (List.mem_append.2 (.inl hp))) rfl (by omega) (fun _ _ => rfl) hx
      have hz1 : (ofL (wr2 (L.take i))).size ≤ 1000000000 := by rw [size_ofL]; have := hpre i; omega
      have hsucc : wr2 (L.take (i + 1)) = wr2 (L.take i) ++ (writT tk ++ [10, 32]) := by unfold wr2; rw [take_succ htk, List.flatMap_append]; simp
      have hb := hpre i
      by_cases hk : (tk.kind : Int) = 3
      · have hk' : tk.kind = 3 := by omega
        have hwr : writT tk = quoteL (tx tk.text) := by unfold writT writ; rw [if_pos hk']
        rw [hwr] at hwp hsucc
        have hq := quoteL_len (tx tk.text)
        have htsz : tk.text.size < 10000000 := by
          have h5 : tk.text.size ≤ (quoteL (tx tk.text)).length := by
            unfold quoteL
            simp only [List.length_cons, List.length_append, List.length_nil]
            have h6 : ∀ l : List UInt8, l.length ≤ (l.flatMap escB).length := by
              intro l
              induction l with
              | nil => simp
              | cons c r ih =>
                rw [List.flatMap_cons, List.length_append, List.length_cons]
                have : 1 ≤ (escB c).length := by unfold escB; split <;> (try split) <;> simp
                omega
            have := h6 (tx tk.text)
            rw [tx_len] at this
            omega
          omega
        have hz2 : (ofL (quoteL (tx tk.text))).size ≤ 1000000000 := by rw [size_ofL]; omega
        have hz3 : (ofL (wr2 (L.take i)) ++ ofL (quoteL (tx tk.text))).size ≤ 1000000000 := by rw [ByteArray.size_append, size_ofL, size_ofL]; omega
        have hst : (ofL (wr2 (L.take i)) ++ ofL (quoteL (tx tk.text))) ++ ⟨#[10, 32]⟩ = ofL (wr2 (L.take (i + 1))) := by
          apply tx_inj
          rw [hsucc, tx_ofL, tx_append, tx_append, tx_ofL, tx_ofL, List.append_assoc]
          all_goals rfl
        repeat (first|(apply sp_cond_t;(·exact eT rfl);(·exact decide_eq_true hk))|(apply spl_callp rfl;(·(repeat (first|exact eN|(apply eS;(·exact eT rfl)))));(·exact fun w' hh => lexQuote_c tk.text htsz))|apply then_n|apply block_n|apply sp_seq|apply sp_region|apply spl_nil|((apply sp_cond_t);(·exact eT rfl);(·(exact decide_eq_true (by omega))))|apply sp_skip|apply sp_block|((apply spl_pure rfl);(·(first|(apply ex_loadfieldH (ad:=⟨g, 0, none⟩) (i:=i) (k:=1) (y:=tk);(·exact eT rfl);(·exact hTr);(·rfl);(·exact htk);(·rfl))|(apply ex_loadfieldH (ad:=⟨g, 0, none⟩) (i:=i) (k:=0) (y:=tk);(·exact eT rfl);(·exact hTr);(·rfl);(·exact htk);(·rfl))|(apply ex_saddZ;(·exact eT rfl);(·(first|exact eT rfl|exact eC));(·(assumption));(·(first|assumption|decide)))|((first|apply ex_move|apply ex_assign|apply ex_fieldAddr'|apply ex_lss|apply ex_seql|apply ex_len)<;>(exact eT rfl))|((first|apply ex_fieldAddr|apply ex_eql)<;>(first|exact eT rfl|exact eC))|(apply ex_addn<;>(first|exact eT rfl|exact eC|(constructor<;>omega)))|((apply ex_indexAddr)<;>(first|exact eT rfl|rfl|assumption))))))
        rw [hst]
        exact ⟨i + 1, hlt, by (show L.length - (i + 1) < L.length - i; omega), (by (repeat (first|exact ESub.nil|apply ESub.cons rfl))), rfl, (by (repeat (exact HKeep.refl)))⟩
      · have hk' : ¬ tk.kind = 3 := by omega
        have hwr : writT tk = tx tk.text := by unfold writT writ; rw [if_neg hk']
        rw [hwr] at hwp hsucc
        rw [tx_len] at hwp
        have hz2 : tk.text.size ≤ 1000000000 := by omega
        have hz3 : (ofL (wr2 (L.take i)) ++ tk.text).size ≤ 1000000000 := by rw [ByteArray.size_append, size_ofL]; omega
        have hst : (ofL (wr2 (L.take i)) ++ tk.text) ++ ⟨#[10, 32]⟩ = ofL (wr2 (L.take (i + 1))) := by
          apply tx_inj
          rw [hsucc, tx_ofL, tx_append, tx_append, tx_ofL, List.append_assoc]
          all_goals rfl
        repeat (first|(apply sp_cond_f;(·exact eT rfl);(·exact decide_eq_false hk))|apply then_n|apply block_n|apply sp_seq|apply sp_region|apply spl_nil|((apply sp_cond_t);(·exact eT rfl);(·(exact decide_eq_true (by omega))))|apply sp_skip|apply sp_block|((apply spl_pure rfl);(·(first|(apply ex_loadfieldH (ad:=⟨g, 0, none⟩) (i:=i) (k:=1) (y:=tk);(·exact eT rfl);(·exact hTr);(·rfl);(·exact htk);(·rfl))|(apply ex_loadfieldH (ad:=⟨g, 0, none⟩) (i:=i) (k:=0) (y:=tk);(·exact eT rfl);(·exact hTr);(·rfl);(·exact htk);(·rfl))|(apply ex_saddZ;(·exact eT rfl);(·(first|exact eT rfl|exact eC));(·(assumption));(·(first|assumption|decide)))|((first|apply ex_move|apply ex_assign|apply ex_fieldAddr'|apply ex_lss|apply ex_seql|apply ex_len)<;>(exact eT rfl))|((first|apply ex_fieldAddr|apply ex_eql)<;>(first|exact eT rfl|exact eC))|(apply ex_addn<;>(first|exact eT rfl|exact eC|(constructor<;>omega)))|((apply ex_indexAddr)<;>(first|exact eT rfl|rfl|assumption))))))
        rw [hst]
        exact ⟨i + 1, hlt, by (show L.length - (i + 1) < L.length - i; omega), (by (repeat (first|exact ESub.nil|apply ESub.cons rfl))), rfl, (by (repeat (exact HKeep.refl)))⟩
    · have hie : i = L.length := by omega
      subst hie
      rw [List.take_length]
      obtain ⟨ps, e, a, hP⟩ : ∃ ps e a, parseR t = (ps, e, a) := ⟨_, _, _, rfl⟩
      obtain ⟨qs, f, b, hQ⟩ : ∃ qs f b, parseR (ofL (wr2 L)) = (qs, f, b) := ⟨_, _, _, rfl⟩
      rw [hP, hQ] at g2 g3
      dsimp only at g2 g3
      subst g2 g3
      have hsz2 : (ofL (wr2 L)).size < 1000000000 := by rw [size_ofL]; omega
      repeat (first|(apply spl_callh (X:=Heap × Sl × List KindR) rfl;(·(repeat (first|exact eN|(apply eS;(·exact eT rfl)))));(·exact fun w' hh => parse_e hP (by omega));(rintro ⟨HA, sA, kA⟩ ⟨hcA, hpA, hnA⟩ hfA;dsimp only at hcA hpA hnA hfA))|(apply spl_callh (X:=Heap × Sl × List KindR) rfl;(·(repeat (first|exact eN|(apply eS;(·exact eT rfl)))));(·exact fun w' hh => parse_e hQ hsz2);(rintro ⟨HB, sB, kB⟩ ⟨hcB, hpB, hnB⟩ hfB;dsimp only at hcB hpB hnB hfB))|(apply spl_callp_g rfl;(·exact Gd.tt rfl rfl);(·(repeat (first|exact eN|(apply eS;(·exact eG rfl)))));(·exact fun _ w' hh => same_e ((sameC_iff (parse_norm hP hpA) (parse_norm hQ hpB)).2 (hpA.trans hpB.symm)) (hcA w' hh.holds) (hcB w' hh.holds)))|apply then_n|apply sp_seq|apply sp_region|apply spl_nil|apply then_e|apply block_here|(apply sp_cond_f;(·exact eT rfl);(·(exact decide_eq_false (by omega))))|apply sp_ret|apply sp_exit|((first|apply spl_pure rfl|(apply spl_pure_g rfl;(·exact Gd.tt rfl rfl)));(·(first|(apply ex_loadpartE (cs':=#[.slice sA.a sA.n sA.c]);(·exact eT rfl);(·exact Bk.own InH.mem);(·rfl);(·rfl))|(apply ex_loadpartE (cs':=#[.slice sB.a sB.n sB.c]);(·exact eT rfl);(·exact Bk.own InH.mem);(·rfl);(·rfl))|((first|apply ex_move|apply ex_assign|apply ex_lss|apply ex_seql|apply ex_len|apply ex_andT)<;>(first|exact eT rfl|exact eG rfl))|((apply ex_eql)<;>(exact eT rfl))|((apply ex_extract)<;>(first|exact eT rfl|rfl)))))|(apply spl_alloc rfl;intro _ _)|(apply spl_stores;(·exact eT rfl);(·exact eT rfl);(·(repeat (exact Upd.here)));(·(rfl));(·(rfl));(·exact ones_of_all rfl)))
      (apply ret_ok rfl;(·((apply Res.ofOne;((apply Res1.tmp;(·rfl))))))); simp
  · have hP : parseR t = ([], E, AT) := by unfold parseR; rw [hR]; simp only [if_neg hE]
    repeat (first|(apply spl_callp rfl;(·(repeat (first|exact eN|(apply eS;(·exact eT rfl)))));(·exact fun w' hh => head_c))|(apply sp_cond_f;(·exact eT rfl);(·exact decide_eq_false hbig))|(apply sp_cond_t;(·exact eT rfl);(·(simp [hE])))|(apply spl_callh (X:=RowS) rfl;(·(repeat (first|exact eN|(apply eS;(·exact eT rfl)))));(·exact fun w' hh => hlx w');(rintro x hx hfx))|(apply spl_callh (X:=Heap × Sl × List KindR) rfl;(·(repeat (first|exact eN|(apply eS;(·exact eT rfl)))));(·exact fun w' hh => parse_e hP (by omega));(rintro ⟨HA, sA, kA⟩ - hfA;dsimp only at hfA))|apply then_n|apply sp_seq|apply sp_region|apply spl_nil|apply then_r|apply sp_skip|apply sp_ret|((first|apply spl_pure rfl|(apply spl_pure_g rfl;(·exact Gd.tt rfl rfl)));(·(first|((first|apply ex_move|apply ex_assign|apply ex_gtr|apply ex_seql|apply ex_sneq|apply ex_andT)<;>(first|exact eT rfl|exact eC))|((first|apply ex_eql|apply ex_neq|apply ex_slen)<;>(first|exact eT rfl|exact eC))|((apply ex_extract)<;>(first|exact eT rfl|rfl)))))|(apply spl_alloc rfl;intro _ _)|(apply spl_stores;(·exact eT rfl);(·exact eT rfl);(·(repeat (exact Upd.here)));(·(rfl));(·(rfl));(·exact ones_of_all rfl)))
    (apply ret_ok rfl;(·((apply Res.ofOne;((apply Res1.tmp;(·rfl))))))); simp
end Go.Proofs.Ytfdjlphfohnnnaa
/-
  CatalogTexts, walked.
-/
namespace Go.Proofs.Ytfdjlphfohnnnaa
open Go.RowKit Go.Sy
set_option linter.unusedVariables false
set_option linter.unusedSimpArgs false
theorem textR_cases (ks : List KindR) : (validB ks = false ∧ textR ks = (⟨#[]⟩, 1)) ∨ (validB ks = true ∧ textR ks = (⟨#[]⟩, 7)) ∨ (validB ks = true ∧ textR ks = (textB (ks.map KindR.pure), 0) ∧ (lexR (textB (ks.map KindR.pure))).2.1 = 0) := by
  unfold textR
  cases validB ks with
  | false => exact .inl ⟨rfl, rfl⟩
  | true =>
    by_cases h : (lexR (textB (ks.map KindR.pure))).2.1 = 0
    · exact .inr (.inr ⟨rfl, by rw [if_pos rfl, if_pos h], h⟩)
    · exact .inr (.inl ⟨rfl, by rw [if_pos rfl, if_neg h]⟩)
theorem few2_c {w : World} {A A2 : Option Addr} {n c n2 c2 g : Nat} {ka kb : List KindR} (hA : RdKinds w w.heap.size ⟨A, n, c⟩ ka) (hB : RdKinds w w.heap.size ⟨A2, n2, c2⟩ kb) (hg : w.heap[g]? = some (.cells #[.slice A n c, .slice A2 n2 c2] 24 (0, 0))) :
    Calls Try.prog 10 #[.slice (some ⟨g, 0, none⟩) 2 2] w (Ret w (.bool (fewB ka && fewB kb))) := by
  have := few_c (w := w) (A := some ⟨g, 0, none⟩) (n := 2) (c := 2) (cs := [(⟨A, n, c⟩, ka), (⟨A2, n2, c2⟩, kb)]) ⟨RdS.ofFlat (C := catC) hg (Array.getElem?_eq_some_iff.1 hg).1 rfl (by decide) (fun _ _ => rfl) rfl, fun y hy => by
    rcases List.mem_cons.1 hy with rfl | hy
    · exact hA
    · rw [List.mem_singleton] at hy; subst hy; exact hB⟩
  simpa using this
theorem emp_size : (⟨#[]⟩ : ByteArray).size < 1000000000 := by decide
attribute [local irreducible] Calls thenQ blockQ retQ retFQ Spc Spl Spq Ex Ev Evs Gd Upd ESub HKeep Res Res1 wlk effQ Rem SrcAt Split lexR parseR sameC fewB validB textB textR
set_option maxRecDepth 100000 in
set_option maxHeartbeats 16000000 in
theorem lawTexts {w : World} {A A2 : Option Addr} {n c n2 c2 : Nat} {ka kb : List KindR} {t : ByteArray} (hA : RdKinds w w.heap.size ⟨A, n, c⟩ ka) (hB : RdKinds w w.heap.size ⟨A2, n2, c2⟩ kb) :
    Calls Try.prog 4 #[.agg #[.slice A n c], .agg #[.slice A2 n2 c2], .string t] w (Ret w (.bool true)) := by
  refine sp_enter (vs := [_, _, _]) Try.func4 rfl Try.ntmps4 rfl ?_
  repeat (first|(apply spl_callp rfl;(·(repeat (first|exact eN|(apply eS;(·exact eT rfl)))));(·exact fun w' hh => head_c))|(apply spl_callp rfl;(·(repeat (first|exact eN|(apply eS;(·exact eT rfl)))));(·exact fun w' hh => few2_c (hA.hp hh) (hB.hp hh) hh.ownI))|apply then_n|apply sp_seq|apply sp_region|apply spl_nil|((first|apply spl_pure rfl|(apply spl_pure_g rfl;(·exact Gd.tf rfl rfl)));(·(first|(apply ex_loadpartE (cs':=#[.slice A n c]);(·exact eT rfl);(·exact Bk.own InH.mem);(·rfl);(·rfl))|(apply ex_loadpartE (cs':=#[.slice A2 n2 c2]);(·exact eT rfl);(·exact Bk.own InH.mem);(·rfl);(·rfl))|((first|apply ex_move|apply ex_assign|apply ex_not|apply ex_gtr)<;>(first|exact eT rfl|exact eC|exact eG rfl))|((first|apply ex_slen|apply ex_orT)<;>(first|exact eT rfl|exact eG rfl)))))|(apply spl_box;(·exact eT rfl);(·rfl);intro _ _)|(apply spl_buildSlice rfl;(·rfl);(·(repeat (first|exact eN|(apply eS;(·exact eT rfl)))));(·rfl);(·rfl);(·rfl);intro _ _))
  rename_i gA hgA gB hgB gS hgS
  refine sp_cond (eT rfl) (fun hp => ?_) (fun hp => ?_)
  ·
    repeat (first|apply then_n|apply sp_seq|apply sp_region|apply spl_nil|apply then_r|apply sp_ret|((apply spl_pure rfl);(·(((first|apply ex_move|apply ex_assign)<;>(exact eT rfl))))))
    (apply ret_ok rfl;(·((apply Res.ofOne;((apply Res1.tmp;(·rfl))))))); rfl
  have hfa : fewB ka = true ∧ fewB kb = true ∧ ¬ (5000 : Int) < (t.size : Int) := by
    revert hp
    cases fewB ka <;> cases fewB kb <;> simp
  obtain ⟨hfa, hfb, ht⟩ := hfa
  clear hp
  refine spc_know (X := ∀ k ∈ ka, LensK k) (fun w' hh => (hA.hp hh).lens) fun hla => ?_
  refine spc_know (X := ∀ k ∈ kb, LensK k) (fun w' hh => (hB.hp hh).lens) fun hlb => ?_
  have hsa := (few_sized hfa).2
  have hsb := (few_sized hfb).2
  obtain ⟨u, f, hub⟩ : ∃ u f, textR kb = (u, f) := ⟨_, _, rfl⟩
  have hTb := fun (w' : World) (h' : RdKinds w' w'.heap.size ⟨A2, n2, c2⟩ kb) => text_e hub h' hsb
  have hVa := fun (w' : World) (h' : RdKinds w' w'.heap.size ⟨A, n, c⟩ ka) => valid_c (c := c) h' hsa
  obtain ⟨py, h, at_, hPt⟩ : ∃ a b c, parseR t = (a, b, c) := ⟨_, _, _, rfl⟩
  have hC : (∃ e, e ≠ 0 ∧ (decide (e = 1) == validB ka) = false ∧ textR ka = (⟨#[]⟩, e)) ∨ (validB ka = true ∧ textR ka = (textB (ka.map KindR.pure), 0) ∧ (lexR (textB (ka.map KindR.pure))).2.1 = 0) := by
    rcases textR_cases ka with ⟨h1, h2⟩ | ⟨h1, h2⟩ | ⟨h1, h2, h3⟩
    · exact .inl ⟨1, by decide, by rw [h1]; rfl, h2⟩
    · exact .inl ⟨7, by decide, by rw [h1]; rfl, h2⟩
    · exact .inr ⟨h1, h2, h3⟩
  rcases hC with ⟨e, he0, hev, hTe⟩ | ⟨hva, hTe, hlx⟩
  · have hTa := fun (w' : World) (h' : RdKinds w' w'.heap.size ⟨A, n, c⟩ ka) => text_e hTe h' hsa
    repeat (first|(apply spl_callp rfl;(·(repeat (first|exact eN|(apply eS;(·exact eT rfl)))));(·exact fun w' hh => hTa w' (hA.hp hh)))|(apply spl_callp rfl;(·(repeat (first|exact eN|(apply eS;(·exact eT rfl)))));(·exact fun w' hh => hTb w' (hB.hp hh)))|(apply spl_callp rfl;(·(repeat (first|exact eN|(apply eS;(·exact eT rfl)))));(·exact fun w' hh => hVa w' (hA.hp hh)))|(apply sp_cond_f;(·exact eT rfl);(·(rw [hev];simp)))|(apply sp_cond_f;(·exact eT rfl);(·exact decide_eq_false he0))|(apply spl_callh (X:=Heap × Sl × List KindR) rfl;(·(repeat (first|exact eN|(apply eS;(·exact eT rfl)))));(·exact fun w' hh => parse_e hPt (by omega));(rintro ⟨HY, sY, kY⟩ ⟨hcY, hpY, hnY⟩ hfY;dsimp only at hcY hpY hnY hfY))|apply then_n|apply sp_seq|apply sp_region|apply spl_nil|apply sp_skip|((first|apply spl_pure rfl|(apply spl_pure_g rfl;(·(first|exact Gd.tf rfl rfl|exact Gd.gt rfl rfl))));(·(first|(apply ex_loadpartE (cs':=#[.slice A n c]);(·exact eT rfl);(·exact Bk.own InH.mem);(·rfl);(·rfl))|(apply ex_loadpartE (cs':=#[.slice A2 n2 c2]);(·exact eT rfl);(·exact Bk.own InH.mem);(·rfl);(·rfl))|((first|apply ex_move|apply ex_assign|apply ex_seql|apply ex_sneq)<;>(first|exact eT rfl|exact eC|exact eG rfl))|((first|apply ex_eql|apply ex_neq|apply ex_orT)<;>(first|exact eT rfl|exact eC|exact eG rfl))|((first|apply ex_beql|apply ex_and)<;>(first|exact eT rfl|exact eG rfl))|((apply ex_extract)<;>(first|exact eT rfl|rfl)))))|(apply spl_alloc rfl;intro _ _)|(apply spl_stores;(·exact eT rfl);(·exact eT rfl);(·(repeat (exact Upd.here)));(·(rfl));(·(rfl));(·exact ones_of_all rfl)))
    by_cases hh0 : h = 0
    · subst hh0
      obtain ⟨hcvy, rfl⟩ := parseR_v hPt
      refine spc_know (X := ∀ k ∈ kY, LensK k) (fun w' hh => RdKinds.lens (hcY w' hh.holds)) fun hlY => ?_
      have hvY : validB kY = true := (valid_iff hlY).2 (by rw [hpY]; exact hcvy)
      have hszY := named_size (ks := kY) (by rw [hpY]; exact catV_named hcvy)
      have hVY := fun (w' : World) (h' : RdKinds w' w'.heap.size sY kY) => valid_c (A := sY.a) (n := sY.n) (c := sY.c) h' hszY
      rw [hvY] at hVY
      rcases textR_cases kY with ⟨q1, q2⟩ | ⟨q1, q2⟩ | ⟨q1, q2, q3⟩
      · rw [hvY] at q1; cases q1
      · obtain ⟨pz, iz, az, hPz⟩ : ∃ a b c, parseR ⟨#[]⟩ = (a, b, c) := ⟨_, _, _, rfl⟩
        repeat (first|(apply sp_cond_f;(·exact eT rfl);(·(simp;done)))|(apply spl_callp rfl;(·(repeat (first|exact eN|(apply eS;(·exact eT rfl)))));(·exact fun w' hh => text_e (A := sY.a) (n := sY.n) (c := sY.c) q2 (hcY w' hh.holds) hszY))|(apply spl_callp rfl;(·(repeat (first|exact eN|(apply eS;(·exact eT rfl)))));(·exact fun w' hh => hVY w' (hcY w' hh.holds)))|(apply spl_callh (X:=Heap × Sl × List KindR) rfl;(·(repeat (first|exact eN|(apply eS;(·exact eT rfl)))));(·exact fun w' hh => parse_e hPz emp_size);(rintro ⟨HZ, sZ, kZ⟩ ⟨hcZ, hpZ, hnZ⟩ hfZ;dsimp only at hcZ hpZ hnZ hfZ))|(apply spl_callp_g rfl;(·exact Gd.gt rfl rfl);(·(repeat (first|exact eN|(apply eS;(·exact eG rfl)))));(·exact fun _ w' hh => same_e rfl (hcZ w' hh.holds) (hcY w' hh.holds)))|apply then_n|apply sp_seq|apply sp_region|apply spl_nil|apply sp_skip|apply sp_ret|((first|apply spl_pure rfl|(apply spl_pure_g rfl;(·(first|exact Gd.tt rfl rfl|exact Gd.tf rfl rfl|exact Gd.gt rfl rfl))));(·(first|(apply ex_loadpartE (cs':=#[.slice sZ.a sZ.n sZ.c]);(·exact eT rfl);(·exact Bk.own InH.mem);(·rfl);(·rfl))|(apply ex_loadpartE (cs':=#[.slice sY.a sY.n sY.c]);(·exact eT rfl);(·exact Bk.own InH.mem);(·rfl);(·rfl))|((first|apply ex_move|apply ex_assign|apply ex_not|apply ex_seql|apply ex_sneq|apply ex_andT)<;>(first|exact eT rfl|exact eG rfl))|((first|apply ex_eql|apply ex_neq|apply ex_orT)<;>(first|exact eT rfl|exact eC|exact eG rfl))|((apply ex_and)<;>(exact eG rfl))|((apply ex_extract)<;>(first|exact eT rfl|rfl)))))|(apply spl_alloc rfl;intro _ _)|(apply spl_stores;(·exact eT rfl);(·exact eT rfl);(·(repeat (exact Upd.here)));(·(rfl));(·(rfl));(·exact ones_of_all rfl)))
        (apply ret_ok rfl;(·((apply Res.ofOne;((apply Res1.tmp;(·rfl))))))); simp
      · have hPz := text_parse (by rw [hpY]; exact hcvy) q3
        have hzs := (lexR_ok q3).1
        repeat (first|(apply sp_cond_f;(·exact eT rfl);(·(simp;done)))|(apply spl_callp rfl;(·(repeat (first|exact eN|(apply eS;(·exact eT rfl)))));(·exact fun w' hh => text_e (A := sY.a) (n := sY.n) (c := sY.c) q2 (hcY w' hh.holds) hszY))|(apply spl_callp rfl;(·(repeat (first|exact eN|(apply eS;(·exact eT rfl)))));(·exact fun w' hh => hVY w' (hcY w' hh.holds)))|(apply spl_callh (X:=Heap × Sl × List KindR) rfl;(·(repeat (first|exact eN|(apply eS;(·exact eT rfl)))));(·exact fun w' hh => parse_e hPz (by omega));(rintro ⟨HZ, sZ, kZ⟩ ⟨hcZ, hpZ, hnZ⟩ hfZ;dsimp only at hcZ hpZ hnZ hfZ))|(apply spl_callp_g rfl;(·exact Gd.tt rfl rfl);(·(repeat (first|exact eN|(apply eS;(·exact eT rfl)))));(·exact fun _ w' hh => same_e ((sameC_iff (parse_norm hPz hpZ) (parse_norm hPt hpY)).2 hpZ) (hcZ w' hh.holds) (hcY w' hh.holds)))|apply then_n|apply sp_seq|apply sp_region|apply spl_nil|apply sp_skip|apply sp_ret|((first|apply spl_pure rfl|(apply spl_pure_g rfl;(·(first|exact Gd.tt rfl rfl|exact Gd.tf rfl rfl))));(·(first|(apply ex_loadpartE (cs':=#[.slice sZ.a sZ.n sZ.c]);(·exact eT rfl);(·exact Bk.own InH.mem);(·rfl);(·rfl))|(apply ex_loadpartE (cs':=#[.slice sY.a sY.n sY.c]);(·exact eT rfl);(·exact Bk.own InH.mem);(·rfl);(·rfl))|((first|apply ex_move|apply ex_assign|apply ex_not|apply ex_seql|apply ex_sneq|apply ex_andT)<;>(first|exact eT rfl|exact eG rfl))|((first|apply ex_eql|apply ex_neq|apply ex_orT)<;>(first|exact eT rfl|exact eC|exact eG rfl))|((apply ex_extract)<;>(first|exact eT rfl|rfl)))))|(apply spl_alloc rfl;intro _ _)|(apply spl_stores;(·exact eT rfl);(·exact eT rfl);(·(repeat (exact Upd.here)));(·(rfl));(·(rfl));(·exact ones_of_all rfl)))
        (apply ret_ok rfl;(·((apply Res.ofOne;((apply Res1.tmp;(·rfl))))))); simp
    · obtain ⟨rfl, ha1, ha2⟩ := parseR_e hPt hh0
      have hkY : kY = [] := List.map_eq_nil_iff.1 hpY
      refine spc_know (X := sY.n = 0) (fun w' hh => by have := (hcY w' hh.holds).1.len; rw [hkY] at this; exact this.symm) fun hsn => ?_
      repeat (first|(apply sp_cond_t;(·exact eT rfl);(·(simp [hh0])))|apply then_n|apply sp_seq|apply sp_region|apply spl_nil|apply then_r|apply sp_ret|((first|apply spl_pure rfl|(apply spl_pure_g rfl;(·exact Gd.tt rfl rfl)));(·(first|((first|apply ex_move|apply ex_assign|apply ex_fieldAddr'|apply ex_leq|apply ex_geq|apply ex_seql|apply ex_len|apply ex_andT)<;>(first|exact eT rfl|exact eC|exact eG rfl))|((first|apply ex_eql|apply ex_slen)<;>(first|exact eT rfl|exact eC|exact eG rfl))|((apply ex_loadown)<;>(first|exact eT rfl|exact Bk.own InH.mem|rfl))))))
      (apply ret_ok rfl;(·((apply Res.ofOne;((apply Res1.tmp;(·rfl))))))); simp [hsn]; omega
  · have hcva := (valid_iff hla).1 hva
    have hzs := (lexR_ok hlx).1
    have hTa := fun (w' : World) (h' : RdKinds w' w'.heap.size ⟨A, n, c⟩ ka) => text_e hTe h' hsa
    rw [hva] at hVa
    have hPx := text_parse hcva hlx
    have hfab : f = 0 → decide (textB (ka.map KindR.pure) = u) = sameC ka kb := fun hf => by
      rcases textR_cases kb with ⟨q1, q2⟩ | ⟨q1, q2⟩ | ⟨q1, q2, q3⟩
      · rw [hub] at q2; cases q2; cases hf
      · rw [hub] at q2; cases q2; cases hf
      · rw [hub] at q2
        cases q2
        have hcvb := (valid_iff hlb).1 q1
        have h1 := text_inj hcva hcvb hlx q3
        have h2 := sameC_iff (NormK.ofV hcva) (NormK.ofV hcvb)
        rw [Bool.eq_iff_iff, decide_eq_true_eq, h1, h2]
    repeat (first|(apply spl_callp rfl;(·(repeat (first|exact eN|(apply eS;(·exact eT rfl)))));(·exact fun w' hh => hTa w' (hA.hp hh)))|(apply spl_callp rfl;(·(repeat (first|exact eN|(apply eS;(·exact eT rfl)))));(·exact fun w' hh => hTb w' (hB.hp hh)))|(apply spl_callp rfl;(·(repeat (first|exact eN|(apply eS;(·exact eT rfl)))));(·exact fun w' hh => hVa w' (hA.hp hh)))|(apply sp_cond_f;(·exact eT rfl);(·(simp;done)))|(apply sp_cond_t;(·exact eT rfl);(·rfl))|(apply spl_callh (X:=Heap × Sl × List KindR) rfl;(·(repeat (first|exact eN|(apply eS;(·exact eT rfl)))));(·exact fun w' hh => parse_e hPx (by omega));(rintro ⟨HX, sX, kX⟩ ⟨hcX, hpX, hnX⟩ hfX;dsimp only at hcX hpX hnX hfX;have hsX := (sameC_iff (parse_norm hPx hpX) (NormK.ofV hcva)).2 hpX))|apply then_n|apply sp_seq|apply sp_region|apply spl_nil|apply sp_skip|((first|apply spl_pure rfl|(apply spl_pure_g rfl;(·(first|exact Gd.tt rfl rfl|exact Gd.tf rfl rfl))));(·(first|(apply ex_loadpartE (cs':=#[.slice A n c]);(·exact eT rfl);(·exact Bk.own InH.mem);(·rfl);(·rfl))|(apply ex_loadpartE (cs':=#[.slice A2 n2 c2]);(·exact eT rfl);(·exact Bk.own InH.mem);(·rfl);(·rfl))|((first|apply ex_move|apply ex_assign|apply ex_seql|apply ex_sneq|apply ex_andT)<;>(first|exact eT rfl|exact eC|exact eG rfl))|((first|apply ex_eql|apply ex_neq|apply ex_orT)<;>(first|exact eT rfl|exact eC))|((apply ex_beql)<;>(exact eT rfl))|((apply ex_extract)<;>(first|exact eT rfl|rfl))|(apply ex_loadowns<;>(first|exact eT rfl|exact Bk.own InH.mem|(rfl))))))|(apply spl_alloc rfl;intro _ _)|(apply spl_stores;(·exact eT rfl);(·exact eT rfl);(·(repeat (exact Upd.here)));(·(rfl));(·(rfl));(·exact ones_of_all rfl))|(apply spl_guard_t;(·exact Gd.tf rfl rfl);(·rfl)))
    rename_i gX hgX
    by_cases hf0 : f = 0
    · subst hf0
      have hE := hfab rfl
      repeat (first|(apply spl_callp_g rfl;(·(first|exact Gd.none|exact Gd.tt rfl rfl));(·(repeat (first|exact eN|(apply eS;(·exact eT rfl)))));(·exact fun _ w' hh => same_e hsX (hcX w' hh.holds) (hA.hp hh)))|(apply spl_callp_g rfl;(·exact Gd.tt rfl rfl);(·(repeat (first|exact eN|(apply eS;(·exact eT rfl)))));(·exact fun _ w' hh => same_e rfl (hA.hp hh) (hB.hp hh)))|apply then_n|apply spl_nil|((first|apply spl_pure rfl|(apply spl_pure_g rfl;(·(first|exact Gd.tt rfl rfl|exact Gd.tf rfl rfl))));(·(first|(apply ex_loadpartE (cs':=#[.slice A n c]);(·exact eT rfl);(·exact Bk.own InH.mem);(·rfl);(·rfl))|(apply ex_loadpartE (cs':=#[.slice A2 n2 c2]);(·exact eT rfl);(·exact Bk.own InH.mem);(·rfl);(·rfl))|((first|apply ex_move|apply ex_not|apply ex_seql|apply ex_sneq|apply ex_andT)<;>(exact eT rfl))|((first|apply ex_eql|apply ex_neq|apply ex_orT)<;>(first|exact eT rfl|exact eC))|((apply ex_bneq)<;>(exact eT rfl))))))
      refine sp_cond_f (by (exact eT rfl)) (by rw [hE]; simp) ?_
      repeat (first|(apply spl_callh (X:=Heap × Sl × List KindR) rfl;(·(repeat (first|exact eN|(apply eS;(·exact eT rfl)))));(·exact fun w' hh => parse_e hPt (by omega));(rintro ⟨HY, sY, kY⟩ ⟨hcY, hpY, hnY⟩ hfY;dsimp only at hcY hpY hnY hfY))|apply then_n|apply sp_seq|apply sp_region|apply spl_nil|apply sp_skip|((apply spl_pure rfl);(·(first|((first|apply ex_move|apply ex_assign|apply ex_sneq)<;>(exact eT rfl))|((apply ex_neq)<;>(first|exact eT rfl|exact eC))|((apply ex_extract)<;>(first|exact eT rfl|rfl)))))|(apply spl_alloc rfl;intro _ _)|(apply spl_stores;(·exact eT rfl);(·exact eT rfl);(·(repeat (exact Upd.here)));(·(rfl));(·(rfl));(·exact ones_of_all rfl)))
      by_cases hh0 : h = 0
      · subst hh0
        obtain ⟨hcvy, rfl⟩ := parseR_v hPt
        refine spc_know (X := ∀ k ∈ kY, LensK k) (fun w' hh => RdKinds.lens (hcY w' hh.holds)) fun hlY => ?_
        have hvY : validB kY = true := (valid_iff hlY).2 (by rw [hpY]; exact hcvy)
        have hszY := named_size (ks := kY) (by rw [hpY]; exact catV_named hcvy)
        have hVY := fun (w' : World) (h' : RdKinds w' w'.heap.size sY kY) => valid_c (A := sY.a) (n := sY.n) (c := sY.c) h' hszY
        rw [hvY] at hVY
        rcases textR_cases kY with ⟨q1, q2⟩ | ⟨q1, q2⟩ | ⟨q1, q2, q3⟩
        · rw [hvY] at q1; cases q1
        · obtain ⟨pz, iz, az, hPz⟩ : ∃ a b c, parseR ⟨#[]⟩ = (a, b, c) := ⟨_, _, _, rfl⟩
          repeat (first|(apply sp_cond_f;(·exact eT rfl);(·(simp;done)))|(apply spl_callp rfl;(·(repeat (first|exact eN|(apply eS;(·exact eT rfl)))));(·exact fun w' hh => text_e (A := sY.a) (n := sY.n) (c := sY.c) q2 (hcY w' hh.holds) hszY))|(apply spl_callp rfl;(·(repeat (first|exact eN|(apply eS;(·exact eT rfl)))));(·exact fun w' hh => hVY w' (hcY w' hh.holds)))|(apply spl_callh (X:=Heap × Sl × List KindR) rfl;(·(repeat (first|exact eN|(apply eS;(·exact eT rfl)))));(·exact fun w' hh => parse_e hPz emp_size);(rintro ⟨HZ, sZ, kZ⟩ ⟨hcZ, hpZ, hnZ⟩ hfZ;dsimp only at hcZ hpZ hnZ hfZ))|(apply spl_callp_g rfl;(·exact Gd.gt rfl rfl);(·(repeat (first|exact eN|(apply eS;(·exact eG rfl)))));(·exact fun _ w' hh => same_e rfl (hcZ w' hh.holds) (hcY w' hh.holds)))|apply then_n|apply sp_seq|apply sp_region|apply spl_nil|apply sp_skip|apply sp_ret|((first|apply spl_pure rfl|(apply spl_pure_g rfl;(·(first|exact Gd.tt rfl rfl|exact Gd.tf rfl rfl|exact Gd.gt rfl rfl))));(·(first|(apply ex_loadpartE (cs':=#[.slice sZ.a sZ.n sZ.c]);(·exact eT rfl);(·exact Bk.own InH.mem);(·rfl);(·rfl))|(apply ex_loadpartE (cs':=#[.slice sY.a sY.n sY.c]);(·exact eT rfl);(·exact Bk.own InH.mem);(·rfl);(·rfl))|((first|apply ex_move|apply ex_assign|apply ex_not|apply ex_seql|apply ex_sneq|apply ex_andT)<;>(first|exact eT rfl|exact eG rfl))|((first|apply ex_eql|apply ex_neq|apply ex_orT)<;>(first|exact eT rfl|exact eC|exact eG rfl))|((apply ex_and)<;>(exact eG rfl))|((apply ex_extract)<;>(first|exact eT rfl|rfl)))))|(apply spl_alloc rfl;intro _ _)|(apply spl_stores;(·exact eT rfl);(·exact eT rfl);(·(repeat (exact Upd.here)));(·(rfl));(·(rfl));(·exact ones_of_all rfl)))
          (apply ret_ok rfl;(·((apply Res.ofOne;((apply Res1.tmp;(·rfl))))))); simp
        · have hPz := text_parse (by rw [hpY]; exact hcvy) q3
          have hzs := (lexR_ok q3).1
          repeat (first|(apply sp_cond_f;(·exact eT rfl);(·(simp;done)))|(apply spl_callp rfl;(·(repeat (first|exact eN|(apply eS;(·exact eT rfl)))));(·exact fun w' hh => text_e (A := sY.a) (n := sY.n) (c := sY.c) q2 (hcY w' hh.holds) hszY))|(apply spl_callp rfl;(·(repeat (first|exact eN|(apply eS;(·exact eT rfl)))));(·exact fun w' hh => hVY w' (hcY w' hh.holds)))|(apply spl_callh (X:=Heap × Sl × List KindR) rfl;(·(repeat (first|exact eN|(apply eS;(·exact eT rfl)))));(·exact fun w' hh => parse_e hPz (by omega));(rintro ⟨HZ, sZ, kZ⟩ ⟨hcZ, hpZ, hnZ⟩ hfZ;dsimp only at hcZ hpZ hnZ hfZ))|(apply spl_callp_g rfl;(·exact Gd.tt rfl rfl);(·(repeat (first|exact eN|(apply eS;(·exact eT rfl)))));(·exact fun _ w' hh => same_e ((sameC_iff (parse_norm hPz hpZ) (parse_norm hPt hpY)).2 hpZ) (hcZ w' hh.holds) (hcY w' hh.holds)))|apply then_n|apply sp_seq|apply sp_region|apply spl_nil|apply sp_skip|apply sp_ret|((first|apply spl_pure rfl|(apply spl_pure_g rfl;(·(first|exact Gd.tt rfl rfl|exact Gd.tf rfl rfl))));(·(first|(apply ex_loadpartE (cs':=#[.slice sZ.a sZ.n sZ.c]);(·exact eT rfl);(·exact Bk.own InH.mem);(·rfl);(·rfl))|(apply ex_loadpartE (cs':=#[.slice sY.a sY.n sY.c]);(·exact eT rfl);(·exact Bk.own InH.mem);(·rfl);(·rfl))|((first|apply ex_move|apply ex_assign|apply ex_not|apply ex_seql|apply ex_sneq|apply ex_andT)<;>(first|exact eT rfl|exact eG rfl))|((first|apply ex_eql|apply ex_neq|apply ex_orT)<;>(first|exact eT rfl|exact eC|exact eG rfl))|((apply ex_extract)<;>(first|exact eT rfl|rfl)))))|(apply spl_alloc rfl;intro _ _)|(apply spl_stores;(·exact eT rfl);(·exact eT rfl);(·(repeat (exact Upd.here)));(·(rfl));(·(rfl));(·exact ones_of_all rfl)))
          (apply ret_ok rfl;(·((apply Res.ofOne;((apply Res1.tmp;(·rfl))))))); simp
      · obtain ⟨rfl, ha1, ha2⟩ := parseR_e hPt hh0
        have hkY : kY = [] := List.map_eq_nil_iff.1 hpY
        refine spc_know (X := sY.n = 0) (fun w' hh => by have := (hcY w' hh.holds).1.len; rw [hkY] at this; exact this.symm) fun hsn => ?_
        repeat (first|(apply sp_cond_t;(·exact eT rfl);(·(simp [hh0])))|apply then_n|apply sp_seq|apply sp_region|apply spl_nil|apply then_r|apply sp_ret|((first|apply spl_pure rfl|(apply spl_pure_g rfl;(·exact Gd.tt rfl rfl)));(·(first|((first|apply ex_move|apply ex_assign|apply ex_fieldAddr'|apply ex_leq|apply ex_geq|apply ex_seql|apply ex_len|apply ex_andT)<;>(first|exact eT rfl|exact eC|exact eG rfl))|((first|apply ex_eql|apply ex_slen)<;>(first|exact eT rfl|exact eC|exact eG rfl))|((apply ex_loadown)<;>(first|exact eT rfl|exact Bk.own InH.mem|rfl))))))
        (apply ret_ok rfl;(·((apply Res.ofOne;((apply Res1.tmp;(·rfl))))))); simp [hsn]; omega
    ·
      repeat (first|(apply spl_callp_g rfl;(·(first|exact Gd.none|exact Gd.tt rfl rfl));(·(repeat (first|exact eN|(apply eS;(·(first|exact eT rfl|exact eG rfl))))));(·exact fun _ w' hh => same_e hsX (hcX w' hh.holds) (hA.hp hh)))|(apply spl_callp_g rfl;(·exact Gd.tt rfl rfl);(·(repeat (first|exact eN|(apply eS;(·exact eG rfl)))));(·exact fun _ w' hh => same_e rfl (hA.hp hh) (hB.hp hh)))|apply then_n|apply spl_nil|((first|apply spl_pure rfl|(apply spl_pure_g rfl;(·(first|exact Gd.tt rfl rfl|exact Gd.tf rfl rfl))));(·(first|(apply ex_loadpartE (cs':=#[.slice A n c]);(·exact eT rfl);(·exact Bk.own InH.mem);(·rfl);(·rfl))|(apply ex_loadpartE (cs':=#[.slice A2 n2 c2]);(·exact eT rfl);(·exact Bk.own InH.mem);(·rfl);(·rfl))|((first|apply ex_move|apply ex_not|apply ex_seql|apply ex_sneq|apply ex_andT)<;>(first|exact eT rfl|exact eG rfl))|((first|apply ex_eql|apply ex_neq|apply ex_orT)<;>(first|exact eT rfl|exact eC))|((apply ex_bneq)<;>(exact eG rfl))))))
      refine sp_cond_f (by (exact eT rfl)) (by simp [hf0]) ?_
      repeat (first|(apply spl_callh (X:=Heap × Sl × List KindR) rfl;(·(repeat (first|exact eN|(apply eS;(·exact eT rfl)))));(·exact fun w' hh => parse_e hPt (by omega));(rintro ⟨HY, sY, kY⟩ ⟨hcY, hpY, hnY⟩ hfY;dsimp only at hcY hpY hnY hfY))|apply then_n|apply sp_seq|apply sp_region|apply spl_nil|apply sp_skip|((apply spl_pure rfl);(·(first|((first|apply ex_move|apply ex_assign|apply ex_sneq)<;>(exact eT rfl))|((apply ex_neq)<;>(first|exact eT rfl|exact eC))|((apply ex_extract)<;>(first|exact eT rfl|rfl)))))|(apply spl_alloc rfl;intro _ _)|(apply spl_stores;(·exact eT rfl);(·exact eT rfl);(·(repeat (exact Upd.here)));(·(rfl));(·(rfl));(·exact ones_of_all rfl)))
      by_cases hh0 : h = 0
      · subst hh0
        obtain ⟨hcvy, rfl⟩ := parseR_v hPt
        refine spc_know (X := ∀ k ∈ kY, LensK k) (fun w' hh => RdKinds.lens (hcY w' hh.holds)) fun hlY => ?_
        have hvY : validB kY = true := (valid_iff hlY).2 (by rw [hpY]; exact hcvy)
        have hszY := named_size (ks := kY) (by rw [hpY]; exact catV_named hcvy)
        have hVY := fun (w' : World) (h' : RdKinds w' w'.heap.size sY kY) => valid_c (A := sY.a) (n := sY.n) (c := sY.c) h' hszY
        rw [hvY] at hVY
        rcases textR_cases kY with ⟨q1, q2⟩ | ⟨q1, q2⟩ | ⟨q1, q2, q3⟩
        · rw [hvY] at q1; cases q1
        · obtain ⟨pz, iz, az, hPz⟩ : ∃ a b c, parseR ⟨#[]⟩ = (a, b, c) := ⟨_, _, _, rfl⟩
          repeat (first|(apply sp_cond_f;(·exact eT rfl);(·(simp;done)))|(apply spl_callp rfl;(·(repeat (first|exact eN|(apply eS;(·exact eT rfl)))));(·exact fun w' hh => text_e (A := sY.a) (n := sY.n) (c := sY.c) q2 (hcY w' hh.holds) hszY))|(apply spl_callp rfl;(·(repeat (first|exact eN|(apply eS;(·exact eT rfl)))));(·exact fun w' hh => hVY w' (hcY w' hh.holds)))|(apply spl_callh (X:=Heap × Sl × List KindR) rfl;(·(repeat (first|exact eN|(apply eS;(·exact eT rfl)))));(·exact fun w' hh => parse_e hPz emp_size);(rintro ⟨HZ, sZ, kZ⟩ ⟨hcZ, hpZ, hnZ⟩ hfZ;dsimp only at hcZ hpZ hnZ hfZ))|(apply spl_callp_g rfl;(·exact Gd.gt rfl rfl);(·(repeat (first|exact eN|(apply eS;(·exact eG rfl)))));(·exact fun _ w' hh => same_e rfl (hcZ w' hh.holds) (hcY w' hh.holds)))|apply then_n|apply sp_seq|apply sp_region|apply spl_nil|apply sp_skip|apply sp_ret|((first|apply spl_pure rfl|(apply spl_pure_g rfl;(·(first|exact Gd.tt rfl rfl|exact Gd.tf rfl rfl|exact Gd.gt rfl rfl))));(·(first|(apply ex_loadpartE (cs':=#[.slice sZ.a sZ.n sZ.c]);(·exact eT rfl);(·exact Bk.own InH.mem);(·rfl);(·rfl))|(apply ex_loadpartE (cs':=#[.slice sY.a sY.n sY.c]);(·exact eT rfl);(·exact Bk.own InH.mem);(·rfl);(·rfl))|((first|apply ex_move|apply ex_assign|apply ex_not|apply ex_seql|apply ex_sneq|apply ex_andT)<;>(first|exact eT rfl|exact eG rfl))|((first|apply ex_eql|apply ex_neq|apply ex_orT)<;>(first|exact eT rfl|exact eC|exact eG rfl))|((apply ex_and)<;>(exact eG rfl))|((apply ex_extract)<;>(first|exact eT rfl|rfl)))))|(apply spl_alloc rfl;intro _ _)|(apply spl_stores;(·exact eT rfl);(·exact eT rfl);(·(repeat (exact Upd.here)));(·(rfl));(·(rfl));(·exact ones_of_all rfl)))
          (apply ret_ok rfl;(·((apply Res.ofOne;((apply Res1.tmp;(·rfl))))))); simp
        · have hPz := text_parse (by rw [hpY]; exact hcvy) q3
          have hzs := (lexR_ok q3).1
          repeat (first|(apply sp_cond_f;(·exact eT rfl);(·(simp;done)))|(apply spl_callp rfl;(·(repeat (first|exact eN|(apply eS;(·exact eT rfl)))));(·exact fun w' hh => text_e (A := sY.a) (n := sY.n) (c := sY.c) q2 (hcY w' hh.holds) hszY))|(apply spl_callp rfl;(·(repeat (first|exact eN|(apply eS;(·exact eT rfl)))));(·exact fun w' hh => hVY w' (hcY w' hh.holds)))|(apply spl_callh (X:=Heap × Sl × List KindR) rfl;(·(repeat (first|exact eN|(apply eS;(·exact eT rfl)))));(·exact fun w' hh => parse_e hPz (by omega));(rintro ⟨HZ, sZ, kZ⟩ ⟨hcZ, hpZ, hnZ⟩ hfZ;dsimp only at hcZ hpZ hnZ hfZ))|(apply spl_callp_g rfl;(·exact Gd.tt rfl rfl);(·(repeat (first|exact eN|(apply eS;(·exact eT rfl)))));(·exact fun _ w' hh => same_e ((sameC_iff (parse_norm hPz hpZ) (parse_norm hPt hpY)).2 hpZ) (hcZ w' hh.holds) (hcY w' hh.holds)))|apply then_n|apply sp_seq|apply sp_region|apply spl_nil|apply sp_skip|apply sp_ret|((first|apply spl_pure rfl|(apply spl_pure_g rfl;(·(first|exact Gd.tt rfl rfl|exact Gd.tf rfl rfl))));(·(first|(apply ex_loadpartE (cs':=#[.slice sZ.a sZ.n sZ.c]);(·exact eT rfl);(·exact Bk.own InH.mem);(·rfl);(·rfl))|(apply ex_loadpartE (cs':=#[.slice sY.a sY.n sY.c]);(·exact eT rfl);(·exact Bk.own InH.mem);(·rfl);(·rfl))|((first|apply ex_move|apply ex_assign|apply ex_not|apply ex_seql|apply ex_sneq|apply ex_andT)<;>(first|exact eT rfl|exact eG rfl))|((first|apply ex_eql|apply ex_neq|apply ex_orT)<;>(first|exact eT rfl|exact eC|exact eG rfl))|((apply ex_extract)<;>(first|exact eT rfl|rfl)))))|(apply spl_alloc rfl;intro _ _)|(apply spl_stores;(·exact eT rfl);(·exact eT rfl);(·(repeat (exact Upd.here)));(·(rfl));(·(rfl));(·exact ones_of_all rfl)))
          (apply ret_ok rfl;(·((apply Res.ofOne;((apply Res1.tmp;(·rfl))))))); simp
      · obtain ⟨rfl, ha1, ha2⟩ := parseR_e hPt hh0
        have hkY : kY = [] := List.map_eq_nil_iff.1 hpY
        refine spc_know (X := sY.n = 0) (fun w' hh => by have := (hcY w' hh.holds).1.len; rw [hkY] at this; exact this.symm) fun hsn => ?_
        repeat (first|(apply sp_cond_t;(·exact eT rfl);(·(simp [hh0])))|apply then_n|apply sp_seq|apply sp_region|apply spl_nil|apply then_r|apply sp_ret|((first|apply spl_pure rfl|(apply spl_pure_g rfl;(·exact Gd.tt rfl rfl)));(·(first|((first|apply ex_move|apply ex_assign|apply ex_fieldAddr'|apply ex_leq|apply ex_geq|apply ex_seql|apply ex_len|apply ex_andT)<;>(first|exact eT rfl|exact eC|exact eG rfl))|((first|apply ex_eql|apply ex_slen)<;>(first|exact eT rfl|exact eC|exact eG rfl))|((apply ex_loadown)<;>(first|exact eT rfl|exact Bk.own InH.mem|rfl))))))
        (apply ret_ok rfl;(·((apply Res.ofOne;((apply Res1.tmp;(·rfl))))))); simp [hsn]; omega
end Go.Proofs.Ytfdjlphfohnnnaa
/-
  CatalogMatchesReference, walked.
-/
namespace Go.Proofs.Ytfdjlphfohnnnaa
open Go.RowKit Go.Sy
set_option linter.unusedVariables false
set_option linter.unusedSimpArgs false
theorem all2_refl {α : Type} {p : α → α → Bool} (h : ∀ x, p x x = true) : ∀ xs : List α, all2 p xs xs = true
  | [] => rfl
  | x :: xs => by simp only [all2]; rw [h, all2_refl h xs]; rfl
theorem sameK_refl (k : KindR) : sameK k k = true := by
  have h1 : ∀ x : ByteArray, eqB x x = true := fun x => decide_eq_true rfl
  have h2 : ∀ s : SlotR, sameS s s = true := fun s => by
    unfold sameS
    rw [all2_refl h1]
    simp
  unfold sameK
  rw [all2_refl h2]
  simp
theorem refParse_e {w : World} {t : ByteArray} {ps : List PKind} {e a : Int} (hR : parseR t = (ps, e, a)) (ht : t.size < 1000000) :
    Calls Try.prog 14 #[.string t] w (RetH w (fun y : Heap × Sl × List KindR => .tuple #[.agg #[.slice y.2.1.a y.2.1.n y.2.1.c], .int .i64 e, .int .i64 a]) (fun y => y.1) (fun y => CatIn y.1 y.2.1 y.2.2 ∧ y.2.2.map KindR.pure = ps ∧ y.2.1.n ≤ y.2.1.c)) := by
  have := refParse_c (w := w) ht
  rw [hR] at this
  exact this
attribute [local irreducible] Calls thenQ blockQ retQ retFQ Spc Spl Spq Ex Ev Evs Gd Upd ESub HKeep Res Res1 wlk effQ Rem SrcAt Split lexR parseR sameC fewB validB textB textR takesB normalB findK sameK
set_option maxRecDepth 100000 in
set_option maxHeartbeats 16000000 in
theorem lawMatches {w : World} {A : Option Addr} {n c : Nat} {ks : List KindR} {t kind slot other : ByteArray} (hK : RdKinds w w.heap.size ⟨A, n, c⟩ ks) (hnc : n ≤ c) :
    Calls Try.prog 3 #[.agg #[.slice A n c], .string t, .string kind, .string slot, .string other] w (Ret w (.bool true)) := by
  have hbd : n ≤ 9223372036854775807 := hK.1.bound
  refine sp_enter (vs := [_, _, _, _, _]) Try.func3 rfl Try.ntmps3 rfl ?_
  repeat (first|(apply spl_callp rfl;(·(repeat (first|exact eN|(apply eS;(·exact eT rfl)))));(·exact fun w' hh => head_c))|(apply spl_callp rfl;(·(repeat (first|exact eN|(apply eS;(·exact eT rfl)))));(·exact fun w' hh => few1_c (hK.hp hh) hh.ownI))|apply then_n|apply sp_seq|apply sp_region|apply spl_nil|((first|apply spl_pure rfl|(apply spl_pure_g rfl;(·exact Gd.tf rfl rfl)));(·(first|(apply ex_loadpartE (cs':=#[.slice A n c]);(·exact eT rfl);(·exact Bk.own InH.mem);(·rfl);(·rfl))|((first|apply ex_move|apply ex_assign|apply ex_not|apply ex_gtr)<;>(first|exact eT rfl|exact eC|exact eG rfl))|((first|apply ex_slen|apply ex_orT)<;>(first|exact eT rfl|exact eG rfl))|(apply ex_add<;>(exact eG rfl)))))|(apply spl_box;(·exact eT rfl);(·rfl);intro _ _)|(apply spl_buildSlice rfl;(·rfl);(·(repeat (first|exact eN|(apply eS;(·exact eT rfl)))));(·rfl);(·rfl);(·rfl);intro _ _))
  rename_i g5 hg5 gS hgS
  refine sp_cond (eT rfl) (fun hp => ?_) (fun hp => ?_)
  ·
    repeat (first|apply then_n|apply sp_seq|apply sp_region|apply spl_nil|apply then_r|apply sp_ret|((apply spl_pure rfl);(·(((first|apply ex_move|apply ex_assign)<;>(exact eT rfl))))))
    (apply ret_ok rfl;(·((apply Res.ofOne;((apply Res1.tmp;(·rfl))))))); rfl
  have hfew : fewB ks = true := by
    cases hf : fewB ks with
    | true => rfl
    | false => rw [hf] at hp; simp at hp
  have ht5 : ¬ (5000 : Int) < (t.size : Int) := by
    intro h
    rw [hfew, decide_eq_true h] at hp
    simp at hp
  clear hp
  refine spc_know (X := ∀ k ∈ ks, LensK k) (fun w' hh => (hK.hp hh).lens) fun hl => ?_
  have hsz := (few_sized hfew).2
  obtain ⟨h65, hFK⟩ := few_K hl hfew
  have hsm : ∀ k ∈ ks, k.name.size < 9223372036854775807 ∧ ∀ s ∈ k.slots, s.name.size < 9223372036854775807 := fun k hk => ⟨by have := (hFK k hk).nm; omega, fun s hs => by have := ((hFK k hk).slots s hs).nm; omega⟩
  obtain ⟨u, f, hub⟩ : ∃ u f, textR ks = (u, f) := ⟨_, _, rfl⟩
  obtain ⟨py, h, at_, hPt⟩ : ∃ a b c, parseR t = (a, b, c) := ⟨_, _, _, rfl⟩
  have hT1 := fun (w' : World) (h' : RdKinds w' w'.heap.size ⟨A, n, c⟩ ks) => text_e hub h' hsz
  have hT2 := fun (w' : World) (h' : RdKinds w' w'.heap.size ⟨A, n, c⟩ ks) => refText_c h' hnc hfew
  rw [hub] at hT2
  dsimp only at hT2
  have hrdK := findK_rd (s := kind) hK
  obtain ⟨b0, hb0⟩ : ∃ b, (findK ks kind).isSome = b := ⟨_, rfl⟩
  obtain ⟨kx, hkx⟩ : ∃ k, (findK ks kind).getD KindR.zero = k := ⟨_, rfl⟩
  rw [hkx] at hrdK
  have hF1 := fun (w' : World) (h' : RdS w' w'.heap.size 3 KindR.cells A n ks) => find_e (c := c) hkx hb0 h'
  have hF2 := fun (w' : World) (h' : RdS w' w'.heap.size 3 KindR.cells A n ks) => refFind_c (c := c) (s := kind) h'
  rw [hkx, hb0] at hF2
  have hSK := fun (w' : World) (q : RdSlots w' w'.heap.size kx.ss kx.slots) => SameKind_c q q
  rw [sameK_refl] at hSK
  have hV1 := fun (w' : World) (h' : RdKinds w' w'.heap.size ⟨A, n, c⟩ ks) => valid_c (c := c) h' hsz
  have hV2 := fun (w' : World) (h' : RdKinds w' w'.heap.size ⟨A, n, c⟩ ks) => refValid_c (c := c) h' hnc hsm
  have hK1 := fun (w' : World) (h' : RdKinds w' w'.heap.size ⟨A, n, c⟩ ks) => takes_c (s := kind) (t := slot) (o := other) h'
  have hK2 := fun (w' : World) (h' : RdKinds w' w'.heap.size ⟨A, n, c⟩ ks) => refTakes_c (s := kind) (t := slot) (o := other) h'
  have hN1 := fun (w' : World) (h' : RdKinds w' w'.heap.size ⟨A, n, c⟩ ks) => normal_c (s := kind) (t := slot) (o := other) h'
  have hN2 := fun (w' : World) (h' : RdKinds w' w'.heap.size ⟨A, n, c⟩ ks) => refNormal_c (s := kind) (t := slot) (o := other) h'
  generalize validB ks = vb at *
  generalize takesB ks kind slot other = tb at *
  generalize normalB ks kind slot other = nb at *
  repeat (first|(apply spl_callp rfl;(·(repeat (first|exact eN|(apply eS;(·exact eT rfl)))));(·exact fun w' hh => hT1 w' (hK.hp hh)))|(apply spl_callp rfl;(·(repeat (first|exact eN|(apply eS;(·exact eT rfl)))));(·exact fun w' hh => hT2 w' (hK.hp hh)))|(apply spl_callh (X:=Heap × Sl × List KindR) rfl;(·(repeat (first|exact eN|(apply eS;(·exact eT rfl)))));(·exact fun w' hh => parse_e hPt (by omega));(rintro ⟨HA, sA, kA⟩ ⟨hcA, hpA, hnA⟩ hfA;dsimp only at hcA hpA hnA hfA))|(apply spl_callh (X:=Heap × Sl × List KindR) rfl;(·(repeat (first|exact eN|(apply eS;(·exact eT rfl)))));(·exact fun w' hh => refParse_e hPt (by omega));(rintro ⟨HB, sB, kB⟩ ⟨hcB, hpB, hnB⟩ hfB;dsimp only at hcB hpB hnB hfB))|(apply spl_callp rfl;(·(repeat (first|exact eN|(apply eS;(·exact eT rfl)))));(·exact fun w' hh => hF1 w' (hK.1.hp' hh)))|(apply spl_callp rfl;(·(repeat (first|exact eN|(apply eS;(·exact eT rfl)))));(·exact fun w' hh => hF2 w' (hK.1.hp' hh)))|(apply spl_callp_g rfl;(·exact Gd.tt rfl rfl);(·(repeat (first|exact eN|(apply eS;(·exact eG rfl)))));(·exact fun _ w' hh => same_e ((sameC_iff (parse_norm hPt hpA) (parse_norm hPt hpB)).2 (hpA.trans hpB.symm)) (hcA w' hh.holds) (hcB w' hh.holds)))|(apply spl_callp_g rfl;(·exact Gd.tt rfl rfl);(·(repeat (first|exact eN|(apply eS;(·exact eG rfl)))));(·exact fun _ w' hh => hSK w' (hrdK.hp hh)))|apply then_n|apply sp_seq|apply sp_region|apply spl_nil|apply sp_skip|((first|apply spl_pure rfl|(apply spl_pure_g rfl;(·exact Gd.tt rfl rfl)));(·(first|(apply ex_loadpartE (cs':=#[.slice sA.a sA.n sA.c]);(·exact eT rfl);(·exact Bk.own InH.mem);(·rfl);(·rfl))|(apply ex_loadpartE (cs':=#[.slice sB.a sB.n sB.c]);(·exact eT rfl);(·exact Bk.own InH.mem);(·rfl);(·rfl))|(apply ex_loadpartE (cs':=#[.slice A n c]);(·exact eT rfl);(·exact Bk.own InH.mem);(·rfl);(·rfl))|((first|apply ex_move|apply ex_assign|apply ex_seql|apply ex_andT)<;>(first|exact eT rfl|exact eG rfl))|((apply ex_eql)<;>(exact eG rfl))|((apply ex_beql)<;>(exact eG rfl))|((apply ex_extract)<;>(first|exact eT rfl|rfl))|(apply ex_loadowns<;>(first|exact eT rfl|exact Bk.own InH.mem|(rfl))))))|(apply spl_alloc rfl;intro _ _)|(apply spl_stores;(·exact eT rfl);(·exact eT rfl);(·(repeat (exact Upd.here)));(·(rfl));(·(rfl));(·(first|exact Ones.one|exact ones_of_all rfl))))
  repeat (first|(apply spq_callp_g rfl;(·exact Gd.tt rfl rfl);(·(repeat (first|exact eN|(apply eS;(·exact eG rfl)))));(·exact fun _ w' hh => hV1 w' (hK.hp hh)))|(apply spq_callp_g rfl;(·exact Gd.tt rfl rfl);(·(repeat (first|exact eN|(apply eS;(·exact eG rfl)))));(·exact fun _ w' hh => hV2 w' (hK.hp hh)))|(apply spq_callp_g rfl;(·exact Gd.tt rfl rfl);(·(repeat (first|exact eN|(apply eS;(·exact eG rfl)))));(·exact fun _ w' hh => hK1 w' (hK.hp hh)))|(apply spq_callp_g rfl;(·exact Gd.tt rfl rfl);(·(repeat (first|exact eN|(apply eS;(·exact eG rfl)))));(·exact fun _ w' hh => hK2 w' (hK.hp hh)))|(apply spq_callp_g rfl;(·exact Gd.tt rfl rfl);(·(repeat (first|exact eN|(apply eS;(·exact eG rfl)))));(·exact fun _ w' hh => hN1 w' (hK.hp hh)))|(apply spq_callp_g rfl;(·exact Gd.tt rfl rfl);(·(repeat (first|exact eN|(apply eS;(·exact eG rfl)))));(·exact fun _ w' hh => hN2 w' (hK.hp hh)))|apply then_n|apply sp_ret|((first|apply spq_pure rfl|(apply spq_pure_g rfl;(·exact Gd.tt rfl rfl)));(·(first|(apply ex_loadpartE (cs':=#[.slice A n c]);(·exact eT rfl);(·exact Bk.own InH.mem);(·rfl);(·rfl))|((first|apply ex_move|apply ex_assign|apply ex_seql|apply ex_andT)<;>(first|exact eT rfl|exact eG rfl))|((apply ex_beql)<;>(exact eG rfl)))))|apply spq_nil|apply sp_draw mixed (by kernel_rfl))
  (apply ret_ok rfl;(·((apply Res.ofOne;((apply Res1.tmp;(·rfl))))))); simp
end Go.Proofs.Ytfdjlphfohnnnaa
