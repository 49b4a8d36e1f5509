/-
  DiskAll: the walk.
-/
import Derived.Test.YtmlodiiijicghaaDr
namespace Go.Proofs.Ytmlodiiijicghaa
open Go.RowKit Go.Sy
set_option linter.unusedVariables false
set_option linter.unusedSimpArgs false
attribute [local irreducible] Calls thenQ blockQ retQ Spc Spl Spq Ex Ev Evs Gd Upd ESub HKeep Res Res1 wlk effQ Rem SrcAt Split DH

theorem same_t {w : World} {A B : Option Addr} {n c m c' : Nat} {xs ys : List ByteArray} (hx : RdS w w.heap.size 1 strC A n xs) (hy : RdS w w.heap.size 1 strC B m ys) (h : xs = ys) :
    Calls Try.prog 27 #[.slice A n c, .slice B m c'] w (Ret w (.bool true)) := by
  have := same_c (c := c) (c' := c') hx hy
  rwa [decide_eq_true h] at this
theorem fail_all {S : St} (h : On S) (hq : S.q.length ≤ 60) (b : Int) : S.fail 60 b = ⟨settleP S.q S.st, [], true, none⟩ := by
  have hc : clampN 60 S.q.length = S.q.length := by unfold clampN; omega
  unfold St.fail
  rw [h.off, hc]
  simp [tornP]
theorem fail_noq {S : St} (h : On S) (hq : S.q = []) (b : Int) : S.fail 0 b = ⟨S.st, [], true, none⟩ := by
  unfold St.fail
  rw [h.off, hq]
  simp [tornP, settleP]
theorem fail_off {S : St} (h : S.off = true) (a b : Int) : S.fail a b = S := by unfold St.fail; rw [if_pos h]

set_option maxRecDepth 100000 in
set_option maxHeartbeats 4000000 in
theorem all_w {w : World} {r : Nat} (hr : r < 256) {A1 : Option Addr} {n1 c1 : Nat} {l1 : List ActR} (hL1 : RdS w w.heap.size 6 ActR.cells A1 n1 l1) (hF1 : Fits l1){b m : Int}  :
    Calls Try.prog 7 #[.int .u8 (r : Int), .slice A1 n1 c1, .int .i64 b, .int .i64 m] w (Ret w (.bool true)) := by
  have hbd1 := hL1.bound
  have hlen1 := hL1.len
  refine sp_enter (vs := [_, _, _, _]) Try.func7 rfl Try.ntmps7 rfl ?_
  cases hok1 : okP l1 with
  | false =>
    repeat (first
      | (apply sp_cond_t;(·(first|exact eT rfl|exact eC|exact eG rfl|exact eL rfl|exact eLL rfl|exact eLLL rfl|exact eF|exact eGl));(·(first|(simp;done)|(simp [*];done)|(simp;omega))))|(apply sp_cond_f;(·(first|exact eT rfl|exact eC|exact eG rfl|exact eL rfl|exact eLL rfl|exact eLLL rfl|exact eF|exact eGl));(·(first|(simp;done)|(simp [*];done)|(simp;omega))))
      | (apply spl_callp rfl;(·(repeat (first|exact eN|(apply eS;(·(first|exact eT rfl|exact eC|exact eG rfl|exact eL rfl|exact eLL rfl|exact eLLL rfl|exact eF|exact eGl))))));(·exact fun w' hh => head_c))
      | (apply spl_callp rfl;(·(repeat (first|exact eN|(apply eS;(·(first|exact eT rfl|exact eC|exact eG rfl|exact eL rfl|exact eLL rfl|exact eLLL rfl|exact eF|exact eGl))))));(·exact fun w' hh => ok_t (hL1.hp' hh) hok1))
      | (apply spl_callp_g rfl;(·(first|exact Gd.none|exact Gd.tt rfl rfl|exact Gd.tf rfl rfl|exact Gd.gt rfl rfl|exact Gd.gf rfl rfl));(·(repeat (first|exact eN|(apply eS;(·(first|exact eT rfl|exact eC|exact eG rfl|exact eL rfl|exact eLL rfl|exact eLLL rfl|exact eF|exact eGl))))));(·exact fun _ w' hh => ok_t (hL1.hp' hh) hok1))
      | apply then_n|apply block_n|apply sp_seq|apply sp_region|apply spl_nil|apply then_r|apply block_r|apply then_e|apply block_here|apply block_past rfl
      | ((first|apply sp_cond_t|apply sp_cond_f);(·(first|exact eT rfl|exact eC|exact eG rfl|exact eL rfl|exact eLL rfl|exact eLLL rfl|exact eF|exact eGl));(·(first|exact decide_eq_true (by omega)|exact decide_eq_false (by omega)|assumption|rfl)))
      | (apply sp_cond_f;(·(first|exact eT rfl|exact eC|exact eG rfl|exact eL rfl|exact eLL rfl|exact eLLL rfl|exact eF|exact eGl));(·(first|exact decide_eq_false (by omega)|assumption|rfl)))
      | apply sp_skip|apply sp_ret|apply sp_exit|apply sp_block
      | ((first|apply spl_pure rfl|(apply spl_pure_g rfl;(·(first|exact Gd.none|exact Gd.tt rfl rfl|exact Gd.tf rfl rfl|exact Gd.gt rfl rfl|exact Gd.gf rfl rfl))));(·(first|((first|apply ex_move|apply ex_assign|apply ex_not|apply ex_lss|apply ex_sneq|apply ex_len|apply ex_andT)<;>(first|exact eT rfl|exact eC|exact eG rfl|exact eL rfl|exact eLL rfl|exact eLLL rfl|exact eF|exact eGl))|((first|apply ex_neq|apply ex_slen|apply ex_orT|apply ex_slss)<;>(first|exact eT rfl|exact eC|exact eG rfl|exact eL rfl|exact eLL rfl|exact eLLL rfl|exact eF|exact eGl))|((first|apply ex_bneq|apply ex_and)<;>(first|exact eT rfl|exact eC|exact eG rfl|exact eL rfl|exact eLL rfl|exact eLLL rfl|exact eF|exact eGl))|((first|apply ex_or|apply ex_pneq)<;>(first|exact eT rfl|exact eC|exact eG rfl|exact eL rfl|exact eLL rfl|exact eLLL rfl|exact eF|exact eGl))|(apply ex_addn<;>(first|exact eT rfl|exact eC|exact eG rfl|exact eL rfl|exact eLL rfl|exact eLLL rfl|exact eF|exact eGl|(constructor<;>omega)))|(apply ex_add<;>(first|exact eT rfl|exact eC|exact eG rfl|exact eL rfl|exact eLL rfl|exact eLLL rfl|exact eF|exact eGl))|((first|apply ex_loadown|apply ex_extract|apply ex_indexAddr)<;>(first|exact eT rfl|exact eC|exact eG rfl|exact eL rfl|exact eLL rfl|exact eLLL rfl|exact eF|exact eGl|exact Bk.own InH.mem|exact Bk.old (by assumption) (Nat.le_refl _)|rfl|assumption|omega))|((first|apply ex_loadowns|apply ex_indexAddrI)<;>(first|exact eT rfl|exact eC|exact eG rfl|exact eL rfl|exact eLL rfl|exact eLLL rfl|exact eF|exact eGl|exact Bk.own InH.mem|exact Bk.old (by assumption) (Nat.le_refl _)|(first|rfl|assumption)|(constructor<;>omega))))))
      | (apply spl_guard_t;(·(first|exact Gd.none|exact Gd.tt rfl rfl|exact Gd.tf rfl rfl|exact Gd.gt rfl rfl|exact Gd.gf rfl rfl));(·rfl))|(apply spl_guard_f;(·(first|exact Gd.none|exact Gd.tt rfl rfl|exact Gd.tf rfl rfl|exact Gd.gt rfl rfl|exact Gd.gf rfl rfl));(·rfl);(·rfl)))
    (apply ret_ok rfl;(·(first|(apply Res.ofOne;(first|(apply Res1.tmp;(·rfl))|(apply Res1.cell;(·rfl);(·exact InH.mem);(·(first|rfl|assumption)))|(apply Res1.cell1;(·rfl);(·exact InH.mem);(·rfl))))|(apply Res.ofTwo<;>(first|(apply Res1.tmp;(·rfl))|(apply Res1.cell;(·rfl);(·exact InH.mem);(·(first|rfl|assumption)))|(apply Res1.cell1;(·rfl);(·exact InH.mem);(·rfl))))|(apply Res.ofThree<;>(first|(apply Res1.tmp;(·rfl))|(apply Res1.cell;(·rfl);(·exact InH.mem);(·(first|rfl|assumption)))|(apply Res1.cell1;(·rfl);(·exact InH.mem);(·rfl))))|exact Res.none_))); rfl
  | true =>
  have h60_1 := okP_len hok1
  have htx1 := okP_text hok1
  have hsize := fun w' : World => size_c (w := w') r hr
  have hN : 1 + r % 12 ≤ 12 := by omega
  have hN0 : 0 < 1 + r % 12 := by omega
  generalize 1 + r % 12 = N at hsize hN hN0
  repeat (first
    | (apply sp_cond_t;(·(first|exact eT rfl|exact eC|exact eG rfl|exact eL rfl|exact eLL rfl|exact eLLL rfl|exact eF|exact eGl));(·(first|(simp;done)|(simp [*];done)|(simp;omega))))|(apply sp_cond_f;(·(first|exact eT rfl|exact eC|exact eG rfl|exact eL rfl|exact eLL rfl|exact eLLL rfl|exact eF|exact eGl));(·(first|(simp;done)|(simp [*];done)|(simp;omega))))
    | (apply spl_callp rfl;(·(repeat (first|exact eN|(apply eS;(·(first|exact eT rfl|exact eC|exact eG rfl|exact eL rfl|exact eLL rfl|exact eLLL rfl|exact eF|exact eGl))))));(·exact fun w' hh => head_c))
    | (apply spl_callp rfl;(·(repeat (first|exact eN|(apply eS;(·(first|exact eT rfl|exact eC|exact eG rfl|exact eL rfl|exact eLL rfl|exact eLLL rfl|exact eF|exact eGl))))));(·exact fun w' hh => hsize w'))
    | (apply spl_callh (HH:=fun x : Nat × Rep => DH x.1 x.2 (St.new N)) rfl;(·(repeat (first|exact eN|(apply eS;(·(first|exact eT rfl|exact eC|exact eG rfl|exact eL rfl|exact eLL rfl|exact eLLL rfl|exact eF|exact eGl))))));(·exact fun w' hh => (fun _ : Rep => new_c (by omega) (by omega)) Da0);(intro x_ hx_ hf_;obtain ⟨gb, Db0⟩ := x_;obtain ⟨hDb0, hgb⟩ := hx_.mono hf_;simp only at hDb0 hgb ⊢))
    | (apply spl_callh (HH:=fun x : Nat × Rep => DH x.1 x.2 (St.new N)) rfl;(·(repeat (first|exact eN|(apply eS;(·(first|exact eT rfl|exact eC|exact eG rfl|exact eL rfl|exact eLL rfl|exact eLLL rfl|exact eF|exact eGl))))));(·exact fun w' hh => new_c (by omega) (by omega));(intro x_ hx_ hf_;obtain ⟨ga, Da0⟩ := x_;obtain ⟨hDa0, hga⟩ := hx_.mono hf_;simp only at hDa0 hga ⊢))
    | (apply spl_callp rfl;(·(repeat (first|exact eN|(apply eS;(·(first|exact eT rfl|exact eC|exact eG rfl|exact eL rfl|exact eLL rfl|exact eLLL rfl|exact eF|exact eGl))))));(·exact fun w' hh => ok_t (hL1.hp' hh) hok1))
    | apply then_n|apply block_n|apply sp_seq|apply sp_region|apply spl_nil|apply then_r|apply block_r|apply then_e|apply block_here|apply block_past rfl
    | ((first|apply sp_cond_t|apply sp_cond_f);(·(first|exact eT rfl|exact eC|exact eG rfl|exact eL rfl|exact eLL rfl|exact eLLL rfl|exact eF|exact eGl));(·(first|exact decide_eq_true (by omega)|exact decide_eq_false (by omega)|assumption|rfl)))
    | (apply sp_cond_f;(·(first|exact eT rfl|exact eC|exact eG rfl|exact eL rfl|exact eLL rfl|exact eLLL rfl|exact eF|exact eGl));(·(first|exact decide_eq_false (by omega)|assumption|rfl)))
    | apply sp_skip|apply sp_ret|apply sp_exit|apply sp_block
    | ((first|apply spl_pure rfl|(apply spl_pure_g rfl;(·(first|exact Gd.none|exact Gd.tt rfl rfl|exact Gd.tf rfl rfl|exact Gd.gt rfl rfl|exact Gd.gf rfl rfl))));(·(first|((first|apply ex_move|apply ex_assign|apply ex_not|apply ex_lss|apply ex_sneq|apply ex_len|apply ex_andT)<;>(first|exact eT rfl|exact eC|exact eG rfl|exact eL rfl|exact eLL rfl|exact eLLL rfl|exact eF|exact eGl))|((first|apply ex_neq|apply ex_slen|apply ex_orT|apply ex_slss)<;>(first|exact eT rfl|exact eC|exact eG rfl|exact eL rfl|exact eLL rfl|exact eLLL rfl|exact eF|exact eGl))|((first|apply ex_bneq|apply ex_and)<;>(first|exact eT rfl|exact eC|exact eG rfl|exact eL rfl|exact eLL rfl|exact eLLL rfl|exact eF|exact eGl))|((first|apply ex_or|apply ex_pneq)<;>(first|exact eT rfl|exact eC|exact eG rfl|exact eL rfl|exact eLL rfl|exact eLLL rfl|exact eF|exact eGl))|(apply ex_addn<;>(first|exact eT rfl|exact eC|exact eG rfl|exact eL rfl|exact eLL rfl|exact eLLL rfl|exact eF|exact eGl|(constructor<;>omega)))|(apply ex_add<;>(first|exact eT rfl|exact eC|exact eG rfl|exact eL rfl|exact eLL rfl|exact eLLL rfl|exact eF|exact eGl))|((first|apply ex_loadown|apply ex_extract|apply ex_indexAddr)<;>(first|exact eT rfl|exact eC|exact eG rfl|exact eL rfl|exact eLL rfl|exact eLLL rfl|exact eF|exact eGl|exact Bk.own InH.mem|exact Bk.old (by assumption) (Nat.le_refl _)|rfl|assumption|omega))|((first|apply ex_loadowns|apply ex_indexAddrI)<;>(first|exact eT rfl|exact eC|exact eG rfl|exact eL rfl|exact eLL rfl|exact eLLL rfl|exact eF|exact eGl|exact Bk.own InH.mem|exact Bk.old (by assumption) (Nat.le_refl _)|(first|rfl|assumption)|(constructor<;>omega))))))
    | (apply spl_guard_t;(·(first|exact Gd.none|exact Gd.tt rfl rfl|exact Gd.tf rfl rfl|exact Gd.gt rfl rfl|exact Gd.gf rfl rfl));(·rfl))|(apply spl_guard_f;(·(first|exact Gd.none|exact Gd.tt rfl rfl|exact Gd.tf rfl rfl|exact Gd.gt rfl rfl|exact Gd.gf rfl rfl));(·rfl);(·rfl)))
  refine sp_loop (X := Nat × Rep × Rep) (fun x => [(13, true, .int .i64 (x.1 : Int)), (11, true, .pointer (some ⟨ga, 0, none⟩)), (12, true, .pointer (some ⟨gb, 0, none⟩)), (10, true, .int .i64 (N : Int)), (9, true, .bool true), (1, true, .slice A1 n1 c1), (2, true, .int .i64 b), (3, true, .int .i64 m)]) (fun _ => w) (fun x => DH ga x.2.1 ((St.new N).run (l1.take x.1)) ++ (DH gb x.2.2 ((St.new N).run (l1.take x.1)) ++ []))
    (fun x => x.1 ≤ n1 ∧ x.2.1.ok ((St.new N).run (l1.take x.1)) w.heap.size ∧ x.2.2.ok ((St.new N).run (l1.take x.1)) w.heap.size) (fun x => n1 - x.1) (0, Da0, Db0) ⟨Nat.zero_le _, hDa0, hDb0⟩ (by (repeat (first|exact ESub.nil|apply ESub.cons rfl))) rfl (by (repeat (first|exact HKeep.refl|apply HKeep.keep|(apply HKeep.app;(·(repeat (first|exact Split.here|exact Split.all|apply Split.cons|apply Split.app))))|(apply HKeep.pick;(·(repeat (first|exact Rem.here|apply Rem.there|apply Rem.app))))|apply HKeep.drop (by first|assumption|omega)|apply HKeep.dropA (by assumption)))) ?_
  rintro ⟨k, D1, E1⟩ ⟨hk, hD1, hE1⟩
  simp only at hk hD1 hE1 ⊢
  by_cases hlt : k < n1
  · obtain ⟨ad, x, hA1, hb, hx1, hsz, hc⟩ := hL1.at_ hlt
    have hq := run_q (St.new N) (l1.take k)
    have hqt : (l1.take k).length ≤ 60 := by rw [List.length_take]; omega
    have hq0 : (St.new N).q.length = 0 := rfl
    have hm := List.mem_of_getElem? hx1
    have hstep : (St.new N).run (l1.take (k + 1)) = (((St.new N).run (l1.take k)).act x).1 := by rw [take_succ hx1, run_snoc]
    generalize (St.new N).run (l1.take k) = S at *
    repeat (first
      | (apply sp_cond_t;(·(first|exact eT rfl|exact eC|exact eG rfl|exact eL rfl|exact eLL rfl|exact eLLL rfl|exact eF|exact eGl));(·(first|(simp;done)|(simp [*];done)|(simp;omega))))|(apply sp_cond_f;(·(first|exact eT rfl|exact eC|exact eG rfl|exact eL rfl|exact eLL rfl|exact eLLL rfl|exact eF|exact eGl));(·(first|(simp;done)|(simp [*];done)|(simp;omega))))
      | (apply spl_callM (A:=DH ga D1 (S)) rfl;(·(repeat (first|exact eN|(apply eS;(·(first|exact eT rfl|exact eC|exact eG rfl|exact eL rfl|exact eLL rfl|exact eLLL rfl|exact eF|exact eGl))))));(·(repeat (first|exact Split.here|exact Split.all|apply Split.cons|apply Split.app)));(·exact fun w' hh => do_c hga hD1 hh (by omega) x (htx1 x hm) (hF1 x hm));(intro D2 hD2))
      | (apply spl_callM (A:=DH gb E1 (S)) rfl;(·(repeat (first|exact eN|(apply eS;(·(first|exact eT rfl|exact eC|exact eG rfl|exact eL rfl|exact eLL rfl|exact eLLL rfl|exact eF|exact eGl))))));(·(repeat (first|exact Split.here|exact Split.all|apply Split.cons|apply Split.app)));(·exact fun w' hh => do_c hgb hE1 hh (by omega) x (htx1 x hm) (hF1 x hm));(intro E2 hE2))
      | apply then_n|apply block_n|apply sp_seq|apply sp_region|apply spl_nil|apply then_r|apply block_r|apply then_e|apply block_here|apply block_past rfl
      | ((first|apply sp_cond_t|apply sp_cond_f);(·(first|exact eT rfl|exact eC|exact eG rfl|exact eL rfl|exact eLL rfl|exact eLLL rfl|exact eF|exact eGl));(·(first|exact decide_eq_true (by omega)|exact decide_eq_false (by omega)|assumption|rfl)))
      | (apply sp_cond_f;(·(first|exact eT rfl|exact eC|exact eG rfl|exact eL rfl|exact eLL rfl|exact eLLL rfl|exact eF|exact eGl));(·(first|exact decide_eq_false (by omega)|assumption|rfl)))
      | apply sp_skip|apply sp_ret|apply sp_exit|apply sp_block
      | ((first|apply spl_pure rfl|(apply spl_pure_g rfl;(·(first|exact Gd.none|exact Gd.tt rfl rfl|exact Gd.tf rfl rfl|exact Gd.gt rfl rfl|exact Gd.gf rfl rfl))));(·(first|(apply ex_loadelem;(·(first|exact eT rfl|exact eC|exact eG rfl|exact eL rfl|exact eLL rfl|exact eLLL rfl|exact eF|exact eGl));(·exact hL1);(·exact hA1);(·exact hx1))|((first|apply ex_move|apply ex_assign|apply ex_not|apply ex_lss|apply ex_sneq|apply ex_len|apply ex_andT)<;>(first|exact eT rfl|exact eC|exact eG rfl|exact eL rfl|exact eLL rfl|exact eLLL rfl|exact eF|exact eGl))|((first|apply ex_neq|apply ex_slen|apply ex_orT|apply ex_slss)<;>(first|exact eT rfl|exact eC|exact eG rfl|exact eL rfl|exact eLL rfl|exact eLLL rfl|exact eF|exact eGl))|((first|apply ex_bneq|apply ex_and)<;>(first|exact eT rfl|exact eC|exact eG rfl|exact eL rfl|exact eLL rfl|exact eLLL rfl|exact eF|exact eGl))|((first|apply ex_or|apply ex_pneq)<;>(first|exact eT rfl|exact eC|exact eG rfl|exact eL rfl|exact eLL rfl|exact eLLL rfl|exact eF|exact eGl))|(apply ex_addn<;>(first|exact eT rfl|exact eC|exact eG rfl|exact eL rfl|exact eLL rfl|exact eLLL rfl|exact eF|exact eGl|(constructor<;>omega)))|(apply ex_add<;>(first|exact eT rfl|exact eC|exact eG rfl|exact eL rfl|exact eLL rfl|exact eLLL rfl|exact eF|exact eGl))|((first|apply ex_loadown|apply ex_extract|apply ex_indexAddr)<;>(first|exact eT rfl|exact eC|exact eG rfl|exact eL rfl|exact eLL rfl|exact eLLL rfl|exact eF|exact eGl|exact Bk.own InH.mem|exact Bk.old (by assumption) (Nat.le_refl _)|rfl|assumption|omega))|((first|apply ex_loadowns|apply ex_indexAddrI)<;>(first|exact eT rfl|exact eC|exact eG rfl|exact eL rfl|exact eLL rfl|exact eLLL rfl|exact eF|exact eGl|exact Bk.own InH.mem|exact Bk.old (by assumption) (Nat.le_refl _)|(first|rfl|assumption)|(constructor<;>omega))))))
      | (apply spl_guard_t;(·(first|exact Gd.none|exact Gd.tt rfl rfl|exact Gd.tf rfl rfl|exact Gd.gt rfl rfl|exact Gd.gf rfl rfl));(·rfl))|(apply spl_guard_f;(·(first|exact Gd.none|exact Gd.tt rfl rfl|exact Gd.tf rfl rfl|exact Gd.gt rfl rfl|exact Gd.gf rfl rfl));(·rfl);(·rfl)))
    exact ⟨(k + 1, D2, E2), ⟨by omega, by rw [hstep]; exact hD2, by rw [hstep]; exact hE2⟩, by simp only; omega, (by (repeat (first|exact ESub.nil|apply ESub.cons rfl))), rfl, by simp only [hstep]; (repeat (first|exact HKeep.refl|apply HKeep.keep|(apply HKeep.app;(·(repeat (first|exact Split.here|exact Split.all|apply Split.cons|apply Split.app))))|(apply HKeep.pick;(·(repeat (first|exact Rem.here|apply Rem.there|apply Rem.app))))|apply HKeep.drop (by first|assumption|omega)|apply HKeep.dropA (by assumption)))⟩
  have hkn : k = n1 := by omega
  have hrun : l1.take k = l1 := List.take_of_length_le (by omega)
  rw [hrun] at hD1 hE1 ⊢
  have hSl := run_len (St.new N) l1
  have hSi := run_inv (Inv.new hN0 (by omega)) l1
  have hSq := run_q (St.new N) l1
  have hSN : (St.new N).st.length = N := by simp [St.new]
  have hSq0 : (St.new N).q.length = 0 := rfl
  rw [hSN] at hSl
  generalize (St.new N).run l1 = S at hD1 hE1 hSl hSi hSq ⊢
  have hOn := on_start S
  have hl1 : S.start.st.length = N := hSl
  have hq1 : S.start.q.length ≤ 60 := by show S.q.length ≤ 60; omega
  have hsy := sync_on hOn
  have hfa := fail_all hOn hq1 b
  have hfb := fail_noq (on_settled hOn) rfl b
  have hst : S.start.settled.st = settleP S.start.q S.start.st := rfl
  rw [hst] at hfb
  have hls : (settleP S.start.q S.start.st).length = N := (length_settleP _ _).trans hl1
  have hoff := fail_off (S := ⟨settleP S.start.q S.start.st, [], true, none⟩) rfl m b
  have hss := fun (R : Heap) (w' : World) (g : Nat) (D' : Rep) (hg : w.heap.size ≤ g) (hD' : D'.ok S w.heap.size) (hh : Hp w.heap.size w (DH g D' S ++ R) w') => start_e hg hD' rfl hh
  generalize S.start.settled = S2 at *
  generalize S.start = S1 at *
  generalize settleP S1.q S1.st = st at *
  have hT : (⟨st, [], true, none⟩ : St).start = ⟨st, [], false, none⟩ := rfl
  have hT2 : (⟨st, [], false, none⟩ : St).start = ⟨st, [], false, none⟩ := rfl
  generalize hF : (⟨st, [], true, none⟩ : St) = F at *
  have hTo : (⟨st, [], false, none⟩ : St).off = false := rfl
  have hTl : (⟨st, [], false, none⟩ : St).st.length = N := hls
  generalize (⟨st, [], false, none⟩ : St) = T at *
  repeat (first
    | (apply sp_cond_t;(·(first|exact eT rfl|exact eC|exact eG rfl|exact eL rfl|exact eLL rfl|exact eLLL rfl|exact eF|exact eGl));(·(first|(simp;done)|(simp [*];done)|(simp;omega))))|(apply sp_cond_f;(·(first|exact eT rfl|exact eC|exact eG rfl|exact eL rfl|exact eLL rfl|exact eLLL rfl|exact eF|exact eGl));(·(first|(simp;done)|(simp [*];done)|(simp;omega))))
    | (apply spl_callM (A:=DH ga D1 (S)) rfl;(·(repeat (first|exact eN|(apply eS;(·(first|exact eT rfl|exact eC|exact eG rfl|exact eL rfl|exact eLL rfl|exact eLLL rfl|exact eF|exact eGl))))));(·(repeat (first|exact Split.here|exact Split.all|apply Split.cons|apply Split.app)));(·exact fun w' hh => hss _ _ _ _ hga hD1 hh);(intro D2 hD2))
    | (apply spl_callM (A:=DH gb E1 (S)) rfl;(·(repeat (first|exact eN|(apply eS;(·(first|exact eT rfl|exact eC|exact eG rfl|exact eL rfl|exact eLL rfl|exact eLLL rfl|exact eF|exact eGl))))));(·(repeat (first|exact Split.here|exact Split.all|apply Split.cons|apply Split.app)));(·exact fun w' hh => hss _ _ _ _ hgb hE1 hh);(intro E2 hE2))
    | (apply spl_callM (A:=DH ga D2 (S1)) rfl;(·(repeat (first|exact eN|(apply eS;(·(first|exact eT rfl|exact eC|exact eG rfl|exact eL rfl|exact eLL rfl|exact eLLL rfl|exact eF|exact eGl))))));(·(repeat (first|exact Split.here|exact Split.all|apply Split.cons|apply Split.app)));(·exact fun w' hh => fail_e hga hD2 hfa hh);(intro D3 hD3))
    | (apply spl_callM (A:=DH ga D3 (F)) rfl;(·(repeat (first|exact eN|(apply eS;(·(first|exact eT rfl|exact eC|exact eG rfl|exact eL rfl|exact eLL rfl|exact eLLL rfl|exact eF|exact eGl))))));(·(repeat (first|exact Split.here|exact Split.all|apply Split.cons|apply Split.app)));(·exact fun w' hh => fail_e hga hD3 hoff hh);(intro D4 hD4))
    | (apply spl_callM (A:=DH gb E2 (S1)) rfl;(·(repeat (first|exact eN|(apply eS;(·(first|exact eT rfl|exact eC|exact eG rfl|exact eL rfl|exact eLL rfl|exact eLLL rfl|exact eF|exact eGl))))));(·(repeat (first|exact Split.here|exact Split.all|apply Split.cons|apply Split.app)));(·exact fun w' hh => sync_e hgb hE2 hsy hh);(intro E3 hE3))
    | (apply spl_callM (A:=DH gb E3 (S2)) rfl;(·(repeat (first|exact eN|(apply eS;(·(first|exact eT rfl|exact eC|exact eG rfl|exact eL rfl|exact eLL rfl|exact eLLL rfl|exact eF|exact eGl))))));(·(repeat (first|exact Split.here|exact Split.all|apply Split.cons|apply Split.app)));(·exact fun w' hh => fail_e hgb hE3 hfb hh);(intro E4 hE4))
    | (apply spl_callM (A:=DH ga D4 (F)) rfl;(·(repeat (first|exact eN|(apply eS;(·(first|exact eT rfl|exact eC|exact eG rfl|exact eL rfl|exact eLL rfl|exact eLLL rfl|exact eF|exact eGl))))));(·(repeat (first|exact Split.here|exact Split.all|apply Split.cons|apply Split.app)));(·exact fun w' hh => start_e hga hD4 hT hh);(intro D5 hD5))
    | (apply spl_callM (A:=DH gb E4 (F)) rfl;(·(repeat (first|exact eN|(apply eS;(·(first|exact eT rfl|exact eC|exact eG rfl|exact eL rfl|exact eLL rfl|exact eLLL rfl|exact eF|exact eGl))))));(·(repeat (first|exact Split.here|exact Split.all|apply Split.cons|apply Split.app)));(·exact fun w' hh => start_e hgb hE4 hT hh);(intro E5 hE5))
    | (apply spl_callM (A:=DH ga D5 (T)) rfl;(·(repeat (first|exact eN|(apply eS;(·(first|exact eT rfl|exact eC|exact eG rfl|exact eL rfl|exact eLL rfl|exact eLLL rfl|exact eF|exact eGl))))));(·(repeat (first|exact Split.here|exact Split.all|apply Split.cons|apply Split.app)));(·exact fun w' hh => start_e hga hD5 hT2 hh);(intro D6 hD6))
    | (apply spl_callDBH (g:=ga) (D:=D6) (S:=T) rfl;(·(repeat (first|exact eN|(apply eS;(·(first|exact eT rfl|exact eC|exact eG rfl|exact eL rfl|exact eLL rfl|exact eLLL rfl|exact eF|exact eGl))))));(·(repeat (first|exact Split.here|exact Split.all|apply Split.cons|apply Split.app)));(·exact fun w' h => contents_c hD6 h hTo N (hTl).symm);(intro x_ hx_ hf_;obtain ⟨gx, cx, tx⟩ := x_;simp only [List.mem_singleton, forall_eq] at hf_;simp only [List.cons_append, List.nil_append]))
    | (apply spl_callDBH (g:=gb) (D:=E5) (S:=T) rfl;(·(repeat (first|exact eN|(apply eS;(·(first|exact eT rfl|exact eC|exact eG rfl|exact eL rfl|exact eLL rfl|exact eLLL rfl|exact eF|exact eGl))))));(·(repeat (first|exact Split.here|exact Split.all|apply Split.cons|apply Split.app)));(·exact fun w' h => contents_c hE5 h hTo N (hTl).symm);(intro x_ hx_ hf_;obtain ⟨gy, cy, ty⟩ := x_;simp only [List.mem_singleton, forall_eq] at hf_;simp only [List.cons_append, List.nil_append]))
    | (apply spl_callp rfl;(·(repeat (first|exact eN|(apply eS;(·(first|exact eT rfl|exact eC|exact eG rfl|exact eL rfl|exact eLL rfl|exact eLLL rfl|exact eF|exact eGl))))));(·exact fun w' hh => same_t (RdS.ofRow hh.ownI hh.ltI (all_len _ _) (by omega) (fun _ _ => rfl)) (RdS.ofRow hh.ownI hh.ltI (all_len _ _) (by omega) (fun _ _ => rfl)) rfl))
    | apply then_n|apply block_n|apply sp_seq|apply sp_region|apply spl_nil|apply then_r|apply block_r|apply then_e|apply block_here|apply block_past rfl
    | ((first|apply sp_cond_t|apply sp_cond_f);(·(first|exact eT rfl|exact eC|exact eG rfl|exact eL rfl|exact eLL rfl|exact eLLL rfl|exact eF|exact eGl));(·(first|exact decide_eq_true (by omega)|exact decide_eq_false (by omega)|assumption|rfl)))
    | (apply sp_cond_f;(·(first|exact eT rfl|exact eC|exact eG rfl|exact eL rfl|exact eLL rfl|exact eLLL rfl|exact eF|exact eGl));(·(first|exact decide_eq_false (by omega)|assumption|rfl)))
    | apply sp_skip|apply sp_ret|apply sp_exit|apply sp_block
    | ((first|apply spl_pure rfl|(apply spl_pure_g rfl;(·(first|exact Gd.none|exact Gd.tt rfl rfl|exact Gd.tf rfl rfl|exact Gd.gt rfl rfl|exact Gd.gf rfl rfl))));(·(first|((first|apply ex_move|apply ex_assign|apply ex_not|apply ex_lss|apply ex_sneq|apply ex_len|apply ex_andT)<;>(first|exact eT rfl|exact eC|exact eG rfl|exact eL rfl|exact eLL rfl|exact eLLL rfl|exact eF|exact eGl))|((first|apply ex_neq|apply ex_slen|apply ex_orT|apply ex_slss)<;>(first|exact eT rfl|exact eC|exact eG rfl|exact eL rfl|exact eLL rfl|exact eLLL rfl|exact eF|exact eGl))|((first|apply ex_bneq|apply ex_and)<;>(first|exact eT rfl|exact eC|exact eG rfl|exact eL rfl|exact eLL rfl|exact eLLL rfl|exact eF|exact eGl))|((first|apply ex_or|apply ex_pneq)<;>(first|exact eT rfl|exact eC|exact eG rfl|exact eL rfl|exact eLL rfl|exact eLLL rfl|exact eF|exact eGl))|(apply ex_addn<;>(first|exact eT rfl|exact eC|exact eG rfl|exact eL rfl|exact eLL rfl|exact eLLL rfl|exact eF|exact eGl|(constructor<;>omega)))|(apply ex_add<;>(first|exact eT rfl|exact eC|exact eG rfl|exact eL rfl|exact eLL rfl|exact eLLL rfl|exact eF|exact eGl))|((first|apply ex_loadown|apply ex_extract|apply ex_indexAddr)<;>(first|exact eT rfl|exact eC|exact eG rfl|exact eL rfl|exact eLL rfl|exact eLLL rfl|exact eF|exact eGl|exact Bk.own InH.mem|exact Bk.old (by assumption) (Nat.le_refl _)|rfl|assumption|omega))|((first|apply ex_loadowns|apply ex_indexAddrI)<;>(first|exact eT rfl|exact eC|exact eG rfl|exact eL rfl|exact eLL rfl|exact eLLL rfl|exact eF|exact eGl|exact Bk.own InH.mem|exact Bk.old (by assumption) (Nat.le_refl _)|(first|rfl|assumption)|(constructor<;>omega))))))
    | (apply spl_guard_t;(·(first|exact Gd.none|exact Gd.tt rfl rfl|exact Gd.tf rfl rfl|exact Gd.gt rfl rfl|exact Gd.gf rfl rfl));(·rfl))|(apply spl_guard_f;(·(first|exact Gd.none|exact Gd.tt rfl rfl|exact Gd.tf rfl rfl|exact Gd.gt rfl rfl|exact Gd.gf rfl rfl));(·rfl);(·rfl)))
  (apply ret_ok rfl;(·(first|(apply Res.ofOne;(first|(apply Res1.tmp;(·rfl))|(apply Res1.cell;(·rfl);(·exact InH.mem);(·(first|rfl|assumption)))|(apply Res1.cell1;(·rfl);(·exact InH.mem);(·rfl))))|(apply Res.ofTwo<;>(first|(apply Res1.tmp;(·rfl))|(apply Res1.cell;(·rfl);(·exact InH.mem);(·(first|rfl|assumption)))|(apply Res1.cell1;(·rfl);(·exact InH.mem);(·rfl))))|(apply Res.ofThree<;>(first|(apply Res1.tmp;(·rfl))|(apply Res1.cell;(·rfl);(·exact InH.mem);(·(first|rfl|assumption)))|(apply Res1.cell1;(·rfl);(·exact InH.mem);(·rfl))))|exact Res.none_))); rfl
end Go.Proofs.Ytmlodiiijicghaa
