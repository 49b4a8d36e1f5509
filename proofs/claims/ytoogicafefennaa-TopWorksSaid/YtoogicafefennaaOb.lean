/-
  Contracts: hoursOf, Length (package shop), slices.Max.
-/
import Derived.Test.YtoogicafefennaaOa
import Derived.Test.YtoogicafefennaaNr
namespace Go.Proofs.Ytoogicafefennaa
open Go.RowKit Go.Sy
set_option linter.unusedVariables false
set_option linter.unusedSimpArgs false
theorem RdS.nat_int {w : World} {Be : Nat} {A : Option Addr} {n : Nat} {xs : List Nat} (h : RdS w Be 1 natC A n xs) : RdS w Be 1 intC A n (xs.map fun i : Nat => (i : Int)) :=
  ⟨by rw [List.length_map]; exact h.len, h.bound, fun i x hx => by
    rw [List.getElem?_map] at hx
    cases hq : xs[i]? with
    | none => rw [hq] at hx; cases hx
    | some y => rw [hq] at hx; cases hx; exact h.elems i y hq⟩
def oddH (n : Int) : Bool := decide (n < 0) || decide (9999999 < n)
theorem few_hours {xs : List Nat} (h : ∀ x ∈ xs, x ≤ 9999999) : (xs.map fun i : Nat => (i : Int)).any oddH = false := by
  rw [List.any_eq_false]
  intro k hk
  obtain ⟨i, hi, rfl⟩ := List.mem_map.1 hk
  have := h i hi
  unfold oddH
  rw [decide_eq_false (by omega), decide_eq_false (by omega)]
  simp
def xN (xs : List Nat) (j : Nat) : Nat := xs.getD j 0
theorem xN_at {xs : List Nat} {j x : Nat} (h : xs[j]? = some x) : xN xs j = x := by unfold xN; rw [List.getD_eq_getElem?_getD, h]; rfl
attribute [local irreducible] Calls thenQ blockQ retQ jumpQ Spc Spl Spq Ex Ev Evs Gd Upd ESub HKeep Res Res1 wlk effQ Rem SrcAt Split mk stC
set_option maxRecDepth 100000 in
theorem oddH_c {w : World} {k : Int} : Calls Try.prog 64 #[.int .i64 k] w (Ret w (.bool (oddH k))) := by
  refine sp_enter (vs := [_]) Try.func64 rfl Try.ntmps64 rfl ?_
  repeat (first
    | apply then_n|apply block_n|apply sp_seq|apply sp_region|apply spl_nil|apply then_r|apply block_r|apply then_e|apply block_here|apply block_past rfl
    | ((first|apply sp_cond_t|apply sp_cond_f);(·(first|exact eT rfl|exact eC|exact eG rfl|exact eL rfl|exact eLL rfl|exact eLLL rfl|exact eF|exact eGl));(·(first|exact decide_eq_true (by omega)|exact decide_eq_false (by omega)|assumption|rfl)))
    | (apply sp_cond_f;(·(first|exact eT rfl|exact eC|exact eG rfl|exact eL rfl|exact eLL rfl|exact eLLL rfl|exact eF|exact eGl));(·(first|exact decide_eq_false (by omega)|assumption|rfl)))
    | apply sp_skip|apply sp_ret|apply sp_exit|apply sp_block
    | ((first|apply spl_pure rfl|(apply spl_pure_g rfl;(·(first|exact Gd.none|exact Gd.tt rfl rfl|exact Gd.tf rfl rfl|exact Gd.gt rfl rfl|exact Gd.gf rfl rfl))));(·(first|((first|apply ex_move|apply ex_assign|apply ex_lss|apply ex_gtr|apply ex_andT)<;>(first|exact eT rfl|exact eC|exact eG rfl|exact eL rfl|exact eLL rfl|exact eLLL rfl|exact eF|exact eGl))|((first|apply ex_orT|apply ex_slss)<;>(first|exact eT rfl|exact eC|exact eG rfl|exact eL rfl|exact eLL rfl|exact eLLL rfl|exact eF|exact eGl))|(apply ex_and<;>(first|exact eT rfl|exact eC|exact eG rfl|exact eL rfl|exact eLL rfl|exact eLLL rfl|exact eF|exact eGl))|(apply ex_or<;>(first|exact eT rfl|exact eC|exact eG rfl|exact eL rfl|exact eLL rfl|exact eLLL rfl|exact eF|exact eGl)))))
    | (apply spl_guard_t;(·(first|exact Gd.none|exact Gd.tt rfl rfl|exact Gd.tf rfl rfl|exact Gd.gt rfl rfl|exact Gd.gf rfl rfl));(·rfl))|(apply spl_guard_f;(·(first|exact Gd.none|exact Gd.tt rfl rfl|exact Gd.tf rfl rfl|exact Gd.gt rfl rfl|exact Gd.gf rfl rfl));(·rfl);(·rfl)))
  (apply ret_ok rfl;(·(first|(apply Res.ofOne;(first|(apply Res1.tmp;(·rfl))|(apply Res1.cell;(·rfl);(·exact InH.mem);(·(first|rfl|assumption)))|(apply Res1.cell1;(·rfl);(·exact InH.mem);(·rfl))))|(apply Res.ofTwo<;>(first|(apply Res1.tmp;(·rfl))|(apply Res1.cell;(·rfl);(·exact InH.mem);(·(first|rfl|assumption)))|(apply Res1.cell1;(·rfl);(·exact InH.mem);(·rfl))))|(apply Res.ofThree<;>(first|(apply Res1.tmp;(·rfl))|(apply Res1.cell;(·rfl);(·exact InH.mem);(·(first|rfl|assumption)))|(apply Res1.cell1;(·rfl);(·exact InH.mem);(·rfl))))|exact Res.none_))); rfl
set_option maxRecDepth 100000 in
set_option maxHeartbeats 4000000 in
theorem hoursOf_c {w : World} {A B : Option Addr} {n c m d : Nat} {xs : List Nat} (h : RdS w w.heap.size 1 natC B n xs) (hx : ∀ x ∈ xs, x ≤ 9999999) :
    Calls Try.prog 35 #[.slice A n c, .slice B n d] w (Ret w (.bool true)) := by
  have hany := few_hours hx
  have hI := RdS.nat_int h
  have he : decide ((n : Int) = (n : Int)) = true := by simp
  refine sp_enter (vs := [_, _]) Try.func35 rfl Try.ntmps35 rfl ?_
  repeat (first
    | (apply spl_callp_g rfl;(·(first|exact Gd.none|exact Gd.tt rfl rfl|exact Gd.tf rfl rfl|exact Gd.gt rfl rfl|exact Gd.gf rfl rfl));(·(repeat (first|exact eN|(apply eS;(·(first|exact eT rfl|exact eC|exact eG rfl|exact eL rfl|exact eLL rfl|exact eLLL rfl|exact eF|exact eGl))))));(·exact fun _ w' hh => anyf_c (p := oddH) (cap := []) (hI.hp' hh) (fun w2 hb k hm => oddH_c)))
    | apply then_n|apply block_n|apply sp_seq|apply sp_region|apply spl_nil|apply then_r|apply block_r|apply then_e|apply block_here|apply block_past rfl
    | ((first|apply sp_cond_t|apply sp_cond_f);(·(first|exact eT rfl|exact eC|exact eG rfl|exact eL rfl|exact eLL rfl|exact eLLL rfl|exact eF|exact eGl));(·(first|exact decide_eq_true (by omega)|exact decide_eq_false (by omega)|assumption|rfl)))
    | (apply sp_cond_f;(·(first|exact eT rfl|exact eC|exact eG rfl|exact eL rfl|exact eLL rfl|exact eLLL rfl|exact eF|exact eGl));(·(first|exact decide_eq_false (by omega)|assumption|rfl)))
    | apply sp_skip|apply sp_ret|apply sp_exit|apply sp_block
    | ((first|apply spl_pure rfl|(apply spl_pure_g rfl;(·(first|exact Gd.none|exact Gd.tt rfl rfl|exact Gd.tf rfl rfl|exact Gd.gt rfl rfl|exact Gd.gf rfl rfl))));(·(first|((first|apply ex_move|apply ex_assign|apply ex_not|apply ex_seql|apply ex_len|apply ex_andT)<;>(first|exact eT rfl|exact eC|exact eG rfl|exact eL rfl|exact eLL rfl|exact eLLL rfl|exact eF|exact eGl))|((first|apply ex_eql|apply ex_slen|apply ex_orT)<;>(first|exact eT rfl|exact eC|exact eG rfl|exact eL rfl|exact eLL rfl|exact eLLL rfl|exact eF|exact eGl))|((first|apply ex_beql|apply ex_and)<;>(first|exact eT rfl|exact eC|exact eG rfl|exact eL rfl|exact eLL rfl|exact eLLL rfl|exact eF|exact eGl))|((first|apply ex_or|apply ex_peql)<;>(first|exact eT rfl|exact eC|exact eG rfl|exact eL rfl|exact eLL rfl|exact eLLL rfl|exact eF|exact eGl)))))
    | (apply spl_guard_t;(·(first|exact Gd.none|exact Gd.tt rfl rfl|exact Gd.tf rfl rfl|exact Gd.gt rfl rfl|exact Gd.gf rfl rfl));(·rfl))|(apply spl_guard_f;(·(first|exact Gd.none|exact Gd.tt rfl rfl|exact Gd.tf rfl rfl|exact Gd.gt rfl rfl|exact Gd.gf rfl rfl));(·rfl);(·rfl)))
  (apply ret_ok rfl;(·(first|(apply Res.ofOne;(first|(apply Res1.tmp;(·rfl))|(apply Res1.cell;(·rfl);(·exact InH.mem);(·(first|rfl|assumption)))|(apply Res1.cell1;(·rfl);(·exact InH.mem);(·rfl))))|(apply Res.ofTwo<;>(first|(apply Res1.tmp;(·rfl))|(apply Res1.cell;(·rfl);(·exact InH.mem);(·(first|rfl|assumption)))|(apply Res1.cell1;(·rfl);(·exact InH.mem);(·rfl))))|(apply Res.ofThree<;>(first|(apply Res1.tmp;(·rfl))|(apply Res1.cell;(·rfl);(·exact InH.mem);(·(first|rfl|assumption)))|(apply Res1.cell1;(·rfl);(·exact InH.mem);(·rfl))))|exact Res.none_))); rw [hany, he]; rfl
set_option maxRecDepth 100000 in
set_option maxHeartbeats 4000000 in
theorem length_c {w : World} {s : Sl} {B : Option Addr} {d : Nat} {l : List TaskR} {xs : List Nat} (h : RdTasks w w.heap.size s l) (hs : RdS w w.heap.size 1 natC B s.n xs) (hok : tasksOk l = true) (hx : ∀ x ∈ xs, x ≤ 9999999) :
    Calls Try.prog 14 #[.slice s.a s.n s.c, .slice B s.n d] w (RetP w (fun m : Nat => .tuple #[.int .i64 (m : Int), .int .i64 0]) (fun m => ∀ i < l.length, xN xs i + hN l i ≤ m)) := by
  have hT := h
  obtain ⟨A, n, c⟩ := s
  obtain ⟨h, h2⟩ := h
  dsimp only at h hs
  have hbd : n ≤ 9223372036854775807 := h.bound
  have hlen : l.length = n := h.len
  have hlen' : xs.length = n := hs.len
  have hval := fun w' (hh : Hp w.heap.size w [] w') => hok ▸ valid_c (hT.hp hh)
  obtain ⟨hsm, hV⟩ := tasksOk_V hok
  show Calls _ _ #[.slice A n c, .slice B n d] _ _
  refine sp_enter (vs := [_, _]) Try.func14 rfl Try.ntmps14 rfl ?_
  repeat (first
    | (apply sp_cond_f;(·(first|exact eT rfl|exact eC|exact eG rfl|exact eL rfl|exact eLL rfl|exact eLLL rfl|exact eF|exact eGl));(·rfl))
    | (apply spl_callp rfl;(·(repeat (first|exact eN|(apply eS;(·(first|exact eT rfl|exact eC|exact eG rfl|exact eL rfl|exact eLL rfl|exact eLLL rfl|exact eF|exact eGl))))));(·exact hval))
    | (apply spl_callp_g rfl;(·(first|exact Gd.none|exact Gd.tt rfl rfl|exact Gd.tf rfl rfl|exact Gd.gt rfl rfl|exact Gd.gf rfl rfl));(·(repeat (first|exact eN|(apply eS;(·(first|exact eT rfl|exact eC|exact eG rfl|exact eL rfl|exact eLL rfl|exact eLLL rfl|exact eF|exact eGl))))));(·exact fun _ w' hh => hoursOf_c (m := 0) (hs.hp' hh) hx))
    | apply then_n|apply block_n|apply sp_seq|apply sp_region|apply spl_nil|apply then_r|apply block_r|apply then_e|apply block_here|apply block_past rfl
    | ((first|apply sp_cond_t|apply sp_cond_f);(·(first|exact eT rfl|exact eC|exact eG rfl|exact eL rfl|exact eLL rfl|exact eLLL rfl|exact eF|exact eGl));(·(first|exact decide_eq_true (by omega)|exact decide_eq_false (by omega)|assumption|rfl)))
    | (apply sp_cond_f;(·(first|exact eT rfl|exact eC|exact eG rfl|exact eL rfl|exact eLL rfl|exact eLLL rfl|exact eF|exact eGl));(·(first|exact decide_eq_false (by omega)|assumption|rfl)))
    | apply sp_skip|apply sp_ret|apply sp_exit|apply sp_block
    | ((first|apply spl_pure rfl|apply spq_pure rfl|(apply spl_pure_g rfl;(·(first|exact Gd.none|exact Gd.tt rfl rfl|exact Gd.tf rfl rfl|exact Gd.gt rfl rfl|exact Gd.gf rfl rfl)))|(apply spq_pure_g rfl;(·(first|exact Gd.none|exact Gd.tt rfl rfl|exact Gd.tf rfl rfl|exact Gd.gt rfl rfl|exact Gd.gf rfl rfl)))|apply wlk_read rfl rfl|(apply wlk_read_g rfl rfl;(·(first|exact Gd.none|exact Gd.tt rfl rfl|exact Gd.tf rfl rfl|exact Gd.gt rfl rfl|exact Gd.gf rfl rfl))));(·(first|((first|apply ex_move|apply ex_assign|apply ex_fieldAddr'|apply ex_not|apply ex_lss|apply ex_len|apply ex_andT|apply ex_max)<;>(first|exact eT rfl|exact eC|exact eG rfl|exact eL rfl|exact eLL rfl|exact eLLL rfl|exact eF|exact eGl))|((first|apply ex_fieldAddr|apply ex_slen|apply ex_orT|apply ex_slss)<;>(first|exact eT rfl|exact eC|exact eG rfl|exact eL rfl|exact eLL rfl|exact eLLL rfl|exact eF|exact eGl))|(apply ex_and<;>(first|exact eT rfl|exact eC|exact eG rfl|exact eL rfl|exact eLL rfl|exact eLLL rfl|exact eF|exact eGl))|(apply ex_or<;>(first|exact eT rfl|exact eC|exact eG rfl|exact eL rfl|exact eLL rfl|exact eLLL rfl|exact eF|exact eGl))|(apply ex_addn<;>(first|exact eT rfl|exact eC|exact eG rfl|exact eL rfl|exact eLL rfl|exact eLLL rfl|exact eF|exact eGl|(constructor<;>omega)))|(apply ex_add<;>(first|exact eT rfl|exact eC|exact eG rfl|exact eL rfl|exact eLL rfl|exact eLLL rfl|exact eF|exact eGl))|((first|apply ex_loadown|apply ex_indexAddr)<;>(first|exact eT rfl|exact eC|exact eG rfl|exact eL rfl|exact eLL rfl|exact eLLL rfl|exact eF|exact eGl|exact Bk.own InH.mem|exact Bk.old (by assumption) (Nat.le_refl _)|rfl|assumption|omega))|((first|apply ex_loadowns|apply ex_indexAddrI)<;>(first|exact eT rfl|exact eC|exact eG rfl|exact eL rfl|exact eLL rfl|exact eLLL rfl|exact eF|exact eGl|exact Bk.own InH.mem|exact Bk.old (by assumption) (Nat.le_refl _)|(first|rfl|assumption)|(constructor<;>omega))))))
    | (apply spl_alloc rfl;intro _ _)
    | (apply spl_store1;(·(first|exact eT rfl|exact eC|exact eG rfl|exact eL rfl|exact eLL rfl|exact eLLL rfl|exact eF|exact eGl));(·(first|exact eT rfl|exact eC|exact eG rfl|exact eL rfl|exact eLL rfl|exact eLLL rfl|exact eF|exact eGl));(·rfl);(·(repeat (first|exact Upd.here|apply Upd.there|apply Upd.app)));(·rfl))
    | (apply spl_stores;(·(first|exact eT rfl|exact eC|exact eG rfl|exact eL rfl|exact eLL rfl|exact eLLL rfl|exact eF|exact eGl));(·(first|exact eT rfl|exact eC|exact eG rfl|exact eL rfl|exact eLL rfl|exact eLLL rfl|exact eF|exact eGl));(·(repeat (first|exact Upd.here|apply Upd.there|apply Upd.app)));(·(first|rfl|assumption));(·(first|rfl|assumption));(·(first|exact Ones.one|assumption|exact ones_of_all rfl|decide|(intro v hv;simp at hv;(repeat (rcases hv with rfl | hv <;> first | rfl | skip));try (subst hv;rfl)))))
    | (apply effq;(·(intro h_;(first|(exact absurd h_ (by decide))|(repeat (first|exact HKeep.refl|apply HKeep.keep|(apply HKeep.app;(·(repeat (first|exact Split.here|exact Split.one|exact Split.all|apply Split.cons|apply Split.app))))|(apply HKeep.pick;(·(repeat (first|exact Rem.here|apply Rem.there|apply Rem.app))))|apply HKeep.drop (by first|assumption|omega)|apply HKeep.dropA (by assumption)))))))|apply wlk_nil|apply wlk_eff rfl
    | (apply spl_guard_t;(·(first|exact Gd.none|exact Gd.tt rfl rfl|exact Gd.tf rfl rfl|exact Gd.gt rfl rfl|exact Gd.gf rfl rfl));(·rfl))|(apply spl_guard_f;(·(first|exact Gd.none|exact Gd.tt rfl rfl|exact Gd.tf rfl rfl|exact Gd.gt rfl rfl|exact Gd.gf rfl rfl));(·rfl);(·rfl)))
  refine sp_loop (X := Nat × Nat) (fun y => [(20, true, .int .i64 (y.1 : Int)), (19, true, .int .i64 (n : Int)), (18, true, .slice A n c), (6, true, .int .i64 (y.2 : Int)), (1, true, .slice B n d), (0, true, .slice A n c)]) (fun _ => w) (fun y => [])
    (fun y => y.1 ≤ n ∧ y.2 ≤ 100000000 ∧ ∀ j < y.1, xN xs j + hN l j ≤ y.2) (fun y => n - y.1) (0, 0) ⟨Nat.zero_le _, Nat.zero_le _, fun j hj => absurd hj (Nat.not_lt_zero _)⟩ (by (repeat (first|exact ESub.nil|apply ESub.cons rfl))) rfl (by (repeat (first|exact HKeep.refl|apply HKeep.keep|(apply HKeep.app;(·(repeat (first|exact Split.here|exact Split.one|exact Split.all|apply Split.cons|apply Split.app))))|(apply HKeep.pick;(·(repeat (first|exact Rem.here|apply Rem.there|apply Rem.app))))|apply HKeep.drop (by first|assumption|omega)|apply HKeep.dropA (by assumption)))) ?_
  rintro ⟨i, m⟩ ⟨hi, hm, hinv⟩
  replace hi : i ≤ n := hi
  replace hm : m ≤ 100000000 := hm
  replace hinv : ∀ j < i, xN xs j + hN l j ≤ m := hinv
  dsimp only
  by_cases hlt : i < n
  · obtain ⟨ad, t, hA, hb, ht, hsz, hc⟩ := h.at_ hlt
    obtain ⟨ad2, y, hA2, hb2, hy, hsz2, hc2⟩ := hs.at_ hlt
    have hh := (hV t (List.mem_of_getElem? ht)).hours
    have hyb := hx y (List.mem_of_getElem? hy)
    have hxy := xN_at hy
    have hht := hN_at ht
    obtain ⟨m2, hm2⟩ : ∃ m2, m2 = max m (y + t.hours.toNat) := ⟨_, rfl⟩
    have hmax : (if ((y : Int) + t.hours) > (m : Int) then ((y : Int) + t.hours) else (m : Int)) = (m2 : Int) := by
      split <;> omega
    have hadd : (y : Int) + t.hours = (y : Int) + t.hours := rfl
    repeat (first
      | (refine sp_drawn (id := 7) [(0, true), (1, true), (2, true), (3, true), (4, true), (5, true), (6, true), (7, true), (8, true), (9, true)] 10 _ mixed ?_ HKeep.refl ?_;(·kernel_rfl))
      | apply then_n|apply block_n|apply sp_seq|apply sp_region|apply spl_nil|apply then_r|apply block_r|apply then_e|apply block_here|apply block_past rfl
      | ((first|apply sp_cond_t|apply sp_cond_f);(·(first|exact eT rfl|exact eC|exact eG rfl|exact eL rfl|exact eLL rfl|exact eLLL rfl|exact eF|exact eGl));(·(first|exact decide_eq_true (by omega)|exact decide_eq_false (by omega)|assumption|rfl)))
      | (apply sp_cond_f;(·(first|exact eT rfl|exact eC|exact eG rfl|exact eL rfl|exact eLL rfl|exact eLLL rfl|exact eF|exact eGl));(·(first|exact decide_eq_false (by omega)|assumption|rfl)))
      | apply sp_skip|apply sp_ret|apply sp_exit|apply sp_block
      | ((first|apply spl_pure rfl|apply spq_pure rfl|(apply spl_pure_g rfl;(·(first|exact Gd.none|exact Gd.tt rfl rfl|exact Gd.tf rfl rfl|exact Gd.gt rfl rfl|exact Gd.gf rfl rfl)))|(apply spq_pure_g rfl;(·(first|exact Gd.none|exact Gd.tt rfl rfl|exact Gd.tf rfl rfl|exact Gd.gt rfl rfl|exact Gd.gf rfl rfl)))|apply wlk_read rfl rfl|(apply wlk_read_g rfl rfl;(·(first|exact Gd.none|exact Gd.tt rfl rfl|exact Gd.tf rfl rfl|exact Gd.gt rfl rfl|exact Gd.gf rfl rfl))));(·(first|(apply ex_loadelem;(·(first|exact eT rfl|exact eC|exact eG rfl|exact eL rfl|exact eLL rfl|exact eLLL rfl|exact eF|exact eGl));(·exact h);(·exact hA);(·exact ht))|(apply ex_loadfield (ad:=ad2) (i:=i) (k:=0);(·(first|exact eT rfl|exact eC|exact eG rfl|exact eL rfl|exact eLL rfl|exact eLLL rfl|exact eF|exact eGl));(·exact hs);(·exact hA2);(·exact hy);(·rfl))|(apply ex_indexAddr;(·(first|exact eT rfl|exact eC|exact eG rfl|exact eL rfl|exact eLL rfl|exact eLLL rfl|exact eF|exact eGl));(·(first|exact eT rfl|exact eC|exact eG rfl|exact eL rfl|exact eLL rfl|exact eLLL rfl|exact eF|exact eGl));(·exact hA2);(·exact hlt))|(apply ex_addK hadd;(·(first|exact eT rfl|exact eC|exact eG rfl|exact eL rfl|exact eLL rfl|exact eLLL rfl|exact eF|exact eGl));(·(first|exact eT rfl|exact eC|exact eG rfl|exact eL rfl|exact eLL rfl|exact eLLL rfl|exact eF|exact eGl));(·(constructor<;>omega)))|((first|apply ex_move|apply ex_assign|apply ex_fieldAddr'|apply ex_not|apply ex_lss|apply ex_len|apply ex_andT|apply ex_max)<;>(first|exact eT rfl|exact eC|exact eG rfl|exact eL rfl|exact eLL rfl|exact eLLL rfl|exact eF|exact eGl))|((first|apply ex_fieldAddr|apply ex_slen|apply ex_orT|apply ex_slss)<;>(first|exact eT rfl|exact eC|exact eG rfl|exact eL rfl|exact eLL rfl|exact eLLL rfl|exact eF|exact eGl))|(apply ex_and<;>(first|exact eT rfl|exact eC|exact eG rfl|exact eL rfl|exact eLL rfl|exact eLLL rfl|exact eF|exact eGl))|(apply ex_or<;>(first|exact eT rfl|exact eC|exact eG rfl|exact eL rfl|exact eLL rfl|exact eLLL rfl|exact eF|exact eGl))|(apply ex_addn<;>(first|exact eT rfl|exact eC|exact eG rfl|exact eL rfl|exact eLL rfl|exact eLLL rfl|exact eF|exact eGl|(constructor<;>omega)))|(apply ex_add<;>(first|exact eT rfl|exact eC|exact eG rfl|exact eL rfl|exact eLL rfl|exact eLLL rfl|exact eF|exact eGl))|((first|apply ex_loadown|apply ex_indexAddr)<;>(first|exact eT rfl|exact eC|exact eG rfl|exact eL rfl|exact eLL rfl|exact eLLL rfl|exact eF|exact eGl|exact Bk.own InH.mem|exact Bk.old (by assumption) (Nat.le_refl _)|rfl|assumption|omega))|((first|apply ex_loadowns|apply ex_indexAddrI)<;>(first|exact eT rfl|exact eC|exact eG rfl|exact eL rfl|exact eLL rfl|exact eLLL rfl|exact eF|exact eGl|exact Bk.own InH.mem|exact Bk.old (by assumption) (Nat.le_refl _)|(first|rfl|assumption)|(constructor<;>omega))))))
      | (apply spl_alloc rfl;intro _ _)
      | (apply spl_store1;(·(first|exact eT rfl|exact eC|exact eG rfl|exact eL rfl|exact eLL rfl|exact eLLL rfl|exact eF|exact eGl));(·(first|exact eT rfl|exact eC|exact eG rfl|exact eL rfl|exact eLL rfl|exact eLLL rfl|exact eF|exact eGl));(·rfl);(·(repeat (first|exact Upd.here|apply Upd.there|apply Upd.app)));(·rfl))
      | (apply spl_stores;(·(first|exact eT rfl|exact eC|exact eG rfl|exact eL rfl|exact eLL rfl|exact eLLL rfl|exact eF|exact eGl));(·(first|exact eT rfl|exact eC|exact eG rfl|exact eL rfl|exact eLL rfl|exact eLLL rfl|exact eF|exact eGl));(·(repeat (first|exact Upd.here|apply Upd.there|apply Upd.app)));(·(first|rfl|assumption));(·(first|rfl|assumption));(·(first|exact Ones.one|assumption|exact ones_of_all rfl|decide|(intro v hv;simp at hv;(repeat (rcases hv with rfl | hv <;> first | rfl | skip));try (subst hv;rfl)))))
      | (apply effq;(·(intro h_;(first|(exact absurd h_ (by decide))|(repeat (first|exact HKeep.refl|apply HKeep.keep|(apply HKeep.app;(·(repeat (first|exact Split.here|exact Split.one|exact Split.all|apply Split.cons|apply Split.app))))|(apply HKeep.pick;(·(repeat (first|exact Rem.here|apply Rem.there|apply Rem.app))))|apply HKeep.drop (by first|assumption|omega)|apply HKeep.dropA (by assumption)))))))|apply wlk_nil|apply wlk_eff rfl
      | (apply spl_guard_t;(·(first|exact Gd.none|exact Gd.tt rfl rfl|exact Gd.tf rfl rfl|exact Gd.gt rfl rfl|exact Gd.gf rfl rfl));(·rfl))|(apply spl_guard_f;(·(first|exact Gd.none|exact Gd.tt rfl rfl|exact Gd.tf rfl rfl|exact Gd.gt rfl rfl|exact Gd.gf rfl rfl));(·rfl);(·rfl)))
    refine ⟨(i + 1, m2), ⟨hlt, (by show m2 ≤ _; omega), fun j hj => ?_⟩, by (show n - (i + 1) < n - i; omega), (by rw [hmax]; (repeat (first|exact ESub.nil|apply ESub.cons rfl))), rfl, (by (repeat (first|exact HKeep.refl|apply HKeep.keep|(apply HKeep.app;(·(repeat (first|exact Split.here|exact Split.one|exact Split.all|apply Split.cons|apply Split.app))))|(apply HKeep.pick;(·(repeat (first|exact Rem.here|apply Rem.there|apply Rem.app))))|apply HKeep.drop (by first|assumption|omega)|apply HKeep.dropA (by assumption))))⟩
    replace hj : j < i + 1 := hj
    show _ ≤ m2
    rcases Nat.lt_or_ge j i with q | q
    · have := hinv j q; omega
    · obtain rfl : j = i := by omega
      rw [hxy, hht]; omega
  · obtain rfl : i = n := by omega
    repeat (first
      | apply then_n|apply block_n|apply sp_seq|apply sp_region|apply spl_nil|apply then_r|apply block_r|apply then_e|apply block_here|apply block_past rfl
      | ((first|apply sp_cond_t|apply sp_cond_f);(·(first|exact eT rfl|exact eC|exact eG rfl|exact eL rfl|exact eLL rfl|exact eLLL rfl|exact eF|exact eGl));(·(first|exact decide_eq_true (by omega)|exact decide_eq_false (by omega)|assumption|rfl)))
      | (apply sp_cond_f;(·(first|exact eT rfl|exact eC|exact eG rfl|exact eL rfl|exact eLL rfl|exact eLLL rfl|exact eF|exact eGl));(·(first|exact decide_eq_false (by omega)|assumption|rfl)))
      | apply sp_skip|apply sp_ret|apply sp_exit|apply sp_block
      | ((first|apply spl_pure rfl|apply spq_pure rfl|(apply spl_pure_g rfl;(·(first|exact Gd.none|exact Gd.tt rfl rfl|exact Gd.tf rfl rfl|exact Gd.gt rfl rfl|exact Gd.gf rfl rfl)))|(apply spq_pure_g rfl;(·(first|exact Gd.none|exact Gd.tt rfl rfl|exact Gd.tf rfl rfl|exact Gd.gt rfl rfl|exact Gd.gf rfl rfl)))|apply wlk_read rfl rfl|(apply wlk_read_g rfl rfl;(·(first|exact Gd.none|exact Gd.tt rfl rfl|exact Gd.tf rfl rfl|exact Gd.gt rfl rfl|exact Gd.gf rfl rfl))));(·(first|((first|apply ex_move|apply ex_assign|apply ex_fieldAddr'|apply ex_not|apply ex_lss|apply ex_len|apply ex_andT|apply ex_max)<;>(first|exact eT rfl|exact eC|exact eG rfl|exact eL rfl|exact eLL rfl|exact eLLL rfl|exact eF|exact eGl))|((first|apply ex_fieldAddr|apply ex_slen|apply ex_orT|apply ex_slss)<;>(first|exact eT rfl|exact eC|exact eG rfl|exact eL rfl|exact eLL rfl|exact eLLL rfl|exact eF|exact eGl))|(apply ex_and<;>(first|exact eT rfl|exact eC|exact eG rfl|exact eL rfl|exact eLL rfl|exact eLLL rfl|exact eF|exact eGl))|(apply ex_or<;>(first|exact eT rfl|exact eC|exact eG rfl|exact eL rfl|exact eLL rfl|exact eLLL rfl|exact eF|exact eGl))|(apply ex_addn<;>(first|exact eT rfl|exact eC|exact eG rfl|exact eL rfl|exact eLL rfl|exact eLLL rfl|exact eF|exact eGl|(constructor<;>omega)))|(apply ex_add<;>(first|exact eT rfl|exact eC|exact eG rfl|exact eL rfl|exact eLL rfl|exact eLLL rfl|exact eF|exact eGl))|((first|apply ex_loadown|apply ex_indexAddr)<;>(first|exact eT rfl|exact eC|exact eG rfl|exact eL rfl|exact eLL rfl|exact eLLL rfl|exact eF|exact eGl|exact Bk.own InH.mem|exact Bk.old (by assumption) (Nat.le_refl _)|rfl|assumption|omega))|((first|apply ex_loadowns|apply ex_indexAddrI)<;>(first|exact eT rfl|exact eC|exact eG rfl|exact eL rfl|exact eLL rfl|exact eLLL rfl|exact eF|exact eGl|exact Bk.own InH.mem|exact Bk.old (by assumption) (Nat.le_refl _)|(first|rfl|assumption)|(constructor<;>omega))))))
      | (apply spl_alloc rfl;intro _ _)
      | (apply spl_store1;(·(first|exact eT rfl|exact eC|exact eG rfl|exact eL rfl|exact eLL rfl|exact eLLL rfl|exact eF|exact eGl));(·(first|exact eT rfl|exact eC|exact eG rfl|exact eL rfl|exact eLL rfl|exact eLLL rfl|exact eF|exact eGl));(·rfl);(·(repeat (first|exact Upd.here|apply Upd.there|apply Upd.app)));(·rfl))
      | (apply spl_stores;(·(first|exact eT rfl|exact eC|exact eG rfl|exact eL rfl|exact eLL rfl|exact eLLL rfl|exact eF|exact eGl));(·(first|exact eT rfl|exact eC|exact eG rfl|exact eL rfl|exact eLL rfl|exact eLLL rfl|exact eF|exact eGl));(·(repeat (first|exact Upd.here|apply Upd.there|apply Upd.app)));(·(first|rfl|assumption));(·(first|rfl|assumption));(·(first|exact Ones.one|assumption|exact ones_of_all rfl|decide|(intro v hv;simp at hv;(repeat (rcases hv with rfl | hv <;> first | rfl | skip));try (subst hv;rfl)))))
      | (apply effq;(·(intro h_;(first|(exact absurd h_ (by decide))|(repeat (first|exact HKeep.refl|apply HKeep.keep|(apply HKeep.app;(·(repeat (first|exact Split.here|exact Split.one|exact Split.all|apply Split.cons|apply Split.app))))|(apply HKeep.pick;(·(repeat (first|exact Rem.here|apply Rem.there|apply Rem.app))))|apply HKeep.drop (by first|assumption|omega)|apply HKeep.dropA (by assumption)))))))|apply wlk_nil|apply wlk_eff rfl
      | (apply spl_guard_t;(·(first|exact Gd.none|exact Gd.tt rfl rfl|exact Gd.tf rfl rfl|exact Gd.gt rfl rfl|exact Gd.gf rfl rfl));(·rfl))|(apply spl_guard_f;(·(first|exact Gd.none|exact Gd.tt rfl rfl|exact Gd.tf rfl rfl|exact Gd.gt rfl rfl|exact Gd.gf rfl rfl));(·rfl);(·rfl)))
    (apply retP_ok rfl;(·(first|(apply Res.ofOne;(first|(apply Res1.tmp;(·rfl))|(apply Res1.cell;(·rfl);(·exact InH.mem);(·(first|rfl|assumption)))|(apply Res1.cell1;(·rfl);(·exact InH.mem);(·rfl))))|(apply Res.ofTwo<;>(first|(apply Res1.tmp;(·rfl))|(apply Res1.cell;(·rfl);(·exact InH.mem);(·(first|rfl|assumption)))|(apply Res1.cell1;(·rfl);(·exact InH.mem);(·rfl))))|(apply Res.ofThree<;>(first|(apply Res1.tmp;(·rfl))|(apply Res1.cell;(·rfl);(·exact InH.mem);(·(first|rfl|assumption)))|(apply Res1.cell1;(·rfl);(·exact InH.mem);(·rfl))))|exact Res.none_)))
    exact ⟨m, rfl, by rw [hlen]; exact hinv⟩
set_option maxRecDepth 100000 in
set_option maxHeartbeats 4000000 in
theorem max_c {w : World} {A : Option Addr} {n c L : Nat} {xs : List Nat} (h : RdS w w.heap.size 1 natC A n xs) (hn : 0 < n) (hL : ∀ x ∈ xs, x ≤ L) :
    Calls Try.prog 37 #[.slice A n c] w (RetP w (fun m : Nat => .int .i64 (m : Int)) (fun m => m ≤ L)) := by
  have hbd : n ≤ 9223372036854775807 := h.bound
  refine sp_enter (vs := [_]) Try.func37 rfl Try.ntmps37 rfl ?_
  obtain ⟨i0, hi0⟩ : ∃ i0, i0 = 0 := ⟨_, rfl⟩
  have hn0 : i0 < n := by omega
  obtain ⟨ad, x, hA, hb, hx, hsz, hc⟩ := h.at_ hn0
  subst hA
  have hx0 := hL x (List.mem_of_getElem? hx)
  repeat (first
    | (apply sp_cond_f;(·(first|exact eT rfl|exact eC|exact eG rfl|exact eL rfl|exact eLL rfl|exact eLLL rfl|exact eF|exact eGl));(·exact decide_eq_false (by omega)))
    | apply then_n|apply block_n|apply sp_seq|apply sp_region|apply spl_nil|apply then_r|apply block_r|apply then_e|apply block_here|apply block_past rfl
    | ((first|apply sp_cond_t|apply sp_cond_f);(·(first|exact eT rfl|exact eC|exact eG rfl|exact eL rfl|exact eLL rfl|exact eLLL rfl|exact eF|exact eGl));(·(first|exact decide_eq_true (by omega)|exact decide_eq_false (by omega)|assumption|rfl)))
    | (apply sp_cond_f;(·(first|exact eT rfl|exact eC|exact eG rfl|exact eL rfl|exact eLL rfl|exact eLLL rfl|exact eF|exact eGl));(·(first|exact decide_eq_false (by omega)|assumption|rfl)))
    | apply sp_skip|apply sp_ret|apply sp_exit|apply sp_block
    | ((first|apply spl_pure rfl|(apply spl_pure_g rfl;(·(first|exact Gd.none|exact Gd.tt rfl rfl|exact Gd.tf rfl rfl|exact Gd.gt rfl rfl|exact Gd.gf rfl rfl))));(·(first|(apply ex_indexAddr (i:=i0);(·(first|exact eT rfl|exact eC|exact eG rfl|exact eL rfl|exact eLL rfl|exact eLLL rfl|exact eF|exact eGl));(·(rw [hi0];exact eC));(·rfl);(·exact hn0))|(apply ex_loadfield (ad:=ad) (i:=i0) (k:=0);(·(first|exact eT rfl|exact eC|exact eG rfl|exact eL rfl|exact eLL rfl|exact eLLL rfl|exact eF|exact eGl));(·exact h);(·rfl);(·exact hx);(·rfl))|((first|apply ex_move|apply ex_assign|apply ex_lss|apply ex_len|apply ex_max)<;>(first|exact eT rfl|exact eC|exact eG rfl|exact eL rfl|exact eLL rfl|exact eLLL rfl|exact eF|exact eGl))|((first|apply ex_slen|apply ex_slss)<;>(first|exact eT rfl|exact eC|exact eG rfl|exact eL rfl|exact eLL rfl|exact eLLL rfl|exact eF|exact eGl))|(apply ex_addn<;>(first|exact eT rfl|exact eC|exact eG rfl|exact eL rfl|exact eLL rfl|exact eLLL rfl|exact eF|exact eGl|(constructor<;>omega)))|(apply ex_add<;>(first|exact eT rfl|exact eC|exact eG rfl|exact eL rfl|exact eLL rfl|exact eLLL rfl|exact eF|exact eGl))|((first|apply ex_loadown|apply ex_indexAddr)<;>(first|exact eT rfl|exact eC|exact eG rfl|exact eL rfl|exact eLL rfl|exact eLLL rfl|exact eF|exact eGl|exact Bk.own InH.mem|exact Bk.old (by assumption) (Nat.le_refl _)|rfl|assumption|omega))|((first|apply ex_loadowns|apply ex_indexAddrI)<;>(first|exact eT rfl|exact eC|exact eG rfl|exact eL rfl|exact eLL rfl|exact eLLL rfl|exact eF|exact eGl|exact Bk.own InH.mem|exact Bk.old (by assumption) (Nat.le_refl _)|(first|rfl|assumption)|(constructor<;>omega)))))))
  refine sp_loop (X := Nat × Nat) (fun y => [(4, true, .int .i64 (y.1 : Int)), (3, true, .int .i64 (y.2 : Int)), (0, true, .slice (some ad) n c)]) (fun _ => w) (fun y => [])
    (fun y => y.1 ≤ n ∧ y.2 ≤ L) (fun y => n - y.1) (1, x) ⟨hn, hx0⟩ (by (repeat (first|exact ESub.nil|apply ESub.cons rfl))) rfl (by (repeat (first|exact HKeep.refl|apply HKeep.keep|(apply HKeep.app;(·(repeat (first|exact Split.here|exact Split.one|exact Split.all|apply Split.cons|apply Split.app))))|(apply HKeep.pick;(·(repeat (first|exact Rem.here|apply Rem.there|apply Rem.app))))|apply HKeep.drop (by first|assumption|omega)|apply HKeep.dropA (by assumption)))) ?_
  rintro ⟨i, m⟩ ⟨hi, hm⟩
  replace hi : i ≤ n := hi
  replace hm : m ≤ L := hm
  dsimp only
  by_cases hlt : i < n
  · obtain ⟨ad2, y, hA2, hb2, hy, hsz2, hc2⟩ := h.at_ hlt
    cases hA2
    have hyl := hL y (List.mem_of_getElem? hy)
    obtain ⟨m2, hm2⟩ : ∃ m2, m2 = max m y := ⟨_, rfl⟩
    have hmax : (if (y : Int) > (m : Int) then (y : Int) else (m : Int)) = (m2 : Int) := by split <;> omega
    repeat (first
      | apply then_n|apply block_n|apply sp_seq|apply sp_region|apply spl_nil|apply then_r|apply block_r|apply then_e|apply block_here|apply block_past rfl
      | ((first|apply sp_cond_t|apply sp_cond_f);(·(first|exact eT rfl|exact eC|exact eG rfl|exact eL rfl|exact eLL rfl|exact eLLL rfl|exact eF|exact eGl));(·(first|exact decide_eq_true (by omega)|exact decide_eq_false (by omega)|assumption|rfl)))
      | (apply sp_cond_f;(·(first|exact eT rfl|exact eC|exact eG rfl|exact eL rfl|exact eLL rfl|exact eLLL rfl|exact eF|exact eGl));(·(first|exact decide_eq_false (by omega)|assumption|rfl)))
      | apply sp_skip|apply sp_ret|apply sp_exit|apply sp_block
      | ((first|apply spl_pure rfl|(apply spl_pure_g rfl;(·(first|exact Gd.none|exact Gd.tt rfl rfl|exact Gd.tf rfl rfl|exact Gd.gt rfl rfl|exact Gd.gf rfl rfl))));(·(first|(apply ex_indexAddr;(·(first|exact eT rfl|exact eC|exact eG rfl|exact eL rfl|exact eLL rfl|exact eLLL rfl|exact eF|exact eGl));(·(first|exact eT rfl|exact eC|exact eG rfl|exact eL rfl|exact eLL rfl|exact eLLL rfl|exact eF|exact eGl));(·rfl);(·exact hlt))|(apply ex_loadfield (ad:=ad) (i:=i) (k:=0);(·(first|exact eT rfl|exact eC|exact eG rfl|exact eL rfl|exact eLL rfl|exact eLLL rfl|exact eF|exact eGl));(·exact h);(·rfl);(·exact hy);(·rfl))|((first|apply ex_move|apply ex_assign|apply ex_lss|apply ex_len|apply ex_max)<;>(first|exact eT rfl|exact eC|exact eG rfl|exact eL rfl|exact eLL rfl|exact eLLL rfl|exact eF|exact eGl))|((first|apply ex_slen|apply ex_slss)<;>(first|exact eT rfl|exact eC|exact eG rfl|exact eL rfl|exact eLL rfl|exact eLLL rfl|exact eF|exact eGl))|(apply ex_addn<;>(first|exact eT rfl|exact eC|exact eG rfl|exact eL rfl|exact eLL rfl|exact eLLL rfl|exact eF|exact eGl|(constructor<;>omega)))|(apply ex_add<;>(first|exact eT rfl|exact eC|exact eG rfl|exact eL rfl|exact eLL rfl|exact eLLL rfl|exact eF|exact eGl))|((first|apply ex_loadown|apply ex_indexAddr)<;>(first|exact eT rfl|exact eC|exact eG rfl|exact eL rfl|exact eLL rfl|exact eLLL rfl|exact eF|exact eGl|exact Bk.own InH.mem|exact Bk.old (by assumption) (Nat.le_refl _)|rfl|assumption|omega))|((first|apply ex_loadowns|apply ex_indexAddrI)<;>(first|exact eT rfl|exact eC|exact eG rfl|exact eL rfl|exact eLL rfl|exact eLLL rfl|exact eF|exact eGl|exact Bk.own InH.mem|exact Bk.old (by assumption) (Nat.le_refl _)|(first|rfl|assumption)|(constructor<;>omega)))))))
    exact ⟨(i + 1, m2), ⟨hlt, (by show m2 ≤ _; omega)⟩, by (show n - (i + 1) < n - i; omega), (by rw [hmax]; (repeat (first|exact ESub.nil|apply ESub.cons rfl))), rfl, (by (repeat (first|exact HKeep.refl|apply HKeep.keep|(apply HKeep.app;(·(repeat (first|exact Split.here|exact Split.one|exact Split.all|apply Split.cons|apply Split.app))))|(apply HKeep.pick;(·(repeat (first|exact Rem.here|apply Rem.there|apply Rem.app))))|apply HKeep.drop (by first|assumption|omega)|apply HKeep.dropA (by assumption))))⟩
  ·
    repeat (first
      | apply then_n|apply block_n|apply sp_seq|apply sp_region|apply spl_nil|apply then_r|apply block_r|apply then_e|apply block_here|apply block_past rfl
      | ((first|apply sp_cond_t|apply sp_cond_f);(·(first|exact eT rfl|exact eC|exact eG rfl|exact eL rfl|exact eLL rfl|exact eLLL rfl|exact eF|exact eGl));(·(first|exact decide_eq_true (by omega)|exact decide_eq_false (by omega)|assumption|rfl)))
      | (apply sp_cond_f;(·(first|exact eT rfl|exact eC|exact eG rfl|exact eL rfl|exact eLL rfl|exact eLLL rfl|exact eF|exact eGl));(·(first|exact decide_eq_false (by omega)|assumption|rfl)))
      | apply sp_skip|apply sp_ret|apply sp_exit|apply sp_block
      | ((first|apply spl_pure rfl|(apply spl_pure_g rfl;(·(first|exact Gd.none|exact Gd.tt rfl rfl|exact Gd.tf rfl rfl|exact Gd.gt rfl rfl|exact Gd.gf rfl rfl))));(·(first|((first|apply ex_move|apply ex_assign|apply ex_lss|apply ex_len|apply ex_max)<;>(first|exact eT rfl|exact eC|exact eG rfl|exact eL rfl|exact eLL rfl|exact eLLL rfl|exact eF|exact eGl))|((first|apply ex_slen|apply ex_slss)<;>(first|exact eT rfl|exact eC|exact eG rfl|exact eL rfl|exact eLL rfl|exact eLLL rfl|exact eF|exact eGl))|(apply ex_addn<;>(first|exact eT rfl|exact eC|exact eG rfl|exact eL rfl|exact eLL rfl|exact eLLL rfl|exact eF|exact eGl|(constructor<;>omega)))|(apply ex_add<;>(first|exact eT rfl|exact eC|exact eG rfl|exact eL rfl|exact eLL rfl|exact eLLL rfl|exact eF|exact eGl))|((first|apply ex_loadown|apply ex_indexAddr)<;>(first|exact eT rfl|exact eC|exact eG rfl|exact eL rfl|exact eLL rfl|exact eLLL rfl|exact eF|exact eGl|exact Bk.own InH.mem|exact Bk.old (by assumption) (Nat.le_refl _)|rfl|assumption|omega))|((first|apply ex_loadowns|apply ex_indexAddrI)<;>(first|exact eT rfl|exact eC|exact eG rfl|exact eL rfl|exact eLL rfl|exact eLLL rfl|exact eF|exact eGl|exact Bk.own InH.mem|exact Bk.old (by assumption) (Nat.le_refl _)|(first|rfl|assumption)|(constructor<;>omega)))))))
    (apply retP_ok rfl;(·(first|(apply Res.ofOne;(first|(apply Res1.tmp;(·rfl))|(apply Res1.cell;(·rfl);(·exact InH.mem);(·(first|rfl|assumption)))|(apply Res1.cell1;(·rfl);(·exact InH.mem);(·rfl))))|(apply Res.ofTwo<;>(first|(apply Res1.tmp;(·rfl))|(apply Res1.cell;(·rfl);(·exact InH.mem);(·(first|rfl|assumption)))|(apply Res1.cell1;(·rfl);(·exact InH.mem);(·rfl))))|(apply Res.ofThree<;>(first|(apply Res1.tmp;(·rfl))|(apply Res1.cell;(·rfl);(·exact InH.mem);(·(first|rfl|assumption)))|(apply Res1.cell1;(·rfl);(·exact InH.mem);(·rfl))))|exact Res.none_)))
    exact ⟨m, rfl, hm⟩
end Go.Proofs.Ytoogicafefennaa
