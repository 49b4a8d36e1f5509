/-
  Contracts of package task: Order.
-/
import Derived.Test.YtoogicafefennaaNb
import Derived.Test.YtoogicafefennaaSk
namespace Go.Proofs.Ytoogicafefennaa
open Go.RowKit Go.Sy
set_option linter.unusedVariables false
set_option linter.unusedSimpArgs false
def iv (i : Nat) : Value := .int .i64 (i : Int)
def bv (b : Bool) : Value := .bool b
def mk (d : Mk) : Array Value := (d.map bv).toArray
theorem mk_get {d : Mk} {i : Nat} (h : i < d.length) : (mk d)[i]? = some (.bool (gt d i)) := by
  unfold mk gt
  rw [List.getElem?_toArray, List.getElem?_map, List.getD_eq_getElem?_getD, List.getElem?_eq_getElem h]
  rfl
theorem mk_size (d : Mk) : (mk d).size = d.length := by simp [mk]
theorem mk_set (d : Mk) (i : Nat) (b : Bool) : (mk d).setIfInBounds i (.bool b) = mk (d.set i b) := by
  apply Array.ext'
  simp only [mk, Array.toList_setIfInBounds, List.map_set]
  rfl
theorem mk_rep (n : Nat) : (List.replicate n (Value.bool false)).toArray = mk (List.replicate n false) := by
  unfold mk
  rw [List.map_replicate]; rfl
theorem mk_flat (d : Mk) : (mk d).toList = d.flatMap fun x => (boolC x).toList := by
  unfold mk
  induction d with
  | nil => rfl
  | cons b r ih => simp only [List.map_cons, List.flatMap_cons] at *; rw [← ih]; rfl
/-- Marks in a block, read as a slice. -/
theorem mk_rd {w : World} {g n : Nat} {d : Mk} {T : TypeId} (hg : w.heap[g]? = some (.cells (mk d) T (0, 0))) (hl : d.length = n) (hn : n ≤ 9223372036854775807) : RdS w w.heap.size 1 boolC (some ⟨g, 0, none⟩) n d :=
  RdS.ofFlat hg (Array.getElem?_eq_some_iff.1 hg).1 hl hn (fun _ _ => rfl) (mk_flat d)
theorem find_range {n : Nat} {p : Nat → Bool} {i : Nat} (hi : i < n) (hp : p i = true) (hno : ∀ j < i, p j = false) : (List.range n).find? p = some i := by
  rw [List.find?_eq_some_iff_getElem]
  refine ⟨hp, i, by simpa using hi, by simp, fun j hj => ?_⟩
  simp [hno j hj]
theorem find_range_none {n : Nat} {p : Nat → Bool} (hno : ∀ j < n, p j = false) : (List.range n).find? p = none := by
  rw [List.find?_eq_none]
  intro j hj
  rw [hno j (List.mem_range.1 hj)]; simp
theorem aft_at {l : List TaskR} {i : Nat} {x : TaskR} (h : l[i]? = some x) : aft l i = x.after := by unfold aft; rw [h]
theorem canB_at {l : List TaskR} {d : Mk} {i : Nat} {x : TaskR} (h : l[i]? = some x) : canB l d i = (!gt d i && !wtB d x.after) := by unfold canB wt; rw [aft_at h]
theorem badB_at {l : List TaskR} {d : Mk} {i : Nat} {x : TaskR} (h : l[i]? = some x) : badB l d i = (gt d i && wtB d x.after) := by unfold badB wt; rw [aft_at h]
theorem no_less {p : Nat → Bool} {i : Nat} (h : ∀ j < i, p j = false) (hp : p i = false) : ∀ j < i + 1, p j = false := fun j hj => by
  rcases Nat.lt_or_ge j i with q | q
  · exact h j q
  · rw [show j = i by omega]; exact hp
attribute [local irreducible] Calls thenQ blockQ retQ jumpQ Spc Spl Spq Ex Ev Evs Gd Upd ESub HKeep Res Res1 wlk effQ Rem SrcAt Split mk
def orderI (l : List TaskR) (w : World) (x : Nat × List Nat × RowS) : Prop := w.heap.size ≤ x.1 ∧ Topo l x.2.1 ∧ x.2.2.ok 1 x.2.1.length (x.2.1.map iv) ∧ x.2.2.fresh w.heap.size ∧ orderL l = orderP l (l.length + 1 - x.2.1.length) x.2.1
set_option maxRecDepth 100000 in
set_option maxHeartbeats 4000000 in
theorem order_c {w : World} {s : Sl} {l : List TaskR} (h : RdTasks w w.heap.size s l) : Calls Try.prog 8 #[.slice s.a s.n s.c] w
    (RetH w (fun r : RowS => .tuple #[r.val (orderR l).1.length, .int .i64 (orderR l).2]) (fun r => r.hp ((orderR l).1.map iv) 3) (fun r => r.ok 1 (orderR l).1.length ((orderR l).1.map iv))) := by
  have hT := h
  obtain ⟨A, n, c⟩ := s
  obtain ⟨h, h2⟩ := h
  dsimp only at h
  have hbd : n ≤ 9223372036854775807 := h.bound
  have hlen : l.length = n := h.len
  have hval := fun w' (hh : Hp w.heap.size w [] w') => valid_c (hT.hp hh)
  show Calls _ _ #[.slice A n c] _ _
  refine sp_enter (vs := [_]) Try.func8 rfl Try.ntmps8 rfl ?_
  cases hok : tasksOk l with
  | false =>
    have hR : orderR l = ([], 1) := by unfold orderR; rw [hok]; rfl
    rw [hok] at hval
    rw [hR]
    repeat (first
      | apply jump_n|apply jump_r|apply jump_e|apply sp_goto|apply then_g|apply block_g|apply sp_label
      | (apply sp_straight)
      | (apply spl_callp rfl;(·(repeat (first|exact eN|(apply eS;(·(first|exact eT rfl|exact eC|exact eG rfl|exact eL rfl|exact eLL rfl|exact eLLL rfl|exact eF|exact eGl))))));(·exact hval))
      | apply then_n|apply block_n|apply sp_seq|apply sp_region|apply spl_nil|apply then_r|apply block_r|apply then_e|apply block_here|apply block_past rfl
      | ((first|apply sp_cond_t|apply sp_cond_f);(·(first|exact eT rfl|exact eC|exact eG rfl|exact eL rfl|exact eLL rfl|exact eLLL rfl|exact eF|exact eGl));(·(first|exact decide_eq_true (by omega)|exact decide_eq_false (by omega)|assumption|rfl)))
      | (apply sp_cond_f;(·(first|exact eT rfl|exact eC|exact eG rfl|exact eL rfl|exact eLL rfl|exact eLLL rfl|exact eF|exact eGl));(·(first|exact decide_eq_false (by omega)|assumption|rfl)))
      | apply sp_skip|apply sp_ret|apply sp_exit|apply sp_block
      | ((first|apply spl_pure rfl|(apply spl_pure_g rfl;(·(first|exact Gd.none|exact Gd.tt rfl rfl|exact Gd.tf rfl rfl|exact Gd.gt rfl rfl|exact Gd.gf rfl rfl))));(·(first|((first|apply ex_move|apply ex_assign|apply ex_not|apply ex_lss|apply ex_len|apply ex_andT)<;>(first|exact eT rfl|exact eC|exact eG rfl|exact eL rfl|exact eLL rfl|exact eLLL rfl|exact eF|exact eGl))|((first|apply ex_slen|apply ex_orT|apply ex_slss)<;>(first|exact eT rfl|exact eC|exact eG rfl|exact eL rfl|exact eLL rfl|exact eLLL rfl|exact eF|exact eGl))|(apply ex_and<;>(first|exact eT rfl|exact eC|exact eG rfl|exact eL rfl|exact eLL rfl|exact eLLL rfl|exact eF|exact eGl))|(apply ex_or<;>(first|exact eT rfl|exact eC|exact eG rfl|exact eL rfl|exact eLL rfl|exact eLLL rfl|exact eF|exact eGl))|(apply ex_addn<;>(first|exact eT rfl|exact eC|exact eG rfl|exact eL rfl|exact eLL rfl|exact eLLL rfl|exact eF|exact eGl|(constructor<;>omega)))|(apply ex_add<;>(first|exact eT rfl|exact eC|exact eG rfl|exact eL rfl|exact eLL rfl|exact eLLL rfl|exact eF|exact eGl))|((first|apply ex_loadown|apply ex_indexAddr)<;>(first|exact eT rfl|exact eC|exact eG rfl|exact eL rfl|exact eLL rfl|exact eLLL rfl|exact eF|exact eGl|exact Bk.own InH.mem|exact Bk.old (by assumption) (Nat.le_refl _)|rfl|assumption|omega))|((first|apply ex_loadowns|apply ex_indexAddrI)<;>(first|exact eT rfl|exact eC|exact eG rfl|exact eL rfl|exact eLL rfl|exact eLLL rfl|exact eF|exact eGl|exact Bk.own InH.mem|exact Bk.old (by assumption) (Nat.le_refl _)|(first|rfl|assumption)|(constructor<;>omega))))))
      | (apply spl_alloc rfl;intro _ _)
      | (apply spl_store1;(·(first|exact eT rfl|exact eC|exact eG rfl|exact eL rfl|exact eLL rfl|exact eLLL rfl|exact eF|exact eGl));(·(first|exact eT rfl|exact eC|exact eG rfl|exact eL rfl|exact eLL rfl|exact eLLL rfl|exact eF|exact eGl));(·rfl);(·(repeat (first|exact Upd.here|apply Upd.there|apply Upd.app)));(·rfl))
      | (apply spl_stores;(·(first|exact eT rfl|exact eC|exact eG rfl|exact eL rfl|exact eLL rfl|exact eLLL rfl|exact eF|exact eGl));(·(first|exact eT rfl|exact eC|exact eG rfl|exact eL rfl|exact eLL rfl|exact eLLL rfl|exact eF|exact eGl));(·(repeat (first|exact Upd.here|apply Upd.there|apply Upd.app)));(·(first|rfl|assumption));(·(first|rfl|assumption));(·(first|exact Ones.one|assumption|exact ones_of_all rfl|decide|(intro v hv;simp at hv;(repeat (rcases hv with rfl | hv <;> first | rfl | skip));try (subst hv;rfl)))))
      | (apply spl_buildSlice rfl;(·rfl);(·(repeat (first|exact eN|(apply eS;(·(first|exact eT rfl|exact eC|exact eG rfl|exact eL rfl|exact eLL rfl|exact eLLL rfl|exact eF|exact eGl))))));(·rfl);(·rfl);(·rfl);intro _ _)
      | (apply spl_guard_t;(·(first|exact Gd.none|exact Gd.tt rfl rfl|exact Gd.tf rfl rfl|exact Gd.gt rfl rfl|exact Gd.gf rfl rfl));(·rfl))|(apply spl_guard_f;(·(first|exact Gd.none|exact Gd.tt rfl rfl|exact Gd.tf rfl rfl|exact Gd.gt rfl rfl|exact Gd.gf rfl rfl));(·rfl);(·rfl)))
    (apply retH_ok rfl;(·(first|(apply Res.ofOne;(first|(apply Res1.tmp;(·rfl))|(apply Res1.cell;(·rfl);(·exact InH.mem);(·(first|rfl|assumption)))|(apply Res1.cell1;(·rfl);(·exact InH.mem);(·rfl))))|(apply Res.ofTwo<;>(first|(apply Res1.tmp;(·rfl))|(apply Res1.cell;(·rfl);(·exact InH.mem);(·(first|rfl|assumption)))|(apply Res1.cell1;(·rfl);(·exact InH.mem);(·rfl))))|(apply Res.ofThree<;>(first|(apply Res1.tmp;(·rfl))|(apply Res1.cell;(·rfl);(·exact InH.mem);(·(first|rfl|assumption)))|(apply Res1.cell1;(·rfl);(·exact InH.mem);(·rfl))))|exact Res.none_)))
    exact ⟨RowS.start, rfl, RowS.ok_start, by (repeat (first|exact HKeep.refl|apply HKeep.keep|(apply HKeep.app;(·(repeat (first|exact Split.here|exact Split.one|exact Split.all|apply Split.cons|apply Split.app))))|(apply HKeep.pick;(·(repeat (first|exact Rem.here|apply Rem.there|apply Rem.app))))|apply HKeep.drop (by first|assumption|omega)|apply HKeep.dropA (by assumption)))⟩
  | true =>
    rw [hok] at hval
    obtain ⟨hsm, hV⟩ := tasksOk_V hok
    have hn40 : n ≤ 40 := by omega
    refine sp_seq ?_
    repeat (first
      | apply jump_n|apply jump_r|apply jump_e|apply sp_goto|apply then_g|apply block_g|apply sp_label
      | apply then_n|apply block_n|apply sp_seq|apply sp_region|apply spl_nil|apply then_r|apply block_r|apply then_e|apply block_here|apply block_past rfl
      | ((first|apply sp_cond_t|apply sp_cond_f);(·(first|exact eT rfl|exact eC|exact eG rfl|exact eL rfl|exact eLL rfl|exact eLLL rfl|exact eF|exact eGl));(·(first|exact decide_eq_true (by omega)|exact decide_eq_false (by omega)|assumption|rfl)))
      | (apply sp_cond_f;(·(first|exact eT rfl|exact eC|exact eG rfl|exact eL rfl|exact eLL rfl|exact eLLL rfl|exact eF|exact eGl));(·(first|exact decide_eq_false (by omega)|assumption|rfl)))
      | apply sp_skip|apply sp_ret|apply sp_exit|apply sp_block
      | ((first|apply spl_pure rfl|(apply spl_pure_g rfl;(·(first|exact Gd.none|exact Gd.tt rfl rfl|exact Gd.tf rfl rfl|exact Gd.gt rfl rfl|exact Gd.gf rfl rfl))));(·(first|((first|apply ex_move|apply ex_assign|apply ex_not|apply ex_lss|apply ex_len|apply ex_andT)<;>(first|exact eT rfl|exact eC|exact eG rfl|exact eL rfl|exact eLL rfl|exact eLLL rfl|exact eF|exact eGl))|((first|apply ex_slen|apply ex_orT|apply ex_slss)<;>(first|exact eT rfl|exact eC|exact eG rfl|exact eL rfl|exact eLL rfl|exact eLLL rfl|exact eF|exact eGl))|(apply ex_and<;>(first|exact eT rfl|exact eC|exact eG rfl|exact eL rfl|exact eLL rfl|exact eLLL rfl|exact eF|exact eGl))|(apply ex_or<;>(first|exact eT rfl|exact eC|exact eG rfl|exact eL rfl|exact eLL rfl|exact eLLL rfl|exact eF|exact eGl))|(apply ex_addn<;>(first|exact eT rfl|exact eC|exact eG rfl|exact eL rfl|exact eLL rfl|exact eLLL rfl|exact eF|exact eGl|(constructor<;>omega)))|(apply ex_add<;>(first|exact eT rfl|exact eC|exact eG rfl|exact eL rfl|exact eLL rfl|exact eLLL rfl|exact eF|exact eGl))|((first|apply ex_loadown|apply ex_indexAddr)<;>(first|exact eT rfl|exact eC|exact eG rfl|exact eL rfl|exact eLL rfl|exact eLLL rfl|exact eF|exact eGl|exact Bk.own InH.mem|exact Bk.old (by assumption) (Nat.le_refl _)|rfl|assumption|omega))|((first|apply ex_loadowns|apply ex_indexAddrI)<;>(first|exact eT rfl|exact eC|exact eG rfl|exact eL rfl|exact eLL rfl|exact eLLL rfl|exact eF|exact eGl|exact Bk.own InH.mem|exact Bk.old (by assumption) (Nat.le_refl _)|(first|rfl|assumption)|(constructor<;>omega))))))
      | (apply spl_alloc rfl;intro _ _)
      | (apply spl_store1;(·(first|exact eT rfl|exact eC|exact eG rfl|exact eL rfl|exact eLL rfl|exact eLLL rfl|exact eF|exact eGl));(·(first|exact eT rfl|exact eC|exact eG rfl|exact eL rfl|exact eLL rfl|exact eLLL rfl|exact eF|exact eGl));(·rfl);(·(repeat (first|exact Upd.here|apply Upd.there|apply Upd.app)));(·rfl))
      | (apply spl_stores;(·(first|exact eT rfl|exact eC|exact eG rfl|exact eL rfl|exact eLL rfl|exact eLLL rfl|exact eF|exact eGl));(·(first|exact eT rfl|exact eC|exact eG rfl|exact eL rfl|exact eLL rfl|exact eLLL rfl|exact eF|exact eGl));(·(repeat (first|exact Upd.here|apply Upd.there|apply Upd.app)));(·(first|rfl|assumption));(·(first|rfl|assumption));(·(first|exact Ones.one|assumption|exact ones_of_all rfl|decide|(intro v hv;simp at hv;(repeat (rcases hv with rfl | hv <;> first | rfl | skip));try (subst hv;rfl)))))
      | (apply spl_buildSlice rfl;(·rfl);(·(repeat (first|exact eN|(apply eS;(·(first|exact eT rfl|exact eC|exact eG rfl|exact eL rfl|exact eLL rfl|exact eLLL rfl|exact eF|exact eGl))))));(·rfl);(·rfl);(·rfl);intro _ _)
      | (apply spl_guard_t;(·(first|exact Gd.none|exact Gd.tt rfl rfl|exact Gd.tf rfl rfl|exact Gd.gt rfl rfl|exact Gd.gf rfl rfl));(·rfl))|(apply spl_guard_f;(·(first|exact Gd.none|exact Gd.tt rfl rfl|exact Gd.tf rfl rfl|exact Gd.gt rfl rfl|exact Gd.gf rfl rfl));(·rfl);(·rfl)))
    refine sp_jumps 0 (fun x : Nat × List Nat × RowS => [(5, true, .slice (some ⟨x.1, 0, none⟩) n n), (4, true, x.2.2.val x.2.1.length), (0, true, .slice A n c)]) (fun _ => w) (fun x => (x.1, .cells (mk (doneOf n x.2.1)) 4 (0, 0)) :: x.2.2.hp (x.2.1.map iv) 3) (orderI l w) (fun x => l.length + 1 - x.2.1.length) rfl ?_ ?_
    · rintro ⟨gd, o, r⟩ ⟨hgd, hTo, hr, hfr, hord⟩
      replace hgd : w.heap.size ≤ gd := hgd
      replace hTo : Topo l o := hTo
      replace hr : r.ok 1 o.length (o.map iv) := hr
      replace hfr : r.fresh w.heap.size := hfr
      replace hord : orderL l = orderP l (l.length + 1 - o.length) o := hord
      have hlo := hTo.len
      have hrow := RowS.drop (xs := o.map iv) (T := 3) hfr
      have hdl : (doneOf n o).length = n := doneOf_len n o
      obtain ⟨d, hd⟩ : ∃ d, d = doneOf n o := ⟨_, rfl⟩
      have hR : orderR l = if (orderL l).length < n then ([], 24) else (orderL l, 0) := by unfold orderR; rw [hok, hlen]; rfl
      dsimp only
      rw [← hd] at hdl ⊢
      repeat (first
        | apply jump_n|apply jump_r|apply jump_e|apply sp_goto|apply then_g|apply block_g|apply sp_label
        | apply then_n|apply block_n|apply sp_seq|apply sp_region|apply spl_nil|apply then_r|apply block_r|apply then_e|apply block_here|apply block_past rfl
        | ((first|apply sp_cond_t|apply sp_cond_f);(·(first|exact eT rfl|exact eC|exact eG rfl|exact eL rfl|exact eLL rfl|exact eLLL rfl|exact eF|exact eGl));(·(first|exact decide_eq_true (by omega)|exact decide_eq_false (by omega)|assumption|rfl)))
        | (apply sp_cond_f;(·(first|exact eT rfl|exact eC|exact eG rfl|exact eL rfl|exact eLL rfl|exact eLLL rfl|exact eF|exact eGl));(·(first|exact decide_eq_false (by omega)|assumption|rfl)))
        | apply sp_skip|apply sp_ret|apply sp_exit|apply sp_block
        | ((first|apply spl_pure rfl|(apply spl_pure_g rfl;(·(first|exact Gd.none|exact Gd.tt rfl rfl|exact Gd.tf rfl rfl|exact Gd.gt rfl rfl|exact Gd.gf rfl rfl))));(·(first|((first|apply ex_move|apply ex_assign|apply ex_not|apply ex_lss|apply ex_len|apply ex_andT)<;>(first|exact eT rfl|exact eC|exact eG rfl|exact eL rfl|exact eLL rfl|exact eLLL rfl|exact eF|exact eGl))|((first|apply ex_slen|apply ex_orT|apply ex_slss)<;>(first|exact eT rfl|exact eC|exact eG rfl|exact eL rfl|exact eLL rfl|exact eLLL rfl|exact eF|exact eGl))|(apply ex_and<;>(first|exact eT rfl|exact eC|exact eG rfl|exact eL rfl|exact eLL rfl|exact eLLL rfl|exact eF|exact eGl))|(apply ex_or<;>(first|exact eT rfl|exact eC|exact eG rfl|exact eL rfl|exact eLL rfl|exact eLLL rfl|exact eF|exact eGl))|(apply ex_addn<;>(first|exact eT rfl|exact eC|exact eG rfl|exact eL rfl|exact eLL rfl|exact eLLL rfl|exact eF|exact eGl|(constructor<;>omega)))|(apply ex_add<;>(first|exact eT rfl|exact eC|exact eG rfl|exact eL rfl|exact eLL rfl|exact eLLL rfl|exact eF|exact eGl))|((first|apply ex_loadown|apply ex_indexAddr)<;>(first|exact eT rfl|exact eC|exact eG rfl|exact eL rfl|exact eLL rfl|exact eLLL rfl|exact eF|exact eGl|exact Bk.own InH.mem|exact Bk.old (by assumption) (Nat.le_refl _)|rfl|assumption|omega))|((first|apply ex_loadowns|apply ex_indexAddrI)<;>(first|exact eT rfl|exact eC|exact eG rfl|exact eL rfl|exact eLL rfl|exact eLLL rfl|exact eF|exact eGl|exact Bk.own InH.mem|exact Bk.old (by assumption) (Nat.le_refl _)|(first|rfl|assumption)|(constructor<;>omega))))))
        | (apply spl_alloc rfl;intro _ _)
        | (apply spl_store1;(·(first|exact eT rfl|exact eC|exact eG rfl|exact eL rfl|exact eLL rfl|exact eLLL rfl|exact eF|exact eGl));(·(first|exact eT rfl|exact eC|exact eG rfl|exact eL rfl|exact eLL rfl|exact eLLL rfl|exact eF|exact eGl));(·rfl);(·(repeat (first|exact Upd.here|apply Upd.there|apply Upd.app)));(·rfl))
        | (apply spl_stores;(·(first|exact eT rfl|exact eC|exact eG rfl|exact eL rfl|exact eLL rfl|exact eLLL rfl|exact eF|exact eGl));(·(first|exact eT rfl|exact eC|exact eG rfl|exact eL rfl|exact eLL rfl|exact eLLL rfl|exact eF|exact eGl));(·(repeat (first|exact Upd.here|apply Upd.there|apply Upd.app)));(·(first|rfl|assumption));(·(first|rfl|assumption));(·(first|exact Ones.one|assumption|exact ones_of_all rfl|decide|(intro v hv;simp at hv;(repeat (rcases hv with rfl | hv <;> first | rfl | skip));try (subst hv;rfl)))))
        | (apply spl_buildSlice rfl;(·rfl);(·(repeat (first|exact eN|(apply eS;(·(first|exact eT rfl|exact eC|exact eG rfl|exact eL rfl|exact eLL rfl|exact eLLL rfl|exact eF|exact eGl))))));(·rfl);(·rfl);(·rfl);intro _ _)
        | (apply spl_guard_t;(·(first|exact Gd.none|exact Gd.tt rfl rfl|exact Gd.tf rfl rfl|exact Gd.gt rfl rfl|exact Gd.gf rfl rfl));(·rfl))|(apply spl_guard_f;(·(first|exact Gd.none|exact Gd.tt rfl rfl|exact Gd.tf rfl rfl|exact Gd.gt rfl rfl|exact Gd.gf rfl rfl));(·rfl);(·rfl)))
      refine sp_loop (X := Nat) (fun i => [(16, true, .int .i64 (i : Int)), (15, true, .int .i64 (n : Int)), (14, true, .slice A n c), (5, true, .slice (some ⟨gd, 0, none⟩) n n), (4, true, r.val o.length), (0, true, .slice A n c)]) (fun _ => w) (fun _ => (gd, .cells (mk d) 4 (0, 0)) :: r.hp (o.map iv) 3) (fun i => i ≤ n ∧ ∀ j < i, canB l d j = false) (fun i => n - i) 0 ⟨Nat.zero_le _, fun j hj => by omega⟩ (by (repeat (first|exact ESub.nil|apply ESub.cons rfl))) rfl (by (repeat (first|exact HKeep.refl|apply HKeep.keep|(apply HKeep.app;(·(repeat (first|exact Split.here|exact Split.one|exact Split.all|apply Split.cons|apply Split.app))))|(apply HKeep.pick;(·(repeat (first|exact Rem.here|apply Rem.there|apply Rem.app))))|apply HKeep.drop (by first|assumption|omega)|apply HKeep.dropA (by assumption)))) ?_
      rintro i ⟨hi, hno⟩
      by_cases hlt : i < n
      · obtain ⟨ad, x, hA, hb, hx, hsz, hc⟩ := h.at_ hlt
        have hsl := h2 x (List.mem_of_getElem? hx)
        have hvx := (hV x (List.mem_of_getElem? hx)).after
        rw [hlen] at hvx
        have hdi := mk_get (d := d) (i := i) (by omega)
        have hms : i < (mk d).size := by rw [mk_size]; omega
        have hmw : ∀ w' : World, Hp w.heap.size w [] w' → RdS w' w'.heap.size 1 intC x.sl.a x.sl.n x.after := fun w' hh => hsl.hp' hh
        cases hcan : canB l d i with
        | false =>
          have hcond := (canB_at (d := d) hx).symm.trans hcan
          repeat (first
            | apply jump_n|apply jump_r|apply jump_e|apply sp_goto|apply then_g|apply block_g|apply sp_label
            | (apply sp_cond_f;(·(first|exact eT rfl|exact eC|exact eG rfl|exact eL rfl|exact eLL rfl|exact eLLL rfl|exact eF|exact eGl));(·exact hcond))
            | (apply spl_callp_g rfl;(·(first|exact Gd.none|exact Gd.tt rfl rfl|exact Gd.tf rfl rfl|exact Gd.gt rfl rfl|exact Gd.gf rfl rfl));(·(repeat (first|exact eN|(apply eS;(·(first|exact eT rfl|exact eC|exact eG rfl|exact eL rfl|exact eLL rfl|exact eLLL rfl|exact eF|exact eGl))))));(·exact fun _ w' hh => waits_c (n := n) (hsl.hp' hh) (mk_rd hh.ownI hdl hbd) hvx))
            | apply then_n|apply block_n|apply sp_seq|apply sp_region|apply spl_nil|apply then_r|apply block_r|apply then_e|apply block_here|apply block_past rfl
            | ((first|apply sp_cond_t|apply sp_cond_f);(·(first|exact eT rfl|exact eC|exact eG rfl|exact eL rfl|exact eLL rfl|exact eLLL rfl|exact eF|exact eGl));(·(first|exact decide_eq_true (by omega)|exact decide_eq_false (by omega)|assumption|rfl)))
            | (apply sp_cond_f;(·(first|exact eT rfl|exact eC|exact eG rfl|exact eL rfl|exact eLL rfl|exact eLLL rfl|exact eF|exact eGl));(·(first|exact decide_eq_false (by omega)|assumption|rfl)))
            | apply sp_skip|apply sp_ret|apply sp_exit|apply sp_block
            | ((first|apply spl_pure rfl|(apply spl_pure_g rfl;(·(first|exact Gd.none|exact Gd.tt rfl rfl|exact Gd.tf rfl rfl|exact Gd.gt rfl rfl|exact Gd.gf rfl rfl))));(·(first|(apply ex_indexAddr0;(·(first|exact eT rfl|exact eC|exact eG rfl|exact eL rfl|exact eLL rfl|exact eLLL rfl|exact eF|exact eGl));(·(first|exact eT rfl|exact eC|exact eG rfl|exact eL rfl|exact eLL rfl|exact eLLL rfl|exact eF|exact eGl));(·assumption))|(apply ex_loadelem;(·(first|exact eT rfl|exact eC|exact eG rfl|exact eL rfl|exact eLL rfl|exact eLLL rfl|exact eF|exact eGl));(·exact h);(·exact hA);(·exact hx))|((first|apply ex_move|apply ex_assign|apply ex_not|apply ex_lss|apply ex_len|apply ex_andT)<;>(first|exact eT rfl|exact eC|exact eG rfl|exact eL rfl|exact eLL rfl|exact eLLL rfl|exact eF|exact eGl))|((first|apply ex_slen|apply ex_orT|apply ex_slss)<;>(first|exact eT rfl|exact eC|exact eG rfl|exact eL rfl|exact eLL rfl|exact eLLL rfl|exact eF|exact eGl))|(apply ex_and<;>(first|exact eT rfl|exact eC|exact eG rfl|exact eL rfl|exact eLL rfl|exact eLLL rfl|exact eF|exact eGl))|(apply ex_or<;>(first|exact eT rfl|exact eC|exact eG rfl|exact eL rfl|exact eLL rfl|exact eLLL rfl|exact eF|exact eGl))|(apply ex_addn<;>(first|exact eT rfl|exact eC|exact eG rfl|exact eL rfl|exact eLL rfl|exact eLLL rfl|exact eF|exact eGl|(constructor<;>omega)))|(apply ex_add<;>(first|exact eT rfl|exact eC|exact eG rfl|exact eL rfl|exact eLL rfl|exact eLLL rfl|exact eF|exact eGl))|((first|apply ex_loadown|apply ex_indexAddr)<;>(first|exact eT rfl|exact eC|exact eG rfl|exact eL rfl|exact eLL rfl|exact eLLL rfl|exact eF|exact eGl|exact Bk.own InH.mem|exact Bk.old (by assumption) (Nat.le_refl _)|rfl|assumption|omega))|((first|apply ex_loadowns|apply ex_indexAddrI)<;>(first|exact eT rfl|exact eC|exact eG rfl|exact eL rfl|exact eLL rfl|exact eLLL rfl|exact eF|exact eGl|exact Bk.own InH.mem|exact Bk.old (by assumption) (Nat.le_refl _)|(first|rfl|assumption)|(constructor<;>omega))))))
            | (apply spl_alloc rfl;intro _ _)
            | (apply spl_store1;(·(first|exact eT rfl|exact eC|exact eG rfl|exact eL rfl|exact eLL rfl|exact eLLL rfl|exact eF|exact eGl));(·(first|exact eT rfl|exact eC|exact eG rfl|exact eL rfl|exact eLL rfl|exact eLLL rfl|exact eF|exact eGl));(·rfl);(·(repeat (first|exact Upd.here|apply Upd.there|apply Upd.app)));(·rfl))
            | (apply spl_stores;(·(first|exact eT rfl|exact eC|exact eG rfl|exact eL rfl|exact eLL rfl|exact eLLL rfl|exact eF|exact eGl));(·(first|exact eT rfl|exact eC|exact eG rfl|exact eL rfl|exact eLL rfl|exact eLLL rfl|exact eF|exact eGl));(·(repeat (first|exact Upd.here|apply Upd.there|apply Upd.app)));(·(first|rfl|assumption));(·(first|rfl|assumption));(·(first|exact Ones.one|assumption|exact ones_of_all rfl|decide|(intro v hv;simp at hv;(repeat (rcases hv with rfl | hv <;> first | rfl | skip));try (subst hv;rfl)))))
            | (apply spl_buildSlice rfl;(·rfl);(·(repeat (first|exact eN|(apply eS;(·(first|exact eT rfl|exact eC|exact eG rfl|exact eL rfl|exact eLL rfl|exact eLLL rfl|exact eF|exact eGl))))));(·rfl);(·rfl);(·rfl);intro _ _)
            | (apply spl_guard_t;(·(first|exact Gd.none|exact Gd.tt rfl rfl|exact Gd.tf rfl rfl|exact Gd.gt rfl rfl|exact Gd.gf rfl rfl));(·rfl))|(apply spl_guard_f;(·(first|exact Gd.none|exact Gd.tt rfl rfl|exact Gd.tf rfl rfl|exact Gd.gt rfl rfl|exact Gd.gf rfl rfl));(·rfl);(·rfl)))
          exact ⟨i + 1, ⟨hlt, no_less hno hcan⟩, by (show n - (i + 1) < n - i; omega), (by (repeat (first|exact ESub.nil|apply ESub.cons rfl))), rfl, (by (repeat (first|exact HKeep.refl|apply HKeep.keep|(apply HKeep.app;(·(repeat (first|exact Split.here|exact Split.one|exact Split.all|apply Split.cons|apply Split.app))))|(apply HKeep.pick;(·(repeat (first|exact Rem.here|apply Rem.there|apply Rem.app))))|apply HKeep.drop (by first|assumption|omega)|apply HKeep.dropA (by assumption))))⟩
        | true =>
          have hcond := (canB_at (d := d) hx).symm.trans hcan
          have hnext : nextR l (doneOf l.length o) = some i := by rw [hlen, ← hd]; exact find_range (by omega) hcan hno
          have hTo2 := hTo.snoc hnext
          have hlo2 := hTo2.len
          rw [List.length_append, List.length_singleton] at hlo2
          repeat (first
            | apply jump_n|apply jump_r|apply jump_e|apply sp_goto|apply then_g|apply block_g|apply sp_label
            | (apply sp_cond_t;(·(first|exact eT rfl|exact eC|exact eG rfl|exact eL rfl|exact eLL rfl|exact eLLL rfl|exact eF|exact eGl));(·exact hcond))
            | (apply spl_callp_g rfl;(·(first|exact Gd.none|exact Gd.tt rfl rfl|exact Gd.tf rfl rfl|exact Gd.gt rfl rfl|exact Gd.gf rfl rfl));(·(repeat (first|exact eN|(apply eS;(·(first|exact eT rfl|exact eC|exact eG rfl|exact eL rfl|exact eLL rfl|exact eLLL rfl|exact eF|exact eGl))))));(·exact fun _ w' hh => waits_c (n := n) (hsl.hp' hh) (mk_rd hh.ownI hdl hbd) hvx))
            | (apply spl_store1E (mk_set d i true);(·(first|exact eT rfl|exact eC|exact eG rfl|exact eL rfl|exact eLL rfl|exact eLLL rfl|exact eF|exact eGl));(·(first|exact eT rfl|exact eC|exact eG rfl|exact eL rfl|exact eLL rfl|exact eLLL rfl|exact eF|exact eGl));(·rfl);(·(repeat (first|exact Upd.here|apply Upd.there|apply Upd.app)));(·exact hms))
            | apply then_n|apply block_n|apply sp_seq|apply sp_region|apply spl_nil|apply then_r|apply block_r|apply then_e|apply block_here|apply block_past rfl
            | ((first|apply sp_cond_t|apply sp_cond_f);(·(first|exact eT rfl|exact eC|exact eG rfl|exact eL rfl|exact eLL rfl|exact eLLL rfl|exact eF|exact eGl));(·(first|exact decide_eq_true (by omega)|exact decide_eq_false (by omega)|assumption|rfl)))
            | (apply sp_cond_f;(·(first|exact eT rfl|exact eC|exact eG rfl|exact eL rfl|exact eLL rfl|exact eLLL rfl|exact eF|exact eGl));(·(first|exact decide_eq_false (by omega)|assumption|rfl)))
            | apply sp_skip|apply sp_ret|apply sp_exit|apply sp_block
            | ((first|apply spl_pure rfl|(apply spl_pure_g rfl;(·(first|exact Gd.none|exact Gd.tt rfl rfl|exact Gd.tf rfl rfl|exact Gd.gt rfl rfl|exact Gd.gf rfl rfl))));(·(first|(apply ex_indexAddr0;(·(first|exact eT rfl|exact eC|exact eG rfl|exact eL rfl|exact eLL rfl|exact eLLL rfl|exact eF|exact eGl));(·(first|exact eT rfl|exact eC|exact eG rfl|exact eL rfl|exact eLL rfl|exact eLLL rfl|exact eF|exact eGl));(·assumption))|(apply ex_loadelem;(·(first|exact eT rfl|exact eC|exact eG rfl|exact eL rfl|exact eLL rfl|exact eLLL rfl|exact eF|exact eGl));(·exact h);(·exact hA);(·exact hx))|((first|apply ex_move|apply ex_assign|apply ex_not|apply ex_lss|apply ex_len|apply ex_andT)<;>(first|exact eT rfl|exact eC|exact eG rfl|exact eL rfl|exact eLL rfl|exact eLLL rfl|exact eF|exact eGl))|((first|apply ex_slen|apply ex_orT|apply ex_slss)<;>(first|exact eT rfl|exact eC|exact eG rfl|exact eL rfl|exact eLL rfl|exact eLLL rfl|exact eF|exact eGl))|(apply ex_and<;>(first|exact eT rfl|exact eC|exact eG rfl|exact eL rfl|exact eLL rfl|exact eLLL rfl|exact eF|exact eGl))|(apply ex_or<;>(first|exact eT rfl|exact eC|exact eG rfl|exact eL rfl|exact eLL rfl|exact eLLL rfl|exact eF|exact eGl))|(apply ex_addn<;>(first|exact eT rfl|exact eC|exact eG rfl|exact eL rfl|exact eLL rfl|exact eLLL rfl|exact eF|exact eGl|(constructor<;>omega)))|(apply ex_add<;>(first|exact eT rfl|exact eC|exact eG rfl|exact eL rfl|exact eLL rfl|exact eLLL rfl|exact eF|exact eGl))|((first|apply ex_loadown|apply ex_indexAddr)<;>(first|exact eT rfl|exact eC|exact eG rfl|exact eL rfl|exact eLL rfl|exact eLLL rfl|exact eF|exact eGl|exact Bk.own InH.mem|exact Bk.old (by assumption) (Nat.le_refl _)|rfl|assumption|omega))|((first|apply ex_loadowns|apply ex_indexAddrI)<;>(first|exact eT rfl|exact eC|exact eG rfl|exact eL rfl|exact eLL rfl|exact eLLL rfl|exact eF|exact eGl|exact Bk.own InH.mem|exact Bk.old (by assumption) (Nat.le_refl _)|(first|rfl|assumption)|(constructor<;>omega))))))
            | (apply spl_alloc rfl;intro _ _)
            | (apply spl_store1;(·(first|exact eT rfl|exact eC|exact eG rfl|exact eL rfl|exact eLL rfl|exact eLLL rfl|exact eF|exact eGl));(·(first|exact eT rfl|exact eC|exact eG rfl|exact eL rfl|exact eLL rfl|exact eLLL rfl|exact eF|exact eGl));(·rfl);(·(repeat (first|exact Upd.here|apply Upd.there|apply Upd.app)));(·rfl))
            | (apply spl_stores;(·(first|exact eT rfl|exact eC|exact eG rfl|exact eL rfl|exact eLL rfl|exact eLLL rfl|exact eF|exact eGl));(·(first|exact eT rfl|exact eC|exact eG rfl|exact eL rfl|exact eLL rfl|exact eLLL rfl|exact eF|exact eGl));(·(repeat (first|exact Upd.here|apply Upd.there|apply Upd.app)));(·(first|rfl|assumption));(·(first|rfl|assumption));(·(first|exact Ones.one|assumption|exact ones_of_all rfl|decide|(intro v hv;simp at hv;(repeat (rcases hv with rfl | hv <;> first | rfl | skip));try (subst hv;rfl)))))
            | (apply spl_buildSlice rfl;(·rfl);(·(repeat (first|exact eN|(apply eS;(·(first|exact eT rfl|exact eC|exact eG rfl|exact eL rfl|exact eLL rfl|exact eLLL rfl|exact eF|exact eGl))))));(·rfl);(·rfl);(·rfl);intro _ _)
            | (apply spl_guard_t;(·(first|exact Gd.none|exact Gd.tt rfl rfl|exact Gd.tf rfl rfl|exact Gd.gt rfl rfl|exact Gd.gf rfl rfl));(·rfl))|(apply spl_guard_f;(·(first|exact Gd.none|exact Gd.tt rfl rfl|exact Gd.tf rfl rfl|exact Gd.gt rfl rfl|exact Gd.gf rfl rfl));(·rfl);(·rfl))
            | (refine spl_append_row (r := r) (n := o.length) (xs := o.map iv) (news := [iv i]) (m := 1) (by (first|exact eT rfl|exact eC|exact eG rfl|exact eL rfl|exact eLL rfl|exact eLLL rfl|exact eF|exact eGl)) (by (first|exact eT rfl|exact eC|exact eG rfl|exact eL rfl|exact eLL rfl|exact eLLL rfl|exact eF|exact eGl)) (by (repeat (first|exact Split.here|exact Split.one|exact Split.all|apply Split.cons|apply Split.app))) hr hfr (by omega) (fun w' hh => SrcAt.slice (CellsAt.own hh.ownI (fun j u hj => by rw [List.getElem?_toArray]; exact hj)) rfl rfl (fun v hv => by simp [iv] at hv; subst hv; rfl)) rfl (by omega) rfl rfl rfl rfl ?_;intro r2 hr2 hfr2;have hrow2 := RowS.drop (xs := o.map iv ++ [iv i]) (T := 3) hfr2))
          refine jump_g ⟨(gd, o ++ [i], r2), ⟨hgd, hTo2, ?_, hfr2, ?_⟩, ?_, ?_, rfl, ?_⟩
          · rw [List.length_append, List.map_append]; exact hr2
          · show orderL l = orderP l (l.length + 1 - (o ++ [i]).length) (o ++ [i])
            rw [hord, List.length_append, List.length_singleton, show l.length + 1 - o.length = (l.length + 1 - (o.length + 1)) + 1 by omega]
            rw [orderP, hnext]
          · show l.length + 1 - (o ++ [i]).length < _
            rw [List.length_append, List.length_singleton]; omega
          · show ESub [(5, true, .slice (some ⟨gd, 0, none⟩) n n), (4, true, r2.val (o ++ [i]).length), (0, true, .slice A n c)] _
            rw [List.length_append, List.length_singleton]
            (repeat (first|exact ESub.nil|apply ESub.cons rfl))
          · show HKeep w ((gd, .cells (mk (doneOf n (o ++ [i]))) 4 (0, 0)) :: r2.hp ((o ++ [i]).map iv) 3) _
            rw [doneOf_snoc, ← hd, List.map_append]
            rw [← List.append_nil (r2.hp _ _)]
            show HKeep w ((gd, .cells (mk (d.set i true)) 4 (0, 0)) :: (r2.hp (o.map iv ++ [iv i]) 3 ++ [])) _
            (repeat (first|exact HKeep.refl|apply HKeep.keep|(apply HKeep.app;(·(repeat (first|exact Split.here|exact Split.one|exact Split.all|apply Split.cons|apply Split.app))))|(apply HKeep.pick;(·(repeat (first|exact Rem.here|apply Rem.there|apply Rem.app))))|apply HKeep.drop (by first|assumption|omega)|apply HKeep.dropA (by assumption)))
      · have hnone : nextR l (doneOf l.length o) = none := by rw [hlen, ← hd]; exact find_range_none (fun j hj => hno j (by omega))
        have hL : orderL l = o := by
          rw [hord, show l.length + 1 - o.length = (l.length - o.length) + 1 by omega]
          simp only [orderP]
          rw [hnone]
        by_cases hcyc : o.length < n
        · rw [hR, hL, if_pos hcyc]
          have hc1 : (o.length : Int) < (n : Int) := by omega
          repeat (first
            | apply jump_n|apply jump_r|apply jump_e|apply sp_goto|apply then_g|apply block_g|apply sp_label
            | (apply sp_cond_t;(·(first|exact eT rfl|exact eC|exact eG rfl|exact eL rfl|exact eLL rfl|exact eLLL rfl|exact eF|exact eGl));(·exact decide_eq_true hc1))
            | apply then_n|apply block_n|apply sp_seq|apply sp_region|apply spl_nil|apply then_r|apply block_r|apply then_e|apply block_here|apply block_past rfl
            | ((first|apply sp_cond_t|apply sp_cond_f);(·(first|exact eT rfl|exact eC|exact eG rfl|exact eL rfl|exact eLL rfl|exact eLLL rfl|exact eF|exact eGl));(·(first|exact decide_eq_true (by omega)|exact decide_eq_false (by omega)|assumption|rfl)))
            | (apply sp_cond_f;(·(first|exact eT rfl|exact eC|exact eG rfl|exact eL rfl|exact eLL rfl|exact eLLL rfl|exact eF|exact eGl));(·(first|exact decide_eq_false (by omega)|assumption|rfl)))
            | apply sp_skip|apply sp_ret|apply sp_exit|apply sp_block
            | ((first|apply spl_pure rfl|(apply spl_pure_g rfl;(·(first|exact Gd.none|exact Gd.tt rfl rfl|exact Gd.tf rfl rfl|exact Gd.gt rfl rfl|exact Gd.gf rfl rfl))));(·(first|((first|apply ex_move|apply ex_assign|apply ex_not|apply ex_lss|apply ex_len|apply ex_andT)<;>(first|exact eT rfl|exact eC|exact eG rfl|exact eL rfl|exact eLL rfl|exact eLLL rfl|exact eF|exact eGl))|((first|apply ex_slen|apply ex_orT|apply ex_slss)<;>(first|exact eT rfl|exact eC|exact eG rfl|exact eL rfl|exact eLL rfl|exact eLLL rfl|exact eF|exact eGl))|(apply ex_and<;>(first|exact eT rfl|exact eC|exact eG rfl|exact eL rfl|exact eLL rfl|exact eLLL rfl|exact eF|exact eGl))|(apply ex_or<;>(first|exact eT rfl|exact eC|exact eG rfl|exact eL rfl|exact eLL rfl|exact eLLL rfl|exact eF|exact eGl))|(apply ex_addn<;>(first|exact eT rfl|exact eC|exact eG rfl|exact eL rfl|exact eLL rfl|exact eLLL rfl|exact eF|exact eGl|(constructor<;>omega)))|(apply ex_add<;>(first|exact eT rfl|exact eC|exact eG rfl|exact eL rfl|exact eLL rfl|exact eLLL rfl|exact eF|exact eGl))|((first|apply ex_loadown|apply ex_indexAddr)<;>(first|exact eT rfl|exact eC|exact eG rfl|exact eL rfl|exact eLL rfl|exact eLLL rfl|exact eF|exact eGl|exact Bk.own InH.mem|exact Bk.old (by assumption) (Nat.le_refl _)|rfl|assumption|omega))|((first|apply ex_loadowns|apply ex_indexAddrI)<;>(first|exact eT rfl|exact eC|exact eG rfl|exact eL rfl|exact eLL rfl|exact eLLL rfl|exact eF|exact eGl|exact Bk.own InH.mem|exact Bk.old (by assumption) (Nat.le_refl _)|(first|rfl|assumption)|(constructor<;>omega))))))
            | (apply spl_alloc rfl;intro _ _)
            | (apply spl_store1;(·(first|exact eT rfl|exact eC|exact eG rfl|exact eL rfl|exact eLL rfl|exact eLLL rfl|exact eF|exact eGl));(·(first|exact eT rfl|exact eC|exact eG rfl|exact eL rfl|exact eLL rfl|exact eLLL rfl|exact eF|exact eGl));(·rfl);(·(repeat (first|exact Upd.here|apply Upd.there|apply Upd.app)));(·rfl))
            | (apply spl_stores;(·(first|exact eT rfl|exact eC|exact eG rfl|exact eL rfl|exact eLL rfl|exact eLLL rfl|exact eF|exact eGl));(·(first|exact eT rfl|exact eC|exact eG rfl|exact eL rfl|exact eLL rfl|exact eLLL rfl|exact eF|exact eGl));(·(repeat (first|exact Upd.here|apply Upd.there|apply Upd.app)));(·(first|rfl|assumption));(·(first|rfl|assumption));(·(first|exact Ones.one|assumption|exact ones_of_all rfl|decide|(intro v hv;simp at hv;(repeat (rcases hv with rfl | hv <;> first | rfl | skip));try (subst hv;rfl)))))
            | (apply spl_buildSlice rfl;(·rfl);(·(repeat (first|exact eN|(apply eS;(·(first|exact eT rfl|exact eC|exact eG rfl|exact eL rfl|exact eLL rfl|exact eLLL rfl|exact eF|exact eGl))))));(·rfl);(·rfl);(·rfl);intro _ _)
            | (apply spl_guard_t;(·(first|exact Gd.none|exact Gd.tt rfl rfl|exact Gd.tf rfl rfl|exact Gd.gt rfl rfl|exact Gd.gf rfl rfl));(·rfl))|(apply spl_guard_f;(·(first|exact Gd.none|exact Gd.tt rfl rfl|exact Gd.tf rfl rfl|exact Gd.gt rfl rfl|exact Gd.gf rfl rfl));(·rfl);(·rfl)))
          (apply retH_ok rfl;(·(first|(apply Res.ofOne;(first|(apply Res1.tmp;(·rfl))|(apply Res1.cell;(·rfl);(·exact InH.mem);(·(first|rfl|assumption)))|(apply Res1.cell1;(·rfl);(·exact InH.mem);(·rfl))))|(apply Res.ofTwo<;>(first|(apply Res1.tmp;(·rfl))|(apply Res1.cell;(·rfl);(·exact InH.mem);(·(first|rfl|assumption)))|(apply Res1.cell1;(·rfl);(·exact InH.mem);(·rfl))))|(apply Res.ofThree<;>(first|(apply Res1.tmp;(·rfl))|(apply Res1.cell;(·rfl);(·exact InH.mem);(·(first|rfl|assumption)))|(apply Res1.cell1;(·rfl);(·exact InH.mem);(·rfl))))|exact Res.none_)))
          exact ⟨RowS.start, rfl, RowS.ok_start, by (repeat (first|exact HKeep.refl|apply HKeep.keep|(apply HKeep.app;(·(repeat (first|exact Split.here|exact Split.one|exact Split.all|apply Split.cons|apply Split.app))))|(apply HKeep.pick;(·(repeat (first|exact Rem.here|apply Rem.there|apply Rem.app))))|apply HKeep.drop (by first|assumption|omega)|apply HKeep.dropA (by assumption))); exact HKeep.dropAll hrow⟩
        · rw [hR, hL, if_neg hcyc]
          have hc1 : ¬ (o.length : Int) < (n : Int) := by omega
          repeat (first
            | apply jump_n|apply jump_r|apply jump_e|apply sp_goto|apply then_g|apply block_g|apply sp_label
            | (apply sp_cond_f;(·(first|exact eT rfl|exact eC|exact eG rfl|exact eL rfl|exact eLL rfl|exact eLLL rfl|exact eF|exact eGl));(·exact decide_eq_false hc1))
            | apply then_n|apply block_n|apply sp_seq|apply sp_region|apply spl_nil|apply then_r|apply block_r|apply then_e|apply block_here|apply block_past rfl
            | ((first|apply sp_cond_t|apply sp_cond_f);(·(first|exact eT rfl|exact eC|exact eG rfl|exact eL rfl|exact eLL rfl|exact eLLL rfl|exact eF|exact eGl));(·(first|exact decide_eq_true (by omega)|exact decide_eq_false (by omega)|assumption|rfl)))
            | (apply sp_cond_f;(·(first|exact eT rfl|exact eC|exact eG rfl|exact eL rfl|exact eLL rfl|exact eLLL rfl|exact eF|exact eGl));(·(first|exact decide_eq_false (by omega)|assumption|rfl)))
            | apply sp_skip|apply sp_ret|apply sp_exit|apply sp_block
            | ((first|apply spl_pure rfl|(apply spl_pure_g rfl;(·(first|exact Gd.none|exact Gd.tt rfl rfl|exact Gd.tf rfl rfl|exact Gd.gt rfl rfl|exact Gd.gf rfl rfl))));(·(first|((first|apply ex_move|apply ex_assign|apply ex_not|apply ex_lss|apply ex_len|apply ex_andT)<;>(first|exact eT rfl|exact eC|exact eG rfl|exact eL rfl|exact eLL rfl|exact eLLL rfl|exact eF|exact eGl))|((first|apply ex_slen|apply ex_orT|apply ex_slss)<;>(first|exact eT rfl|exact eC|exact eG rfl|exact eL rfl|exact eLL rfl|exact eLLL rfl|exact eF|exact eGl))|(apply ex_and<;>(first|exact eT rfl|exact eC|exact eG rfl|exact eL rfl|exact eLL rfl|exact eLLL rfl|exact eF|exact eGl))|(apply ex_or<;>(first|exact eT rfl|exact eC|exact eG rfl|exact eL rfl|exact eLL rfl|exact eLLL rfl|exact eF|exact eGl))|(apply ex_addn<;>(first|exact eT rfl|exact eC|exact eG rfl|exact eL rfl|exact eLL rfl|exact eLLL rfl|exact eF|exact eGl|(constructor<;>omega)))|(apply ex_add<;>(first|exact eT rfl|exact eC|exact eG rfl|exact eL rfl|exact eLL rfl|exact eLLL rfl|exact eF|exact eGl))|((first|apply ex_loadown|apply ex_indexAddr)<;>(first|exact eT rfl|exact eC|exact eG rfl|exact eL rfl|exact eLL rfl|exact eLLL rfl|exact eF|exact eGl|exact Bk.own InH.mem|exact Bk.old (by assumption) (Nat.le_refl _)|rfl|assumption|omega))|((first|apply ex_loadowns|apply ex_indexAddrI)<;>(first|exact eT rfl|exact eC|exact eG rfl|exact eL rfl|exact eLL rfl|exact eLLL rfl|exact eF|exact eGl|exact Bk.own InH.mem|exact Bk.old (by assumption) (Nat.le_refl _)|(first|rfl|assumption)|(constructor<;>omega))))))
            | (apply spl_alloc rfl;intro _ _)
            | (apply spl_store1;(·(first|exact eT rfl|exact eC|exact eG rfl|exact eL rfl|exact eLL rfl|exact eLLL rfl|exact eF|exact eGl));(·(first|exact eT rfl|exact eC|exact eG rfl|exact eL rfl|exact eLL rfl|exact eLLL rfl|exact eF|exact eGl));(·rfl);(·(repeat (first|exact Upd.here|apply Upd.there|apply Upd.app)));(·rfl))
            | (apply spl_stores;(·(first|exact eT rfl|exact eC|exact eG rfl|exact eL rfl|exact eLL rfl|exact eLLL rfl|exact eF|exact eGl));(·(first|exact eT rfl|exact eC|exact eG rfl|exact eL rfl|exact eLL rfl|exact eLLL rfl|exact eF|exact eGl));(·(repeat (first|exact Upd.here|apply Upd.there|apply Upd.app)));(·(first|rfl|assumption));(·(first|rfl|assumption));(·(first|exact Ones.one|assumption|exact ones_of_all rfl|decide|(intro v hv;simp at hv;(repeat (rcases hv with rfl | hv <;> first | rfl | skip));try (subst hv;rfl)))))
            | (apply spl_buildSlice rfl;(·rfl);(·(repeat (first|exact eN|(apply eS;(·(first|exact eT rfl|exact eC|exact eG rfl|exact eL rfl|exact eLL rfl|exact eLLL rfl|exact eF|exact eGl))))));(·rfl);(·rfl);(·rfl);intro _ _)
            | (apply spl_guard_t;(·(first|exact Gd.none|exact Gd.tt rfl rfl|exact Gd.tf rfl rfl|exact Gd.gt rfl rfl|exact Gd.gf rfl rfl));(·rfl))|(apply spl_guard_f;(·(first|exact Gd.none|exact Gd.tt rfl rfl|exact Gd.tf rfl rfl|exact Gd.gt rfl rfl|exact Gd.gf rfl rfl));(·rfl);(·rfl)))
          (apply retH_ok rfl;(·(first|(apply Res.ofOne;(first|(apply Res1.tmp;(·rfl))|(apply Res1.cell;(·rfl);(·exact InH.mem);(·(first|rfl|assumption)))|(apply Res1.cell1;(·rfl);(·exact InH.mem);(·rfl))))|(apply Res.ofTwo<;>(first|(apply Res1.tmp;(·rfl))|(apply Res1.cell;(·rfl);(·exact InH.mem);(·(first|rfl|assumption)))|(apply Res1.cell1;(·rfl);(·exact InH.mem);(·rfl))))|(apply Res.ofThree<;>(first|(apply Res1.tmp;(·rfl))|(apply Res1.cell;(·rfl);(·exact InH.mem);(·(first|rfl|assumption)))|(apply Res1.cell1;(·rfl);(·exact InH.mem);(·rfl))))|exact Res.none_)))
          exact ⟨r, rfl, hr, by (repeat (first|exact HKeep.refl|apply HKeep.keep|(apply HKeep.app;(·(repeat (first|exact Split.here|exact Split.one|exact Split.all|apply Split.cons|apply Split.app))))|(apply HKeep.pick;(·(repeat (first|exact Rem.here|apply Rem.there|apply Rem.app))))|apply HKeep.drop (by first|assumption|omega)|apply HKeep.dropA (by assumption)))⟩
    · intro go
      repeat (first
        | apply jump_n|apply jump_r|apply jump_e|apply sp_goto|apply then_g|apply block_g|apply sp_label
        | (refine go (gd, [], RowS.start) _ _ ?_ ?_ ?_)
        | (apply spl_callp rfl;(·(repeat (first|exact eN|(apply eS;(·(first|exact eT rfl|exact eC|exact eG rfl|exact eL rfl|exact eLL rfl|exact eLLL rfl|exact eF|exact eGl))))));(·exact hval))
        | (apply spl_makeSlice rfl;(·(first|exact eT rfl|exact eC|exact eG rfl|exact eL rfl|exact eLL rfl|exact eLLL rfl|exact eF|exact eGl));(·(first|exact eT rfl|exact eC|exact eG rfl|exact eL rfl|exact eLL rfl|exact eLLL rfl|exact eF|exact eGl));(·rfl);(·omega);(·omega);intro gd hgd)
        | apply then_n|apply block_n|apply sp_seq|apply sp_region|apply spl_nil|apply then_r|apply block_r|apply then_e|apply block_here|apply block_past rfl
        | ((first|apply sp_cond_t|apply sp_cond_f);(·(first|exact eT rfl|exact eC|exact eG rfl|exact eL rfl|exact eLL rfl|exact eLLL rfl|exact eF|exact eGl));(·(first|exact decide_eq_true (by omega)|exact decide_eq_false (by omega)|assumption|rfl)))
        | (apply sp_cond_f;(·(first|exact eT rfl|exact eC|exact eG rfl|exact eL rfl|exact eLL rfl|exact eLLL rfl|exact eF|exact eGl));(·(first|exact decide_eq_false (by omega)|assumption|rfl)))
        | apply sp_skip|apply sp_ret|apply sp_exit|apply sp_block
        | ((first|apply spl_pure rfl|(apply spl_pure_g rfl;(·(first|exact Gd.none|exact Gd.tt rfl rfl|exact Gd.tf rfl rfl|exact Gd.gt rfl rfl|exact Gd.gf rfl rfl))));(·(first|((first|apply ex_move|apply ex_assign|apply ex_not|apply ex_lss|apply ex_len|apply ex_andT)<;>(first|exact eT rfl|exact eC|exact eG rfl|exact eL rfl|exact eLL rfl|exact eLLL rfl|exact eF|exact eGl))|((first|apply ex_slen|apply ex_orT|apply ex_slss)<;>(first|exact eT rfl|exact eC|exact eG rfl|exact eL rfl|exact eLL rfl|exact eLLL rfl|exact eF|exact eGl))|(apply ex_and<;>(first|exact eT rfl|exact eC|exact eG rfl|exact eL rfl|exact eLL rfl|exact eLLL rfl|exact eF|exact eGl))|(apply ex_or<;>(first|exact eT rfl|exact eC|exact eG rfl|exact eL rfl|exact eLL rfl|exact eLLL rfl|exact eF|exact eGl))|(apply ex_addn<;>(first|exact eT rfl|exact eC|exact eG rfl|exact eL rfl|exact eLL rfl|exact eLLL rfl|exact eF|exact eGl|(constructor<;>omega)))|(apply ex_add<;>(first|exact eT rfl|exact eC|exact eG rfl|exact eL rfl|exact eLL rfl|exact eLLL rfl|exact eF|exact eGl))|((first|apply ex_loadown|apply ex_indexAddr)<;>(first|exact eT rfl|exact eC|exact eG rfl|exact eL rfl|exact eLL rfl|exact eLLL rfl|exact eF|exact eGl|exact Bk.own InH.mem|exact Bk.old (by assumption) (Nat.le_refl _)|rfl|assumption|omega))|((first|apply ex_loadowns|apply ex_indexAddrI)<;>(first|exact eT rfl|exact eC|exact eG rfl|exact eL rfl|exact eLL rfl|exact eLLL rfl|exact eF|exact eGl|exact Bk.own InH.mem|exact Bk.old (by assumption) (Nat.le_refl _)|(first|rfl|assumption)|(constructor<;>omega))))))
        | (apply spl_alloc rfl;intro _ _)
        | (apply spl_store1;(·(first|exact eT rfl|exact eC|exact eG rfl|exact eL rfl|exact eLL rfl|exact eLLL rfl|exact eF|exact eGl));(·(first|exact eT rfl|exact eC|exact eG rfl|exact eL rfl|exact eLL rfl|exact eLLL rfl|exact eF|exact eGl));(·rfl);(·(repeat (first|exact Upd.here|apply Upd.there|apply Upd.app)));(·rfl))
        | (apply spl_stores;(·(first|exact eT rfl|exact eC|exact eG rfl|exact eL rfl|exact eLL rfl|exact eLLL rfl|exact eF|exact eGl));(·(first|exact eT rfl|exact eC|exact eG rfl|exact eL rfl|exact eLL rfl|exact eLLL rfl|exact eF|exact eGl));(·(repeat (first|exact Upd.here|apply Upd.there|apply Upd.app)));(·(first|rfl|assumption));(·(first|rfl|assumption));(·(first|exact Ones.one|assumption|exact ones_of_all rfl|decide|(intro v hv;simp at hv;(repeat (rcases hv with rfl | hv <;> first | rfl | skip));try (subst hv;rfl)))))
        | (apply spl_buildSlice rfl;(·rfl);(·(repeat (first|exact eN|(apply eS;(·(first|exact eT rfl|exact eC|exact eG rfl|exact eL rfl|exact eLL rfl|exact eLLL rfl|exact eF|exact eGl))))));(·rfl);(·rfl);(·rfl);intro _ _)
        | (apply spl_guard_t;(·(first|exact Gd.none|exact Gd.tt rfl rfl|exact Gd.tf rfl rfl|exact Gd.gt rfl rfl|exact Gd.gf rfl rfl));(·rfl))|(apply spl_guard_f;(·(first|exact Gd.none|exact Gd.tt rfl rfl|exact Gd.tf rfl rfl|exact Gd.gt rfl rfl|exact Gd.gf rfl rfl));(·rfl);(·rfl)))
      · exact ⟨hgd, Topo.nil, RowS.ok_start, RowS.fresh_start, rfl⟩
      · (repeat (first|exact ESub.nil|apply ESub.cons rfl))
      · rw [mk_rep]
        show HKeep w [(gd, _)] _
        (repeat (first|exact HKeep.refl|apply HKeep.keep|(apply HKeep.app;(·(repeat (first|exact Split.here|exact Split.one|exact Split.all|apply Split.cons|apply Split.app))))|(apply HKeep.pick;(·(repeat (first|exact Rem.here|apply Rem.there|apply Rem.app))))|apply HKeep.drop (by first|assumption|omega)|apply HKeep.dropA (by assumption)))
end Go.Proofs.Ytoogicafefennaa
