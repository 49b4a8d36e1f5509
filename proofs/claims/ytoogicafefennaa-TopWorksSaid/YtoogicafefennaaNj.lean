/-
  Contracts: a number put into an own row (slices.Insert).
-/
import Derived.Test.YtoogicafefennaaNi
namespace Go.Proofs.Ytoogicafefennaa
open Go.RowKit Go.Sy
set_option linter.unusedVariables false
set_option linter.unusedSimpArgs false
/-- A slice of a block: where it begins, its length, its room, the block's cells, the numbers. -/
structure OwnS (off n c : Nat) (cs : Array Value) (xs : List Nat) : Prop where
  room : n ≤ c
  fit : off + c ≤ cs.size
  len : xs.length = n
  cell : ∀ (j y : Nat), xs[j]? = some y → cs[off + j]? = some (iv y)
theorem OwnS.at_ {g off n c : Nat} {cs : Array Value} {xs : List Nat} (h : OwnS off n c cs xs) {w : World} {T : TypeId} (hg : w.heap[g]? = some (.cells cs T (0, 0))) (k : Nat) : CellsAt w (some ⟨g, off + k, none⟩) ((xs.drop k).map iv) := by
  intro j u hj
  rw [List.getElem?_map, List.getElem?_drop] at hj
  cases hx : xs[k + j]? with
  | none => rw [hx] at hj; cases hj
  | some y =>
    rw [hx] at hj
    cases hj
    refine ⟨_, rfl, ?_⟩
    rw [addr_add]
    simp only [World.cell?, hg]
    rw [Nat.add_assoc]
    exact h.cell _ y hx
theorem OwnS.rd {w : World} {g off n c : Nat} {cs : Array Value} {xs : List Nat} {T : TypeId} (h : OwnS off n c cs xs) (hg : w.heap[g]? = some (.cells cs T (0, 0))) (hn : n ≤ 9223372036854775807) : RdS w w.heap.size 1 natC (some ⟨g, off, none⟩) n xs :=
  ⟨h.len, hn, fun i x hx => ⟨_, rfl, (Array.getElem?_eq_some_iff.1 hg).1, rfl, fun j v hj => by
    have hj0 : j = 0 := by
      have := (Array.getElem?_eq_some_iff.1 hj).1
      simp [natC] at this
      omega
    subst hj0
    have : v = iv x := (Option.some.inj hj).symm
    subst this
    rw [add_add', addr_add]
    simp only [World.cell?, hg]
    rw [show off + (i * 1 + 0) = off + i by omega]
    exact h.cell i x hx⟩⟩
theorem setL_get {cs : Array Value} {o : Nat} {vs : List Value} (h : o + vs.length ≤ cs.size) (k : Nat) : (setL cs o vs)[k]? = if o ≤ k ∧ k < o + vs.length then vs[k - o]? else cs[k]? := by
  have e : (setL cs o vs)[k]? = (setL cs o vs).toList[k]? := by simp
  rw [e, setL_toList _ _ _ h, List.append_assoc, List.getElem?_append, List.getElem?_append]
  have hl : (cs.toList.take o).length = o := by rw [List.length_take]; simp; omega
  rw [hl]
  by_cases h1 : k < o
  · rw [if_pos h1, if_neg (by omega), List.getElem?_take, if_pos h1]; simp
  · rw [if_neg h1]
    by_cases h2 : k - o < vs.length
    · rw [if_pos h2, if_pos (by omega)]
    · rw [if_neg h2, if_neg (by omega), List.getElem?_drop]
      rw [show o + vs.length + (k - o - vs.length) = k by omega]; simp
/-- What lies in the row afterwards. -/
theorem ins_get {xs : List Nat} {i x j y : Nat} (hi : i ≤ xs.length) (h : (xs.insertIdx i x)[j]? = some y) : (j < i ∧ xs[j]? = some y) ∨ (j = i ∧ y = x) ∨ (i < j ∧ xs[j - 1]? = some y) := by
  rw [List.getElem?_insertIdx] at h
  split at h
  · rename_i hlt; exact .inl ⟨hlt, h⟩
  · split at h
    · rename_i h1 h2
      subst h2
      rw [if_pos hi] at h
      cases h
      exact .inr (.inl ⟨rfl, rfl⟩)
    · exact .inr (.inr ⟨by omega, h⟩)
theorem OwnS.shift {off n c i x : Nat} {cs : Array Value} {xs : List Nat} (h : OwnS off n c cs xs) (hi : i < n) (hc : n + 1 ≤ c) : OwnS off (n + 1) c (setL (setL cs (off + (i + 1)) ((xs.drop i).map iv)) (off + i) [iv x]) (xs.insertIdx i x) := by
  have hl := h.len
  have hf := h.fit
  have hdl : ((xs.drop i).map iv).length = n - i := by rw [List.length_map, List.length_drop, hl]
  refine ⟨hc, by rw [setL_size, setL_size]; exact hf, by rw [List.length_insertIdx_of_le_length (by omega), hl], fun j y hj => ?_⟩
  rw [setL_get (by rw [setL_size]; simp; omega), setL_get (by rw [hdl]; omega)]
  rcases ins_get (by omega) hj with ⟨h1, h2⟩ | ⟨rfl, rfl⟩ | ⟨h1, h2⟩
  · rw [if_neg (by omega), if_neg (by omega)]; exact h.cell j y h2
  · rw [if_pos (by simp)]; simp
  · have hjn : j - 1 < n := by rw [← hl]; exact (List.getElem?_eq_some_iff.1 h2).1
    rw [if_neg (by simp; omega), if_pos (by omega), List.getElem?_map, List.getElem?_drop, show i + (off + j - (off + (i + 1))) = j - 1 by omega, h2]
    rfl
theorem OwnS.endRoom {off n c x : Nat} {cs : Array Value} {xs : List Nat} (h : OwnS off n c cs xs) (hc : n + 1 ≤ c) : OwnS off (n + 1) c (setL cs (off + n * 1) [iv x]) (xs.insertIdx n x) := by
  have hl := h.len
  have hf := h.fit
  refine ⟨hc, by rw [setL_size]; exact hf, by rw [List.length_insertIdx_of_le_length (by omega), hl], fun j y hj => ?_⟩
  rw [setL_get (by simp; omega)]
  rcases ins_get (by omega) hj with ⟨h1, h2⟩ | ⟨rfl, rfl⟩ | ⟨h1, h2⟩
  · rw [if_neg (by omega)]; exact h.cell j y h2
  · rw [if_pos (by simp)]; simp
  · have := (List.getElem?_eq_some_iff.1 h2).1; omega
theorem OwnS.ofGrow {n c' x : Nat} {xs : List Nat} {tail : List Value} (hl : xs.length = n) (hc : n + 1 ≤ c') (ht : (xs.map iv ++ [iv x] ++ tail).length = c' * 1) : OwnS 0 (n + 1) c' (xs.map iv ++ [iv x] ++ tail).toArray (xs.insertIdx n x) := by
  refine ⟨hc, by rw [List.size_toArray, ht]; omega, by rw [List.length_insertIdx_of_le_length (by omega), hl], fun j y hj => ?_⟩
  rw [List.getElem?_toArray, Nat.zero_add, List.append_assoc, List.getElem?_append, List.length_map, hl, List.getElem?_map]
  rcases ins_get (by omega) hj with ⟨h1, h2⟩ | ⟨rfl, rfl⟩ | ⟨h1, h2⟩
  · rw [if_pos h1, h2]; rfl
  · rw [if_neg (by omega), Nat.sub_self]; rfl
  · have := (List.getElem?_eq_some_iff.1 h2).1; omega
theorem OwnS.ofNew {n c' i x : Nat} {xs : List Nat} {tail : List Value} {z : Value} (hl : xs.length = n) (hi : i < n) (hc : n + 1 ≤ c') (ht : ((xs.take i).map iv ++ List.replicate (n + 1 - i) z ++ tail).length = c') :
    OwnS 0 (n + 1) c' (setL (setL ((xs.take i).map iv ++ List.replicate (n + 1 - i) z ++ tail).toArray i [iv x]) (i + 1) ((xs.drop i).map iv)) (xs.insertIdx i x) := by
  have hdl : ((xs.drop i).map iv).length = n - i := by rw [List.length_map, List.length_drop, hl]
  refine ⟨hc, by rw [setL_size, setL_size, List.size_toArray, ht]; omega, by rw [List.length_insertIdx_of_le_length (by omega), hl], fun j y hj => ?_⟩
  rw [Nat.zero_add, setL_get (by rw [setL_size, hdl, List.size_toArray, ht]; omega), setL_get (by rw [List.size_toArray, ht]; simp; omega)]
  rcases ins_get (by omega) hj with ⟨h1, h2⟩ | ⟨rfl, rfl⟩ | ⟨h1, h2⟩
  · rw [if_neg (by omega), if_neg (by omega), List.getElem?_toArray, List.append_assoc, List.getElem?_append_left (by rw [List.length_map, List.length_take]; omega), List.getElem?_map, List.getElem?_take, if_pos h1, h2]
    rfl
  · rw [if_neg (by omega), if_pos (by simp)]; simp
  · have hjn : j - 1 < n := by rw [← hl]; exact (List.getElem?_eq_some_iff.1 h2).1
    rw [if_pos (by omega), List.getElem?_map, List.getElem?_drop, show i + (j - (i + 1)) = j - 1 by omega, h2]
    rfl
section
variable {P : Program} {Be : Nat} {w0 : World} {H : Heap} {G : Bool} {e : Env} {ty : TypeId}
theorem ex_slice_hN {t el sz : TypeId} {x y : Operand} {A : Option Addr} {n c : Nat} {k : IntKind} {h : Nat} (h1 : Ev G e x (.slice A n c)) (h2 : Ev G e y (.int k (h : Int))) (hb : h ≤ c) [ht : TSlice P t el] [hs : TSize P el sz] : Ex P Be w0 H G e (.slice t x none (some y) none) ty (.slice A h c) :=
  ex_slice_h h1 h2 (by omega)
end
theorem min_one {v : Value} {k : Nat} (h : 0 < k) : [v].length = Nat.min 1 k := (Nat.min_eq_left (show 1 ≤ k from h)).symm
theorem overlaps_run {w : World} {gv g off lb cb : Nat} {x : Value} {cs : Array Value} {T1 T2 : TypeId} (h1 : w.heap[gv]? = some (.cells #[x] T1 (0, 0))) (h2 : w.heap[g]? = some (.cells cs T2 (0, 0))) (hne : gv ≠ g) (hcs : 0 < cs.size) :
    (callFunc 62 #[.slice (some ⟨gv, 0, none⟩) 1 1, .slice (some ⟨g, off, none⟩) lb cb]).run Try.prog w = .ok (.value (.bool false)) w := by
  rw [run_callFunc_extern Try.func62 (by kernel_rfl) (by kernel_rfl) (by kernel_rfl) (e := Extern.SlicesOverlaps.overlaps #[25, 25] #[4]) (by kernel_rfl),
    Lib.run_overlaps_apart w 25 4 3 Try.underlying25 1 (fun w => TSize.run w) ⟨gv, 0, none⟩ ⟨g, off, none⟩ 1 1 lb cb hne T1 T2 1 cs.size (by simp [World.shape?, h1]) (by simp [World.shape?, h2]) (by omega) (by simp [World.frozen?, h1]) (by simp [World.frozen?, h1])]
  rfl
attribute [local irreducible] Calls thenQ blockQ retQ jumpQ Spc Spl Spq Ex Ev Evs Gd Upd ESub HKeep Res Res1 wlk effQ Rem SrcAt Split mk ldC
set_option maxRecDepth 100000 in
set_option maxHeartbeats 8000000 in
theorem insert_c {Be : Nat} {w0 w : World} {g off n c gv i x : Nat} {cs : Array Value} {xs : List Nat} {R : Heap} (hO : OwnS off n c cs xs) (hi : i ≤ n) (hn : n ≤ 1000) (hfr : w0.heap.size ≤ g)
    (hh : Hp Be w0 ((g, .cells cs 3 (0, 0)) :: (gv, .cells #[iv x] 3 (0, 0)) :: R) w) :
    Calls Try.prog 34 #[.slice (some ⟨g, off, none⟩) n c, .int .i64 (i : Int), .slice (some ⟨gv, 0, none⟩) 1 1] w
      (RetX Be w0 (fun y : Nat × Nat × Nat × Array Value => .slice (some ⟨y.1, y.2.1, none⟩) (n + 1) y.2.2.1) (fun y => (y.1, .cells y.2.2.2 3 (0, 0)) :: (gv, .cells #[iv x] 3 (0, 0)) :: R) (fun y => w0.heap.size ≤ y.1 ∧ OwnS y.2.1 (n + 1) y.2.2.1 y.2.2.2 (xs.insertIdx i x))) := by
  have hnc := hO.room
  have hfit := hO.fit
  have hlen := hO.len
  have hne : gv ≠ g := by
    have := hh.dist
    simp only [List.map_cons, List.nodup_cons, List.mem_cons, not_or] at this
    exact fun e => this.1.1 e.symm
  have hv0 : ∀ w', w'.heap[gv]? = some (.cells #[iv x] 3 (0, 0)) → CellsAt w' (some ⟨gv, 0, none⟩) [iv x] := fun w' hg => CellsAt.own hg (fun j u hj => by simpa using hj)
  have hv1 : ∀ v ∈ [iv x], v.oneCell' = true := fun v hv => by simp [iv] at hv; subst hv; rfl
  have hvs : ∀ ys : List Nat, ∀ v ∈ ys.map iv, v.oneCell' = true := fun ys v hv => by obtain ⟨y, _, rfl⟩ := List.mem_map.1 hv; rfl
  refine sp_enterM (vs := [_, _, _]) Try.func34 rfl Try.ntmps34 rfl hh ?_
  have h10 : ¬ ((1 : Nat) : Int) = 0 := by omega
  by_cases hin : i = n
  · subst hin
    by_cases hc : i + 1 ≤ c
    · have hE := hO.endRoom (x := x) hc
      repeat (first
        | (apply sp_cond_f;(·(first|exact eT rfl|exact eC|exact eG rfl|exact eL rfl|exact eLL rfl|exact eLLL rfl|exact eF|exact eGl));(·(exact decide_eq_false h10)))
        | (apply sp_cond_t;(·(first|exact eT rfl|exact eC|exact eG rfl|exact eL rfl|exact eLL rfl|exact eLLL rfl|exact eF|exact eGl));(·(exact decide_eq_true rfl)))
        | (apply spl_append_room (news := [iv x]) (m := 1);(·(first|exact eT rfl|exact eC|exact eG rfl|exact eL rfl|exact eLL rfl|exact eLLL rfl|exact eF|exact eGl));(·(first|exact eT rfl|exact eC|exact eG rfl|exact eL rfl|exact eLL rfl|exact eLLL rfl|exact eF|exact eGl));(·exact fun w' hh => SrcAt.slice (hv0 w' hh.ownI) rfl rfl hv1);(·exact hc);(·(repeat (first|exact Upd.here|apply Upd.there|apply Upd.app)));(·omega);(·rfl))
        | apply then_n|apply block_n|apply sp_seq|apply sp_region|apply spl_nil|apply then_r|apply block_r|apply then_e|apply block_here|apply block_past rfl
        | ((first|apply sp_cond_t|apply sp_cond_f);(·(first|exact eT rfl|exact eC|exact eG rfl|exact eL rfl|exact eLL rfl|exact eLLL rfl|exact eF|exact eGl));(·(first|exact decide_eq_true (by omega)|exact decide_eq_false (by omega)|assumption|rfl)))
        | (apply sp_cond_f;(·(first|exact eT rfl|exact eC|exact eG rfl|exact eL rfl|exact eLL rfl|exact eLLL rfl|exact eF|exact eGl));(·(first|exact decide_eq_false (by omega)|assumption|rfl)))
        | apply sp_skip|apply sp_ret|apply sp_exit|apply sp_block
        | ((first|apply spl_pure rfl|apply spq_pure rfl|(apply spl_pure_g rfl;(·(first|exact Gd.none|exact Gd.tt rfl rfl|exact Gd.tf rfl rfl|exact Gd.gt rfl rfl|exact Gd.gf rfl rfl)))|(apply spq_pure_g rfl;(·(first|exact Gd.none|exact Gd.tt rfl rfl|exact Gd.tf rfl rfl|exact Gd.gt rfl rfl|exact Gd.gf rfl rfl)))|apply wlk_read rfl rfl|(apply wlk_read_g rfl rfl;(·(first|exact Gd.none|exact Gd.tt rfl rfl|exact Gd.tf rfl rfl|exact Gd.gt rfl rfl|exact Gd.gf rfl rfl))));(·(first|(apply ex_slice_l1 (l:=i);(·(first|exact eT rfl|exact eC|exact eG rfl|exact eL rfl|exact eLL rfl|exact eLLL rfl|exact eF|exact eGl));(·(first|exact eT rfl|exact eC|exact eG rfl|exact eL rfl|exact eLL rfl|exact eLLL rfl|exact eF|exact eGl));(·omega);(·omega))|((first|apply ex_move|apply ex_assign|apply ex_not|apply ex_gtr|apply ex_seql|apply ex_len)<;>(first|exact eT rfl|exact eC|exact eG rfl|exact eL rfl|exact eLL rfl|exact eLLL rfl|exact eF|exact eGl))|((first|apply ex_eql|apply ex_slen)<;>(first|exact eT rfl|exact eC|exact eG rfl|exact eL rfl|exact eLL rfl|exact eLLL rfl|exact eF|exact eGl))|(apply ex_beql<;>(first|exact eT rfl|exact eC|exact eG rfl|exact eL rfl|exact eLL rfl|exact eLLL rfl|exact eF|exact eGl))|(apply ex_peql<;>(first|exact eT rfl|exact eC|exact eG rfl|exact eL rfl|exact eLL rfl|exact eLLL rfl|exact eF|exact eGl))|((first|apply ex_addn|apply ex_subn|apply ex_slice_h)<;>(first|exact eT rfl|exact eC|exact eG rfl|exact eL rfl|exact eLL rfl|exact eLLL rfl|exact eF|exact eGl|(constructor<;>omega)))|((first|apply ex_add|apply ex_sub)<;>(first|exact eT rfl|exact eC|exact eG rfl|exact eL rfl|exact eLL rfl|exact eLLL rfl|exact eF|exact eGl))|(apply ex_slice_lh<;>(first|exact eT rfl|exact eC|exact eG rfl|exact eL rfl|exact eLL rfl|exact eLLL rfl|exact eF|exact eGl|rfl|assumption|(refine ⟨?_,?_,?_⟩<;>omega)))|((first|apply ex_sslice_h|apply ex_sslice_l|apply ex_sslice)<;>(first|exact eT rfl|exact eC|exact eG rfl|exact eL rfl|exact eLL rfl|exact eLLL rfl|exact eF|exact eGl|(constructor<;>omega)|(refine ⟨?_,?_,?_⟩<;>omega))))))
        | (apply effq;(·(intro h_;(first|(exact absurd h_ (by decide))|(repeat (first|exact HKeep.refl|apply HKeep.keep|(apply HKeep.app;(·(repeat (first|exact Split.here|exact Split.one|exact Split.all|apply Split.cons|apply Split.app))))|(apply HKeep.pick;(·(repeat (first|exact Rem.here|apply Rem.there|apply Rem.app))))|apply HKeep.drop (by first|assumption|omega)|apply HKeep.dropA (by assumption)))))))|apply wlk_nil|apply wlk_eff rfl)
      (apply retX_ok rfl;(·(first|(apply Res.ofOne;(first|(apply Res1.tmp;(·rfl))|(apply Res1.cell;(·rfl);(·exact InH.mem);(·(first|rfl|assumption)))|(apply Res1.cell1;(·rfl);(·exact InH.mem);(·rfl))))|(apply Res.ofTwo<;>(first|(apply Res1.tmp;(·rfl))|(apply Res1.cell;(·rfl);(·exact InH.mem);(·(first|rfl|assumption)))|(apply Res1.cell1;(·rfl);(·exact InH.mem);(·rfl))))|(apply Res.ofThree<;>(first|(apply Res1.tmp;(·rfl))|(apply Res1.cell;(·rfl);(·exact InH.mem);(·(first|rfl|assumption)))|(apply Res1.cell1;(·rfl);(·exact InH.mem);(·rfl))))|exact Res.none_)))
      exact ⟨(g, off, c, _), rfl, ⟨hfr, hE⟩, by (repeat (first|exact HKeep.refl|apply HKeep.keep|(apply HKeep.app;(·(repeat (first|exact Split.here|exact Split.one|exact Split.all|apply Split.cons|apply Split.app))))|(apply HKeep.pick;(·(repeat (first|exact Rem.here|apply Rem.there|apply Rem.app))))|apply HKeep.drop (by first|assumption|omega)|apply HKeep.dropA (by assumption)))⟩
    · have hci : c = i := by omega
      have hol : (xs.map iv).length = i * 1 := by rw [List.length_map, hlen]; omega
      have hats : ∀ w', w'.heap[g]? = some (.cells cs 3 (0, 0)) → CellsAt w' (some ⟨g, off, none⟩) (xs.map iv) := fun w' hg => by simpa using hO.at_ hg 0
      repeat (first
        | (apply sp_cond_f;(·(first|exact eT rfl|exact eC|exact eG rfl|exact eL rfl|exact eLL rfl|exact eLLL rfl|exact eF|exact eGl));(·(exact decide_eq_false h10)))
        | (apply sp_cond_t;(·(first|exact eT rfl|exact eC|exact eG rfl|exact eL rfl|exact eLL rfl|exact eLLL rfl|exact eF|exact eGl));(·(exact decide_eq_true rfl)))
        | (apply spl_append_grow (olds := xs.map iv) (news := [iv x]) (m := 1);(·(first|exact eT rfl|exact eC|exact eG rfl|exact eL rfl|exact eLL rfl|exact eLLL rfl|exact eF|exact eGl));(·(first|exact eT rfl|exact eC|exact eG rfl|exact eL rfl|exact eLL rfl|exact eLLL rfl|exact eF|exact eGl));(·exact fun w' hh => hats w' hh.ownI);(·exact hol);(·exact fun w' hh => SrcAt.slice (hv0 w' hh.ownI) rfl rfl hv1);(·omega);(·omega);(·rfl);(·rfl);(·rfl);(·rfl);intro g' cap' tail hg' hcap hsz)
        | apply then_n|apply block_n|apply sp_seq|apply sp_region|apply spl_nil|apply then_r|apply block_r|apply then_e|apply block_here|apply block_past rfl
        | ((first|apply sp_cond_t|apply sp_cond_f);(·(first|exact eT rfl|exact eC|exact eG rfl|exact eL rfl|exact eLL rfl|exact eLLL rfl|exact eF|exact eGl));(·(first|exact decide_eq_true (by omega)|exact decide_eq_false (by omega)|assumption|rfl)))
        | (apply sp_cond_f;(·(first|exact eT rfl|exact eC|exact eG rfl|exact eL rfl|exact eLL rfl|exact eLLL rfl|exact eF|exact eGl));(·(first|exact decide_eq_false (by omega)|assumption|rfl)))
        | apply sp_skip|apply sp_ret|apply sp_exit|apply sp_block
        | ((first|apply spl_pure rfl|apply spq_pure rfl|(apply spl_pure_g rfl;(·(first|exact Gd.none|exact Gd.tt rfl rfl|exact Gd.tf rfl rfl|exact Gd.gt rfl rfl|exact Gd.gf rfl rfl)))|(apply spq_pure_g rfl;(·(first|exact Gd.none|exact Gd.tt rfl rfl|exact Gd.tf rfl rfl|exact Gd.gt rfl rfl|exact Gd.gf rfl rfl)))|apply wlk_read rfl rfl|(apply wlk_read_g rfl rfl;(·(first|exact Gd.none|exact Gd.tt rfl rfl|exact Gd.tf rfl rfl|exact Gd.gt rfl rfl|exact Gd.gf rfl rfl))));(·(first|(apply ex_slice_l0 (l:=i);(·(first|exact eT rfl|exact eC|exact eG rfl|exact eL rfl|exact eLL rfl|exact eLLL rfl|exact eF|exact eGl));(·(first|exact eT rfl|exact eC|exact eG rfl|exact eL rfl|exact eLL rfl|exact eLLL rfl|exact eF|exact eGl));(·omega);(·omega))|((first|apply ex_move|apply ex_assign|apply ex_not|apply ex_gtr|apply ex_seql|apply ex_len)<;>(first|exact eT rfl|exact eC|exact eG rfl|exact eL rfl|exact eLL rfl|exact eLLL rfl|exact eF|exact eGl))|((first|apply ex_eql|apply ex_slen)<;>(first|exact eT rfl|exact eC|exact eG rfl|exact eL rfl|exact eLL rfl|exact eLLL rfl|exact eF|exact eGl))|(apply ex_beql<;>(first|exact eT rfl|exact eC|exact eG rfl|exact eL rfl|exact eLL rfl|exact eLLL rfl|exact eF|exact eGl))|(apply ex_peql<;>(first|exact eT rfl|exact eC|exact eG rfl|exact eL rfl|exact eLL rfl|exact eLLL rfl|exact eF|exact eGl))|((first|apply ex_addn|apply ex_subn|apply ex_slice_h)<;>(first|exact eT rfl|exact eC|exact eG rfl|exact eL rfl|exact eLL rfl|exact eLLL rfl|exact eF|exact eGl|(constructor<;>omega)))|((first|apply ex_add|apply ex_sub)<;>(first|exact eT rfl|exact eC|exact eG rfl|exact eL rfl|exact eLL rfl|exact eLLL rfl|exact eF|exact eGl))|(apply ex_slice_lh<;>(first|exact eT rfl|exact eC|exact eG rfl|exact eL rfl|exact eLL rfl|exact eLLL rfl|exact eF|exact eGl|rfl|assumption|(refine ⟨?_,?_,?_⟩<;>omega)))|((first|apply ex_sslice_h|apply ex_sslice_l|apply ex_sslice)<;>(first|exact eT rfl|exact eC|exact eG rfl|exact eL rfl|exact eLL rfl|exact eLLL rfl|exact eF|exact eGl|(constructor<;>omega)|(refine ⟨?_,?_,?_⟩<;>omega))))))
        | (apply effq;(·(intro h_;(first|(exact absurd h_ (by decide))|(repeat (first|exact HKeep.refl|apply HKeep.keep|(apply HKeep.app;(·(repeat (first|exact Split.here|exact Split.one|exact Split.all|apply Split.cons|apply Split.app))))|(apply HKeep.pick;(·(repeat (first|exact Rem.here|apply Rem.there|apply Rem.app))))|apply HKeep.drop (by first|assumption|omega)|apply HKeep.dropA (by assumption)))))))|apply wlk_nil|apply wlk_eff rfl)
      (apply retX_ok rfl;(·(first|(apply Res.ofOne;(first|(apply Res1.tmp;(·rfl))|(apply Res1.cell;(·rfl);(·exact InH.mem);(·(first|rfl|assumption)))|(apply Res1.cell1;(·rfl);(·exact InH.mem);(·rfl))))|(apply Res.ofTwo<;>(first|(apply Res1.tmp;(·rfl))|(apply Res1.cell;(·rfl);(·exact InH.mem);(·(first|rfl|assumption)))|(apply Res1.cell1;(·rfl);(·exact InH.mem);(·rfl))))|(apply Res.ofThree<;>(first|(apply Res1.tmp;(·rfl))|(apply Res1.cell;(·rfl);(·exact InH.mem);(·(first|rfl|assumption)))|(apply Res1.cell1;(·rfl);(·exact InH.mem);(·rfl))))|exact Res.none_)))
      exact ⟨(g', 0, cap', _), rfl, ⟨hg', OwnS.ofGrow hlen hcap hsz⟩, by (repeat (first|exact HKeep.refl|apply HKeep.keep|(apply HKeep.app;(·(repeat (first|exact Split.here|exact Split.one|exact Split.all|apply Split.cons|apply Split.app))))|(apply HKeep.pick;(·(repeat (first|exact Rem.here|apply Rem.there|apply Rem.app))))|apply HKeep.drop (by first|assumption|omega)|apply HKeep.dropA (by assumption)))⟩
  · have hin' : i < n := by omega
    have hne2 : ¬ (i : Int) = (n : Int) := by omega
    have hn1 : (n : Int) + ((1 : Nat) : Int) = ((n + 1 : Nat) : Int) := by omega
    have hi1 : (i : Int) + ((1 : Nat) : Int) = ((i + 1 : Nat) : Int) := by omega
    have hdl : ((xs.drop i).map iv).length = n - i := by rw [List.length_map, List.length_drop, hlen]
    have hats : ∀ w', w'.heap[g]? = some (.cells cs 3 (0, 0)) → CellsAt w' (some ⟨g, off + i, none⟩) ((xs.drop i).map iv) := fun w' hg => hO.at_ hg i
    by_cases hc : n + 1 ≤ c
    · have hS := hO.shift (x := x) hin' hc
      have hcp : ¬ (c : Int) < ((n + 1 : Nat) : Int) := by omega
      have hcs0 : 0 < cs.size := by omega
      repeat (first
        | (apply sp_cond_f;(·(first|exact eT rfl|exact eC|exact eG rfl|exact eL rfl|exact eLL rfl|exact eLLL rfl|exact eF|exact eGl));(·(exact decide_eq_false h10)))
        | (apply sp_cond_f;(·(first|exact eT rfl|exact eC|exact eG rfl|exact eL rfl|exact eLL rfl|exact eLLL rfl|exact eF|exact eGl));(·(exact decide_eq_false hne2)))
        | (apply sp_cond_f;(·(first|exact eT rfl|exact eC|exact eG rfl|exact eL rfl|exact eLL rfl|exact eLLL rfl|exact eF|exact eGl));(·rfl))
        | (apply sp_cond_t;(·(first|exact eT rfl|exact eC|exact eG rfl|exact eL rfl|exact eLL rfl|exact eLLL rfl|exact eF|exact eGl));(·rfl))
        | (refine sp_drawn (id := 15) [(0, true), (1, true), (2, true), (3, true), (4, true), (5, true), (6, true), (7, true), (8, false)] 8 _ mixed ?_ HKeep.refl ?_;(·kernel_rfl))
        | (apply spl_copyC (vs := (xs.drop i).map iv) rfl;(·(first|exact eT rfl|exact eC|exact eG rfl|exact eL rfl|exact eLL rfl|exact eLLL rfl|exact eF|exact eGl));(·(first|exact eT rfl|exact eC|exact eG rfl|exact eL rfl|exact eLL rfl|exact eLLL rfl|exact eF|exact eGl));(·exact fun w' hh => hats w' hh.ownI);(·(rw [hdl, show n + 1 - (i + 1) = n - i by omega];exact (Nat.min_eq_right (by omega)).symm));(·omega);(·exact hvs _);(·rfl);(·(repeat (first|exact Upd.here|apply Upd.there|apply Upd.app)));(·omega))
        | (apply spl_copyC (vs := [iv x]) rfl;(·(first|exact eT rfl|exact eC|exact eG rfl|exact eL rfl|exact eLL rfl|exact eLLL rfl|exact eF|exact eGl));(·(first|exact eT rfl|exact eC|exact eG rfl|exact eL rfl|exact eLL rfl|exact eLLL rfl|exact eF|exact eGl));(·exact fun w' hh => hv0 w' hh.ownI);(·(apply min_one;omega));(·exact Nat.one_pos);(·exact hv1);(·rfl);(·(repeat (first|exact Upd.here|apply Upd.there|apply Upd.app)));(·(rw [setL_size];simp only [List.length_singleton];omega)))
        | apply then_n|apply block_n|apply sp_seq|apply sp_region|apply spl_nil|apply then_r|apply block_r|apply then_e|apply block_here|apply block_past rfl
        | ((first|apply sp_cond_t|apply sp_cond_f);(·(first|exact eT rfl|exact eC|exact eG rfl|exact eL rfl|exact eLL rfl|exact eLLL rfl|exact eF|exact eGl));(·(first|exact decide_eq_true (by omega)|exact decide_eq_false (by omega)|assumption|rfl)))
        | (apply sp_cond_f;(·(first|exact eT rfl|exact eC|exact eG rfl|exact eL rfl|exact eLL rfl|exact eLLL rfl|exact eF|exact eGl));(·(first|exact decide_eq_false (by omega)|assumption|rfl)))
        | apply sp_skip|apply sp_ret|apply sp_exit|apply sp_block
        | ((first|apply spl_pure rfl|apply spq_pure rfl|(apply spl_pure_g rfl;(·(first|exact Gd.none|exact Gd.tt rfl rfl|exact Gd.tf rfl rfl|exact Gd.gt rfl rfl|exact Gd.gf rfl rfl)))|(apply spq_pure_g rfl;(·(first|exact Gd.none|exact Gd.tt rfl rfl|exact Gd.tf rfl rfl|exact Gd.gt rfl rfl|exact Gd.gf rfl rfl)))|apply wlk_read rfl rfl|(apply wlk_read_g rfl rfl;(·(first|exact Gd.none|exact Gd.tt rfl rfl|exact Gd.tf rfl rfl|exact Gd.gt rfl rfl|exact Gd.gf rfl rfl))));(·(first|(apply ex_gtrF hcp;(·(first|exact eT rfl|exact eC|exact eG rfl|exact eL rfl|exact eLL rfl|exact eLLL rfl|exact eF|exact eGl));(·(first|exact eT rfl|exact eC|exact eG rfl|exact eL rfl|exact eLL rfl|exact eLLL rfl|exact eF|exact eGl)))|(apply ex_addK hn1;(·(first|exact eT rfl|exact eC|exact eG rfl|exact eL rfl|exact eLL rfl|exact eLLL rfl|exact eF|exact eGl));(·(first|exact eT rfl|exact eC|exact eG rfl|exact eL rfl|exact eLL rfl|exact eLLL rfl|exact eF|exact eGl));(·(constructor<;>omega)))|(apply ex_addK hi1;(·(first|exact eT rfl|exact eC|exact eG rfl|exact eL rfl|exact eLL rfl|exact eLLL rfl|exact eF|exact eGl));(·(first|exact eT rfl|exact eC|exact eG rfl|exact eL rfl|exact eLL rfl|exact eLLL rfl|exact eF|exact eGl));(·(constructor<;>omega)))|(apply ex_slice_l1 (l:=i);(·(first|exact eT rfl|exact eC|exact eG rfl|exact eL rfl|exact eLL rfl|exact eLLL rfl|exact eF|exact eGl));(·(first|exact eT rfl|exact eC|exact eG rfl|exact eL rfl|exact eLL rfl|exact eLLL rfl|exact eF|exact eGl));(·omega);(·omega))|(apply ex_slice_l1 (l:=i+1);(·(first|exact eT rfl|exact eC|exact eG rfl|exact eL rfl|exact eLL rfl|exact eLLL rfl|exact eF|exact eGl));(·(first|exact eT rfl|exact eC|exact eG rfl|exact eL rfl|exact eLL rfl|exact eLLL rfl|exact eF|exact eGl));(·omega);(·omega))|(apply ex_slice_hN (h:=n+1);(·(first|exact eT rfl|exact eC|exact eG rfl|exact eL rfl|exact eLL rfl|exact eLLL rfl|exact eF|exact eGl));(·(first|exact eT rfl|exact eC|exact eG rfl|exact eL rfl|exact eLL rfl|exact eLLL rfl|exact eF|exact eGl));(·omega))|(apply ex_externH (v:=.bool false);(·(repeat (first|exact eN|(apply eS;(·(first|exact eT rfl|exact eC|exact eG rfl|exact eL rfl|exact eLL rfl|exact eLLL rfl|exact eF|exact eGl))))));(·exact fun w' hh => overlaps_run hh.ownI hh.ownI hne hcs0))|(apply ex_cap;(·(first|exact eT rfl|exact eC|exact eG rfl|exact eL rfl|exact eLL rfl|exact eLLL rfl|exact eF|exact eGl)))|((first|apply ex_move|apply ex_assign|apply ex_not|apply ex_gtr|apply ex_seql|apply ex_len)<;>(first|exact eT rfl|exact eC|exact eG rfl|exact eL rfl|exact eLL rfl|exact eLLL rfl|exact eF|exact eGl))|((first|apply ex_eql|apply ex_slen)<;>(first|exact eT rfl|exact eC|exact eG rfl|exact eL rfl|exact eLL rfl|exact eLLL rfl|exact eF|exact eGl))|(apply ex_beql<;>(first|exact eT rfl|exact eC|exact eG rfl|exact eL rfl|exact eLL rfl|exact eLLL rfl|exact eF|exact eGl))|(apply ex_peql<;>(first|exact eT rfl|exact eC|exact eG rfl|exact eL rfl|exact eLL rfl|exact eLLL rfl|exact eF|exact eGl))|((first|apply ex_addn|apply ex_subn|apply ex_slice_h)<;>(first|exact eT rfl|exact eC|exact eG rfl|exact eL rfl|exact eLL rfl|exact eLLL rfl|exact eF|exact eGl|(constructor<;>omega)))|((first|apply ex_add|apply ex_sub)<;>(first|exact eT rfl|exact eC|exact eG rfl|exact eL rfl|exact eLL rfl|exact eLLL rfl|exact eF|exact eGl))|(apply ex_slice_lh<;>(first|exact eT rfl|exact eC|exact eG rfl|exact eL rfl|exact eLL rfl|exact eLLL rfl|exact eF|exact eGl|rfl|assumption|(refine ⟨?_,?_,?_⟩<;>omega)))|((first|apply ex_sslice_h|apply ex_sslice_l|apply ex_sslice)<;>(first|exact eT rfl|exact eC|exact eG rfl|exact eL rfl|exact eLL rfl|exact eLLL rfl|exact eF|exact eGl|(constructor<;>omega)|(refine ⟨?_,?_,?_⟩<;>omega))))))
        | (apply effq;(·(intro h_;(first|(exact absurd h_ (by decide))|(repeat (first|exact HKeep.refl|apply HKeep.keep|(apply HKeep.app;(·(repeat (first|exact Split.here|exact Split.one|exact Split.all|apply Split.cons|apply Split.app))))|(apply HKeep.pick;(·(repeat (first|exact Rem.here|apply Rem.there|apply Rem.app))))|apply HKeep.drop (by first|assumption|omega)|apply HKeep.dropA (by assumption)))))))|apply wlk_nil|apply wlk_eff rfl)
      (apply retX_ok rfl;(·(first|(apply Res.ofOne;(first|(apply Res1.tmp;(·rfl))|(apply Res1.cell;(·rfl);(·exact InH.mem);(·(first|rfl|assumption)))|(apply Res1.cell1;(·rfl);(·exact InH.mem);(·rfl))))|(apply Res.ofTwo<;>(first|(apply Res1.tmp;(·rfl))|(apply Res1.cell;(·rfl);(·exact InH.mem);(·(first|rfl|assumption)))|(apply Res1.cell1;(·rfl);(·exact InH.mem);(·rfl))))|(apply Res.ofThree<;>(first|(apply Res1.tmp;(·rfl))|(apply Res1.cell;(·rfl);(·exact InH.mem);(·(first|rfl|assumption)))|(apply Res1.cell1;(·rfl);(·exact InH.mem);(·rfl))))|exact Res.none_)))
      exact ⟨(g, off, c, _), rfl, ⟨hfr, hS⟩, by (repeat (first|exact HKeep.refl|apply HKeep.keep|(apply HKeep.app;(·(repeat (first|exact Split.here|exact Split.one|exact Split.all|apply Split.cons|apply Split.app))))|(apply HKeep.pick;(·(repeat (first|exact Rem.here|apply Rem.there|apply Rem.app))))|apply HKeep.drop (by first|assumption|omega)|apply HKeep.dropA (by assumption)))⟩
    · have hcn : c = n := by omega
      have hcp : (c : Int) < ((n + 1 : Nat) : Int) := by omega
      have hsub : ((n + 1 : Nat) : Int) - (i : Int) = ((n + 1 - i : Nat) : Int) := by omega
      have hsum : i + (n + 1 - i) = n + 1 := by omega
      have htl : ((xs.take i).map iv).length = i := by rw [List.length_map, List.length_take]; omega
      have hat0 : ∀ w', w'.heap[g]? = some (.cells cs 3 (0, 0)) → CellsAt w' (some ⟨g, off, none⟩) ((xs.take i).map iv) := fun w' hg => by
        have h0 : CellsAt w' (some ⟨g, off, none⟩) (xs.map iv) := by simpa using hO.at_ hg 0
        intro j u hj
        rw [List.getElem?_map, List.getElem?_take] at hj
        split at hj
        · exact h0 j u (by rw [List.getElem?_map]; exact hj)
        · cases hj
      repeat (first
        | (apply sp_cond_f;(·(first|exact eT rfl|exact eC|exact eG rfl|exact eL rfl|exact eLL rfl|exact eLLL rfl|exact eF|exact eGl));(·(exact decide_eq_false h10)))
        | (apply sp_cond_f;(·(first|exact eT rfl|exact eC|exact eG rfl|exact eL rfl|exact eLL rfl|exact eLLL rfl|exact eF|exact eGl));(·(exact decide_eq_false hne2)))
        | (apply sp_cond_t;(·(first|exact eT rfl|exact eC|exact eG rfl|exact eL rfl|exact eLL rfl|exact eLLL rfl|exact eF|exact eGl));(·rfl))
        | (refine sp_drawn (id := 11) [(0, true), (1, true), (2, true), (3, true), (4, true), (5, true), (6, true), (7, true), (8, false)] 8 _ mixed ?_ HKeep.refl ?_;(·kernel_rfl))
        | (apply spl_append_zeros (olds := (xs.take i).map iv) (m := n + 1 - i);(·(first|exact eT rfl|exact eC|exact eG rfl|exact eL rfl|exact eLL rfl|exact eLLL rfl|exact eF|exact eGl));(·(first|exact eT rfl|exact eC|exact eG rfl|exact eL rfl|exact eLL rfl|exact eLLL rfl|exact eF|exact eGl));(·exact fun w' hh => hat0 w' hh.ownI);(·exact htl);(·omega);(·omega);(·omega);(·rfl);(·rfl);(·rfl);intro g' cap' tail hg' hcap hsz;rw [hsum] at hcap ⊢)
        | (apply spl_copyC (vs := (xs.drop i).map iv) rfl;(·(first|exact eT rfl|exact eC|exact eG rfl|exact eL rfl|exact eLL rfl|exact eLLL rfl|exact eF|exact eGl));(·(first|exact eT rfl|exact eC|exact eG rfl|exact eL rfl|exact eLL rfl|exact eLLL rfl|exact eF|exact eGl));(·exact fun w' hh => hats w' hh.ownI);(·(rw [hdl, show n + 1 - (i + 1) = n - i by omega];exact (Nat.min_self _).symm));(·omega);(·exact hvs _);(·(rw [Nat.zero_add]));(·(repeat (first|exact Upd.here|apply Upd.there|apply Upd.app)));(·(rw [setL_size, List.size_toArray, hsz, hdl];omega)))
        | (apply spl_copyC (vs := [iv x]) rfl;(·(first|exact eT rfl|exact eC|exact eG rfl|exact eL rfl|exact eLL rfl|exact eLLL rfl|exact eF|exact eGl));(·(first|exact eT rfl|exact eC|exact eG rfl|exact eL rfl|exact eLL rfl|exact eLLL rfl|exact eF|exact eGl));(·exact fun w' hh => hv0 w' hh.ownI);(·(apply min_one;omega));(·exact Nat.one_pos);(·exact hv1);(·(rw [Nat.zero_add]));(·(repeat (first|exact Upd.here|apply Upd.there|apply Upd.app)));(·(rw [List.size_toArray, hsz];simp only [List.length_singleton];omega)))
        | apply then_n|apply block_n|apply sp_seq|apply sp_region|apply spl_nil|apply then_r|apply block_r|apply then_e|apply block_here|apply block_past rfl
        | ((first|apply sp_cond_t|apply sp_cond_f);(·(first|exact eT rfl|exact eC|exact eG rfl|exact eL rfl|exact eLL rfl|exact eLLL rfl|exact eF|exact eGl));(·(first|exact decide_eq_true (by omega)|exact decide_eq_false (by omega)|assumption|rfl)))
        | (apply sp_cond_f;(·(first|exact eT rfl|exact eC|exact eG rfl|exact eL rfl|exact eLL rfl|exact eLLL rfl|exact eF|exact eGl));(·(first|exact decide_eq_false (by omega)|assumption|rfl)))
        | apply sp_skip|apply sp_ret|apply sp_exit|apply sp_block
        | ((first|apply spl_pure rfl|apply spq_pure rfl|(apply spl_pure_g rfl;(·(first|exact Gd.none|exact Gd.tt rfl rfl|exact Gd.tf rfl rfl|exact Gd.gt rfl rfl|exact Gd.gf rfl rfl)))|(apply spq_pure_g rfl;(·(first|exact Gd.none|exact Gd.tt rfl rfl|exact Gd.tf rfl rfl|exact Gd.gt rfl rfl|exact Gd.gf rfl rfl)))|apply wlk_read rfl rfl|(apply wlk_read_g rfl rfl;(·(first|exact Gd.none|exact Gd.tt rfl rfl|exact Gd.tf rfl rfl|exact Gd.gt rfl rfl|exact Gd.gf rfl rfl))));(·(first|(apply ex_gtrT hcp;(·(first|exact eT rfl|exact eC|exact eG rfl|exact eL rfl|exact eLL rfl|exact eLLL rfl|exact eF|exact eGl));(·(first|exact eT rfl|exact eC|exact eG rfl|exact eL rfl|exact eLL rfl|exact eLLL rfl|exact eF|exact eGl)))|(apply ex_addK hn1;(·(first|exact eT rfl|exact eC|exact eG rfl|exact eL rfl|exact eLL rfl|exact eLLL rfl|exact eF|exact eGl));(·(first|exact eT rfl|exact eC|exact eG rfl|exact eL rfl|exact eLL rfl|exact eLLL rfl|exact eF|exact eGl));(·(constructor<;>omega)))|(apply ex_addK hi1;(·(first|exact eT rfl|exact eC|exact eG rfl|exact eL rfl|exact eLL rfl|exact eLLL rfl|exact eF|exact eGl));(·(first|exact eT rfl|exact eC|exact eG rfl|exact eL rfl|exact eLL rfl|exact eLLL rfl|exact eF|exact eGl));(·(constructor<;>omega)))|(apply ex_subE hsub;(·(first|exact eT rfl|exact eC|exact eG rfl|exact eL rfl|exact eLL rfl|exact eLLL rfl|exact eF|exact eGl));(·(first|exact eT rfl|exact eC|exact eG rfl|exact eL rfl|exact eLL rfl|exact eLLL rfl|exact eF|exact eGl));(·(constructor<;>omega)))|(apply ex_slice_l1 (l:=i);(·(first|exact eT rfl|exact eC|exact eG rfl|exact eL rfl|exact eLL rfl|exact eLLL rfl|exact eF|exact eGl));(·(first|exact eT rfl|exact eC|exact eG rfl|exact eL rfl|exact eLL rfl|exact eLLL rfl|exact eF|exact eGl));(·omega);(·omega))|(apply ex_slice_l1 (l:=i+1);(·(first|exact eT rfl|exact eC|exact eG rfl|exact eL rfl|exact eLL rfl|exact eLLL rfl|exact eF|exact eGl));(·(first|exact eT rfl|exact eC|exact eG rfl|exact eL rfl|exact eLL rfl|exact eLLL rfl|exact eF|exact eGl));(·omega);(·omega))|(apply ex_slice_hN (h:=i);(·(first|exact eT rfl|exact eC|exact eG rfl|exact eL rfl|exact eLL rfl|exact eLLL rfl|exact eF|exact eGl));(·(first|exact eT rfl|exact eC|exact eG rfl|exact eL rfl|exact eLL rfl|exact eLLL rfl|exact eF|exact eGl));(·omega))|(apply ex_cap;(·(first|exact eT rfl|exact eC|exact eG rfl|exact eL rfl|exact eLL rfl|exact eLLL rfl|exact eF|exact eGl)))|((first|apply ex_move|apply ex_assign|apply ex_not|apply ex_gtr|apply ex_seql|apply ex_len)<;>(first|exact eT rfl|exact eC|exact eG rfl|exact eL rfl|exact eLL rfl|exact eLLL rfl|exact eF|exact eGl))|((first|apply ex_eql|apply ex_slen)<;>(first|exact eT rfl|exact eC|exact eG rfl|exact eL rfl|exact eLL rfl|exact eLLL rfl|exact eF|exact eGl))|(apply ex_beql<;>(first|exact eT rfl|exact eC|exact eG rfl|exact eL rfl|exact eLL rfl|exact eLLL rfl|exact eF|exact eGl))|(apply ex_peql<;>(first|exact eT rfl|exact eC|exact eG rfl|exact eL rfl|exact eLL rfl|exact eLLL rfl|exact eF|exact eGl))|((first|apply ex_addn|apply ex_subn|apply ex_slice_h)<;>(first|exact eT rfl|exact eC|exact eG rfl|exact eL rfl|exact eLL rfl|exact eLLL rfl|exact eF|exact eGl|(constructor<;>omega)))|((first|apply ex_add|apply ex_sub)<;>(first|exact eT rfl|exact eC|exact eG rfl|exact eL rfl|exact eLL rfl|exact eLLL rfl|exact eF|exact eGl))|(apply ex_slice_lh<;>(first|exact eT rfl|exact eC|exact eG rfl|exact eL rfl|exact eLL rfl|exact eLLL rfl|exact eF|exact eGl|rfl|assumption|(refine ⟨?_,?_,?_⟩<;>omega)))|((first|apply ex_sslice_h|apply ex_sslice_l|apply ex_sslice)<;>(first|exact eT rfl|exact eC|exact eG rfl|exact eL rfl|exact eLL rfl|exact eLLL rfl|exact eF|exact eGl|(constructor<;>omega)|(refine ⟨?_,?_,?_⟩<;>omega))))))
        | (apply effq;(·(intro h_;(first|(exact absurd h_ (by decide))|(repeat (first|exact HKeep.refl|apply HKeep.keep|(apply HKeep.app;(·(repeat (first|exact Split.here|exact Split.one|exact Split.all|apply Split.cons|apply Split.app))))|(apply HKeep.pick;(·(repeat (first|exact Rem.here|apply Rem.there|apply Rem.app))))|apply HKeep.drop (by first|assumption|omega)|apply HKeep.dropA (by assumption)))))))|apply wlk_nil|apply wlk_eff rfl)
      (apply retX_ok rfl;(·(first|(apply Res.ofOne;(first|(apply Res1.tmp;(·rfl))|(apply Res1.cell;(·rfl);(·exact InH.mem);(·(first|rfl|assumption)))|(apply Res1.cell1;(·rfl);(·exact InH.mem);(·rfl))))|(apply Res.ofTwo<;>(first|(apply Res1.tmp;(·rfl))|(apply Res1.cell;(·rfl);(·exact InH.mem);(·(first|rfl|assumption)))|(apply Res1.cell1;(·rfl);(·exact InH.mem);(·rfl))))|(apply Res.ofThree<;>(first|(apply Res1.tmp;(·rfl))|(apply Res1.cell;(·rfl);(·exact InH.mem);(·(first|rfl|assumption)))|(apply Res1.cell1;(·rfl);(·exact InH.mem);(·rfl))))|exact Res.none_)))
      exact ⟨(g', 0, cap', _), rfl, ⟨hg', OwnS.ofNew hlen hin' hcap hsz⟩, by (repeat (first|exact HKeep.refl|apply HKeep.keep|(apply HKeep.app;(·(repeat (first|exact Split.here|exact Split.one|exact Split.all|apply Split.cons|apply Split.app))))|(apply HKeep.pick;(·(repeat (first|exact Rem.here|apply Rem.there|apply Rem.app))))|apply HKeep.drop (by first|assumption|omega)|apply HKeep.dropA (by assumption)))⟩
end Go.Proofs.Ytoogicafefennaa
