/-
  Contracts: catalog.Valid, in plain terms and walked.
-/
import Derived.Test.YtffbhbinnjpgnaaC3
import Derived.Test.YtffbhbinnjpgnaaT3
import Derived.Test.YtffbhbinnjpgnaaSp
namespace Go.Proofs.Ytffbhbinnjpgnaa
open Go.RowKit Go.Sy
set_option linter.unusedVariables false
set_option linter.unusedSimpArgs false
/-- Is it among them? -/
def inB (x : ByteArray) (l : List ByteArray) : Bool := l.any fun y => decide (x = y)
theorem inB_snoc (x y : ByteArray) (l : List ByteArray) : inB x (l ++ [y]) = (inB x l || decide (x = y)) := by simp [inB]
/-- A kind that a slot may take. -/
def good (bf : List KindR) (x : ByteArray) : Bool := match findK bf x with | some k => !k.vehicle | none => false
def kindsOk (bf : List KindR) : List ByteArray → List ByteArray → Bool
  | _, [] => true
  | sn, x :: r => (!inB x sn && good bf x) && kindsOk bf (sn ++ [x]) r
def slotOk (bf : List KindR) (s : SlotR) : Bool := (nameL (tx s.name) && (decide (1 ≤ s.normal) && decide (s.normal ≤ (s.ks.n : Int)))) && kindsOk bf [] s.kinds
def slotsOk (bf : List KindR) : List ByteArray → List SlotR → Bool
  | _, [] => true
  | sn, s :: r => (!inB s.name sn && slotOk bf s) && slotsOk bf (sn ++ [s.name]) r
def kindOk (bf : List KindR) (k : KindR) : Bool := ((findK bf k.name).isNone && (nameL (tx k.name) && decide (k.ss.n ≤ 12))) && slotsOk bf [] k.slots
def catOk : List KindR → List KindR → Bool
  | _, [] => true
  | bf, k :: r => kindOk bf k && catOk (bf ++ [k]) r
def validB (ks : List KindR) : Bool := catOk [] ks && decide (ks.length ≤ 60)
/-! The maps. -/
def PM (es : List (ByteArray × Value × Nat)) (bf : List KindR) : Prop := ∀ s, getL s es = (findK bf s).map fun k => Value.bool (!k.vehicle)
def SM (es : List (ByteArray × Value × Nat)) (sn : List ByteArray) : Prop := ∀ s, getL s es = if inB s sn = true then some (Value.bool true) else none
theorem PM.nil : PM [] [] := fun _ => rfl
theorem SM.nil : SM [] [] := fun _ => rfl
theorem SM.put {es : List (ByteArray × Value × Nat)} {sn : List ByteArray} {c : Nat} {x : ByteArray} (h : SM es sn) : SM (putL x (.bool true) c es) (sn ++ [x]) := by
  intro s
  rw [getL_put, h s, inB_snoc]
  by_cases hs : s = x
  · simp [hs]
  · simp [hs]
theorem PM.put {es : List (ByteArray × Value × Nat)} {bf : List KindR} {c : Nat} {k : KindR} (h : PM es bf) (hn : findK bf k.name = none) : PM (putL k.name (.bool (!k.vehicle)) c es) (bf ++ [k]) := by
  intro s
  rw [getL_put, h s]
  unfold findK at *
  rw [List.find?_append]
  by_cases hs : s = k.name
  · rw [if_pos hs, hs, hn]; simp
  · rw [if_neg hs]
    have : ¬ k.name = s := fun q => hs q.symm
    simp [this]
theorem SM.get {es : List (ByteArray × Value × Nat)} {sn : List ByteArray} (h : SM es sn) (x : ByteArray) : (getL x es).getD (.bool false) = .bool (inB x sn) := by
  rw [h x]
  cases inB x sn <;> rfl
theorem PM.get {es : List (ByteArray × Value × Nat)} {bf : List KindR} (h : PM es bf) (x : ByteArray) : (getL x es).getD (.bool false) = .bool (good bf x) := by
  rw [h x]
  unfold good
  cases findK bf x <;> rfl
theorem PM.has {es : List (ByteArray × Value × Nat)} {bf : List KindR} (h : PM es bf) (x : ByteArray) : (getL x es).isSome = (findK bf x).isSome := by
  rw [h x]
  cases findK bf x <;> rfl
theorem mobj_nil : (Obj.map #[] 0) = mobj (K := ByteArray) Value.string [] 0 := rfl
attribute [local irreducible] Calls thenQ blockQ retQ Spc Spl Spq Ex Ev Evs Gd Upd ESub HKeep Res Res1 wlk effQ Rem SrcAt Split mobj
theorem catOk_at {ks : List KindR} {i : Nat} {x : KindR} (hx : ks[i]? = some x) : catOk (ks.take i) (ks.drop i) = (kindOk (ks.take i) x && catOk (ks.take (i + 1)) (ks.drop (i + 1))) := by
  obtain ⟨h1, h2⟩ := List.getElem?_eq_some_iff.1 hx
  rw [← List.getElem_cons_drop h1, h2, take_succ hx]
  rfl
theorem slotsOk_at {bf : List KindR} {ss : List SlotR} {j : Nat} {y : SlotR} (hy : ss[j]? = some y) : slotsOk bf ((ss.take j).map (·.name)) (ss.drop j) = ((!inB y.name ((ss.take j).map (·.name)) && slotOk bf y) && slotsOk bf ((ss.take (j + 1)).map (·.name)) (ss.drop (j + 1))) := by
  obtain ⟨h1, h2⟩ := List.getElem?_eq_some_iff.1 hy
  rw [← List.getElem_cons_drop h1, h2, take_succ hy, List.map_append]
  rfl
theorem kindsOk_at {bf : List KindR} {ks : List ByteArray} {m : Nat} {z : ByteArray} (hz : ks[m]? = some z) : kindsOk bf (ks.take m) (ks.drop m) = ((!inB z (ks.take m) && good bf z) && kindsOk bf (ks.take (m + 1)) (ks.drop (m + 1))) := by
  obtain ⟨h1, h2⟩ := List.getElem?_eq_some_iff.1 hz
  rw [← List.getElem_cons_drop h1, h2, take_succ hz]
  rfl
set_option maxRecDepth 100000 in
set_option maxHeartbeats 4000000 in
theorem valid_c {w : World} {A : Option Addr} {n c : Nat} {ks : List KindR} (h : RdKinds w w.heap.size ⟨A, n, c⟩ ks) (hsm : ∀ k ∈ ks, k.name.size < 9223372036854775808 ∧ ∀ s ∈ k.slots, s.name.size < 9223372036854775808) :
    Calls Try.prog 30 #[.agg #[.slice A n c]] w (Ret w (.bool (validB ks))) := by
  have hbd : n ≤ 9223372036854775807 := h.1.bound
  have hlen : ks.length = n := h.1.len
  refine sp_enter (vs := [_]) Try.func30 rfl Try.ntmps30 rfl ?_
  repeat (first
    | (apply spl_makeMap rfl;intro _ _)
    | apply then_n|apply block_n|apply sp_seq|apply sp_region|apply spl_nil|apply then_r|apply block_r|apply then_e|apply block_here|apply block_past rfl
    | ((first|apply sp_cond_t|apply sp_cond_f);(·(first|exact eT rfl|exact eC|exact eG rfl|exact eL rfl|exact eLL rfl|exact eLLL rfl|exact eF|exact eGl));(·(first|exact decide_eq_true (by omega)|exact decide_eq_false (by omega)|assumption|rfl)))
    | (apply sp_cond_f;(·(first|exact eT rfl|exact eC|exact eG rfl|exact eL rfl|exact eLL rfl|exact eLLL rfl|exact eF|exact eGl));(·(first|exact decide_eq_false (by omega)|assumption|rfl)))
    | apply sp_skip|apply sp_ret|apply sp_exit|apply sp_block
    | ((first|apply spl_pure rfl|(apply spl_pure_g rfl;(·(first|exact Gd.none|exact Gd.tt rfl rfl|exact Gd.tf rfl rfl|exact Gd.gt rfl rfl|exact Gd.gf rfl rfl))));(·(first|((first|apply ex_move|apply ex_assign|apply ex_fieldAddr'|apply ex_not|apply ex_lss|apply ex_leq|apply ex_gtr|apply ex_len|apply ex_andT)<;>(first|exact eT rfl|exact eC|exact eG rfl|exact eL rfl|exact eLL rfl|exact eLLL rfl|exact eF|exact eGl))|((first|apply ex_fieldAddr|apply ex_slen|apply ex_orT|apply ex_slss)<;>(first|exact eT rfl|exact eC|exact eG rfl|exact eL rfl|exact eLL rfl|exact eLLL rfl|exact eF|exact eGl))|(apply ex_and<;>(first|exact eT rfl|exact eC|exact eG rfl|exact eL rfl|exact eLL rfl|exact eLLL rfl|exact eF|exact eGl))|(apply ex_or<;>(first|exact eT rfl|exact eC|exact eG rfl|exact eL rfl|exact eLL rfl|exact eLLL rfl|exact eF|exact eGl))|(apply ex_addn<;>(first|exact eT rfl|exact eC|exact eG rfl|exact eL rfl|exact eLL rfl|exact eLLL rfl|exact eF|exact eGl|(constructor<;>omega)))|(apply ex_add<;>(first|exact eT rfl|exact eC|exact eG rfl|exact eL rfl|exact eLL rfl|exact eLLL rfl|exact eF|exact eGl))|((first|apply ex_loadown|apply ex_extract|apply ex_indexAddr)<;>(first|exact eT rfl|exact eC|exact eG rfl|exact eL rfl|exact eLL rfl|exact eLLL rfl|exact eF|exact eGl|exact Bk.own InH.mem|exact Bk.old (by assumption) (Nat.le_refl _)|rfl|assumption|omega))|((first|apply ex_loadowns|apply ex_indexAddrI)<;>(first|exact eT rfl|exact eC|exact eG rfl|exact eL rfl|exact eLL rfl|exact eLLL rfl|exact eF|exact eGl|exact Bk.own InH.mem|exact Bk.old (by assumption) (Nat.le_refl _)|(first|rfl|assumption)|(constructor<;>omega))))))
    | (apply spl_box;(·(first|exact eT rfl|exact eC|exact eG rfl|exact eL rfl|exact eLL rfl|exact eLLL rfl|exact eF|exact eGl));(·rfl);intro _ _)
    | (apply spl_alloc rfl;intro _ _)
    | (apply spl_store1;(·(first|exact eT rfl|exact eC|exact eG rfl|exact eL rfl|exact eLL rfl|exact eLLL rfl|exact eF|exact eGl));(·(first|exact eT rfl|exact eC|exact eG rfl|exact eL rfl|exact eLL rfl|exact eLLL rfl|exact eF|exact eGl));(·rfl);(·(repeat (first|exact Upd.here|apply Upd.there|apply Upd.app)));(·rfl))
    | (apply spl_stores;(·(first|exact eT rfl|exact eC|exact eG rfl|exact eL rfl|exact eLL rfl|exact eLLL rfl|exact eF|exact eGl));(·(first|exact eT rfl|exact eC|exact eG rfl|exact eL rfl|exact eLL rfl|exact eLLL rfl|exact eF|exact eGl));(·(repeat (first|exact Upd.here|apply Upd.there|apply Upd.app)));(·(first|rfl|assumption));(·(first|rfl|assumption));(·(first|exact Ones.one|assumption|exact ones_of_all rfl|decide|(intro v hv;simp at hv;(repeat (rcases hv with rfl | hv <;> first | rfl | skip));try (subst hv;rfl)))))
    | (apply spl_guard_t;(·(first|exact Gd.none|exact Gd.tt rfl rfl|exact Gd.tf rfl rfl|exact Gd.gt rfl rfl|exact Gd.gf rfl rfl));(·rfl))|(apply spl_guard_f;(·(first|exact Gd.none|exact Gd.tt rfl rfl|exact Gd.tf rfl rfl|exact Gd.gt rfl rfl|exact Gd.gf rfl rfl));(·rfl);(·rfl)))
  rename_i g1 h1 g2 h2
  rw [mobj_nil]
  refine sp_loop (X := Nat × List (ByteArray × Value × Nat) × Nat) (fun x => [(18, true, .int .i64 (x.1 : Int)), (17, true, .int .i64 (n : Int)), (16, true, .slice A n c), (3, true, .map (some g2)), (1, true, .pointer (some ⟨g1, 0, none⟩))]) (fun _ => w) (fun x => [(g2, mobj Value.string x.2.1 x.2.2), (g1, .cells #[.slice A n c] 24 (0, 0))])
    (fun x => x.1 ≤ n ∧ PM x.2.1 (ks.take x.1) ∧ catOk [] ks = catOk (ks.take x.1) (ks.drop x.1)) (fun x => n - x.1) (0, [], 0) ⟨Nat.zero_le _, PM.nil, rfl⟩ (by (repeat (first|exact ESub.nil|apply ESub.cons rfl))) rfl (by (repeat (first|exact HKeep.refl|apply HKeep.keep|(apply HKeep.app;(·(repeat (first|exact Split.here|exact Split.all|apply Split.cons|apply Split.app))))|(apply HKeep.pick;(·(repeat (first|exact Rem.here|apply Rem.there|apply Rem.app))))|apply HKeep.drop (by first|assumption|omega)|apply HKeep.dropA (by assumption)))) ?_
  rintro ⟨i, es, ck⟩ ⟨hin, hPM, hcat⟩
  replace hin : i ≤ n := hin
  replace hPM : PM es (ks.take i) := hPM
  replace hcat : catOk [] ks = catOk (ks.take i) (ks.drop i) := hcat
  dsimp only
  by_cases hlt : i < n
  · obtain ⟨ad, x, hA, hb, hx, hsz, hc⟩ := h.1.at_ hlt
    have hmem := List.mem_of_getElem? hx
    have hsl := h.2 x hmem
    have hbd2 := hsl.1.bound
    have hlen2 : x.slots.length = x.ss.n := hsl.1.len
    rw [catOk_at hx] at hcat
    have hhas := hPM.has x.name
    have hnm := fun w' : World => lexName_c (w := w') x.name (hsm x hmem).1
    obtain ⟨hd, hhd⟩ : ∃ hd, hd = ((findK (ks.take i) x.name).isNone && (nameL (tx x.name) && decide (x.ss.n ≤ 12))) := ⟨_, rfl⟩
    have hgt : ∀ q : Nat, decide ((12 : Int) < (q : Int)) = !decide (q ≤ 12) := fun q => by
      rw [Bool.eq_iff_iff]; simp; omega
    have hcond : (((findK (ks.take i) x.name).isSome || !nameL (tx x.name)) || decide ((12 : Int) < (x.ss.n : Int))) = !hd := by
      rw [hhd, hgt]
      cases findK (ks.take i) x.name <;> cases nameL (tx x.name) <;> simp
    cases hd with
    | false =>
      have hko : kindOk (ks.take i) x = false := by unfold kindOk; rw [← hhd]; rfl
      rw [hko, Bool.false_and] at hcat
      repeat (first
        | (apply spl_makeMap rfl;intro _ _)
        | (apply spl_mapUpdate (K:=ByteArray);(·(first|exact eT rfl|exact eC|exact eG rfl|exact eL rfl|exact eLL rfl|exact eLLL rfl|exact eF|exact eGl));(·(first|exact eT rfl|exact eC|exact eG rfl|exact eL rfl|exact eLL rfl|exact eLLL rfl|exact eF|exact eGl));(·(first|exact eT rfl|exact eC|exact eG rfl|exact eL rfl|exact eLL rfl|exact eLLL rfl|exact eF|exact eGl));(·(repeat (first|exact Upd.here|apply Upd.there|apply Upd.app))))
        | (apply sp_cond_t;(·(first|exact eT rfl|exact eC|exact eG rfl|exact eL rfl|exact eLL rfl|exact eLLL rfl|exact eF|exact eGl));(·exact hcond))
        | (apply spl_callp_g rfl;(·(first|exact Gd.none|exact Gd.tt rfl rfl|exact Gd.tf rfl rfl|exact Gd.gt rfl rfl|exact Gd.gf rfl rfl));(·(repeat (first|exact eN|(apply eS;(·(first|exact eT rfl|exact eC|exact eG rfl|exact eL rfl|exact eLL rfl|exact eLLL rfl|exact eF|exact eGl))))));(·exact fun _ w' hh => hnm w'))
        | apply then_n|apply block_n|apply sp_seq|apply sp_region|apply spl_nil|apply then_r|apply block_r|apply then_e|apply block_here|apply block_past rfl
        | ((first|apply sp_cond_t|apply sp_cond_f);(·(first|exact eT rfl|exact eC|exact eG rfl|exact eL rfl|exact eLL rfl|exact eLLL rfl|exact eF|exact eGl));(·(first|exact decide_eq_true (by omega)|exact decide_eq_false (by omega)|assumption|rfl)))
        | (apply sp_cond_f;(·(first|exact eT rfl|exact eC|exact eG rfl|exact eL rfl|exact eLL rfl|exact eLLL rfl|exact eF|exact eGl));(·(first|exact decide_eq_false (by omega)|assumption|rfl)))
        | apply sp_skip|apply sp_ret|apply sp_exit|apply sp_block
        | ((first|apply spl_pure rfl|(apply spl_pure_g rfl;(·(first|exact Gd.none|exact Gd.tt rfl rfl|exact Gd.tf rfl rfl|exact Gd.gt rfl rfl|exact Gd.gf rfl rfl))));(·(first|(apply ex_lookupOk rfl hhas;(·(first|exact eT rfl|exact eC|exact eG rfl|exact eL rfl|exact eLL rfl|exact eLLL rfl|exact eF|exact eGl));(·(first|exact eT rfl|exact eC|exact eG rfl|exact eL rfl|exact eLL rfl|exact eLLL rfl|exact eF|exact eGl));(·(first|exact Bk.own InH.mem|exact Bk.old (by assumption) (Nat.le_refl _))))|(apply ex_loadelem;(·(first|exact eT rfl|exact eC|exact eG rfl|exact eL rfl|exact eLL rfl|exact eLLL rfl|exact eF|exact eGl));(·exact h.1);(·exact hA);(·exact hx))|((first|apply ex_move|apply ex_assign|apply ex_fieldAddr'|apply ex_not|apply ex_lss|apply ex_leq|apply ex_gtr|apply ex_len|apply ex_andT)<;>(first|exact eT rfl|exact eC|exact eG rfl|exact eL rfl|exact eLL rfl|exact eLLL rfl|exact eF|exact eGl))|((first|apply ex_fieldAddr|apply ex_slen|apply ex_orT|apply ex_slss)<;>(first|exact eT rfl|exact eC|exact eG rfl|exact eL rfl|exact eLL rfl|exact eLLL rfl|exact eF|exact eGl))|(apply ex_and<;>(first|exact eT rfl|exact eC|exact eG rfl|exact eL rfl|exact eLL rfl|exact eLLL rfl|exact eF|exact eGl))|(apply ex_or<;>(first|exact eT rfl|exact eC|exact eG rfl|exact eL rfl|exact eLL rfl|exact eLLL rfl|exact eF|exact eGl))|(apply ex_addn<;>(first|exact eT rfl|exact eC|exact eG rfl|exact eL rfl|exact eLL rfl|exact eLLL rfl|exact eF|exact eGl|(constructor<;>omega)))|(apply ex_add<;>(first|exact eT rfl|exact eC|exact eG rfl|exact eL rfl|exact eLL rfl|exact eLLL rfl|exact eF|exact eGl))|((first|apply ex_loadown|apply ex_extract|apply ex_indexAddr)<;>(first|exact eT rfl|exact eC|exact eG rfl|exact eL rfl|exact eLL rfl|exact eLLL rfl|exact eF|exact eGl|exact Bk.own InH.mem|exact Bk.old (by assumption) (Nat.le_refl _)|rfl|assumption|omega))|((first|apply ex_loadowns|apply ex_indexAddrI)<;>(first|exact eT rfl|exact eC|exact eG rfl|exact eL rfl|exact eLL rfl|exact eLLL rfl|exact eF|exact eGl|exact Bk.own InH.mem|exact Bk.old (by assumption) (Nat.le_refl _)|(first|rfl|assumption)|(constructor<;>omega))))))
        | (apply spl_box;(·(first|exact eT rfl|exact eC|exact eG rfl|exact eL rfl|exact eLL rfl|exact eLLL rfl|exact eF|exact eGl));(·rfl);intro _ _)
        | (apply spl_alloc rfl;intro _ _)
        | (apply spl_store1;(·(first|exact eT rfl|exact eC|exact eG rfl|exact eL rfl|exact eLL rfl|exact eLLL rfl|exact eF|exact eGl));(·(first|exact eT rfl|exact eC|exact eG rfl|exact eL rfl|exact eLL rfl|exact eLLL rfl|exact eF|exact eGl));(·rfl);(·(repeat (first|exact Upd.here|apply Upd.there|apply Upd.app)));(·rfl))
        | (apply spl_stores;(·(first|exact eT rfl|exact eC|exact eG rfl|exact eL rfl|exact eLL rfl|exact eLLL rfl|exact eF|exact eGl));(·(first|exact eT rfl|exact eC|exact eG rfl|exact eL rfl|exact eLL rfl|exact eLLL rfl|exact eF|exact eGl));(·(repeat (first|exact Upd.here|apply Upd.there|apply Upd.app)));(·(first|rfl|assumption));(·(first|rfl|assumption));(·(first|exact Ones.one|assumption|exact ones_of_all rfl|decide|(intro v hv;simp at hv;(repeat (rcases hv with rfl | hv <;> first | rfl | skip));try (subst hv;rfl)))))
        | (apply spl_guard_t;(·(first|exact Gd.none|exact Gd.tt rfl rfl|exact Gd.tf rfl rfl|exact Gd.gt rfl rfl|exact Gd.gf rfl rfl));(·rfl))|(apply spl_guard_f;(·(first|exact Gd.none|exact Gd.tt rfl rfl|exact Gd.tf rfl rfl|exact Gd.gt rfl rfl|exact Gd.gf rfl rfl));(·rfl);(·rfl)))
      (apply ret_ok rfl;(·(first|(apply Res.ofOne;(first|(apply Res1.tmp;(·rfl))|(apply Res1.cell;(·rfl);(·exact InH.mem);(·(first|rfl|assumption)))|(apply Res1.cell1;(·rfl);(·exact InH.mem);(·rfl))))|(apply Res.ofTwo<;>(first|(apply Res1.tmp;(·rfl))|(apply Res1.cell;(·rfl);(·exact InH.mem);(·(first|rfl|assumption)))|(apply Res1.cell1;(·rfl);(·exact InH.mem);(·rfl))))|(apply Res.ofThree<;>(first|(apply Res1.tmp;(·rfl))|(apply Res1.cell;(·rfl);(·exact InH.mem);(·(first|rfl|assumption)))|(apply Res1.cell1;(·rfl);(·exact InH.mem);(·rfl))))|exact Res.none_))); unfold validB; rw [hcat]; rfl
    | true =>
      have hko : kindOk (ks.take i) x = slotsOk (ks.take i) [] x.slots := by unfold kindOk; rw [← hhd]; rfl
      have hnone : findK (ks.take i) x.name = none := by
        cases hf : findK (ks.take i) x.name with
        | none => rfl
        | some k => rw [hf] at hhd; cases hhd
      rw [hko] at hcat
      repeat (first
        | (apply spl_makeMap rfl;intro _ _)
        | (apply spl_mapUpdate (K:=ByteArray);(·(first|exact eT rfl|exact eC|exact eG rfl|exact eL rfl|exact eLL rfl|exact eLLL rfl|exact eF|exact eGl));(·(first|exact eT rfl|exact eC|exact eG rfl|exact eL rfl|exact eLL rfl|exact eLLL rfl|exact eF|exact eGl));(·(first|exact eT rfl|exact eC|exact eG rfl|exact eL rfl|exact eLL rfl|exact eLLL rfl|exact eF|exact eGl));(·(repeat (first|exact Upd.here|apply Upd.there|apply Upd.app))))
        | (apply sp_cond_f;(·(first|exact eT rfl|exact eC|exact eG rfl|exact eL rfl|exact eLL rfl|exact eLLL rfl|exact eF|exact eGl));(·exact hcond))
        | (apply spl_callp_g rfl;(·(first|exact Gd.none|exact Gd.tt rfl rfl|exact Gd.tf rfl rfl|exact Gd.gt rfl rfl|exact Gd.gf rfl rfl));(·(repeat (first|exact eN|(apply eS;(·(first|exact eT rfl|exact eC|exact eG rfl|exact eL rfl|exact eLL rfl|exact eLLL rfl|exact eF|exact eGl))))));(·exact fun _ w' hh => hnm w'))
        | apply then_n|apply block_n|apply sp_seq|apply sp_region|apply spl_nil|apply then_r|apply block_r|apply then_e|apply block_here|apply block_past rfl
        | ((first|apply sp_cond_t|apply sp_cond_f);(·(first|exact eT rfl|exact eC|exact eG rfl|exact eL rfl|exact eLL rfl|exact eLLL rfl|exact eF|exact eGl));(·(first|exact decide_eq_true (by omega)|exact decide_eq_false (by omega)|assumption|rfl)))
        | (apply sp_cond_f;(·(first|exact eT rfl|exact eC|exact eG rfl|exact eL rfl|exact eLL rfl|exact eLLL rfl|exact eF|exact eGl));(·(first|exact decide_eq_false (by omega)|assumption|rfl)))
        | apply sp_skip|apply sp_ret|apply sp_exit|apply sp_block
        | ((first|apply spl_pure rfl|(apply spl_pure_g rfl;(·(first|exact Gd.none|exact Gd.tt rfl rfl|exact Gd.tf rfl rfl|exact Gd.gt rfl rfl|exact Gd.gf rfl rfl))));(·(first|(apply ex_lookupOk rfl hhas;(·(first|exact eT rfl|exact eC|exact eG rfl|exact eL rfl|exact eLL rfl|exact eLLL rfl|exact eF|exact eGl));(·(first|exact eT rfl|exact eC|exact eG rfl|exact eL rfl|exact eLL rfl|exact eLLL rfl|exact eF|exact eGl));(·(first|exact Bk.own InH.mem|exact Bk.old (by assumption) (Nat.le_refl _))))|(apply ex_loadelem;(·(first|exact eT rfl|exact eC|exact eG rfl|exact eL rfl|exact eLL rfl|exact eLLL rfl|exact eF|exact eGl));(·exact h.1);(·exact hA);(·exact hx))|((first|apply ex_move|apply ex_assign|apply ex_fieldAddr'|apply ex_not|apply ex_lss|apply ex_leq|apply ex_gtr|apply ex_len|apply ex_andT)<;>(first|exact eT rfl|exact eC|exact eG rfl|exact eL rfl|exact eLL rfl|exact eLLL rfl|exact eF|exact eGl))|((first|apply ex_fieldAddr|apply ex_slen|apply ex_orT|apply ex_slss)<;>(first|exact eT rfl|exact eC|exact eG rfl|exact eL rfl|exact eLL rfl|exact eLLL rfl|exact eF|exact eGl))|(apply ex_and<;>(first|exact eT rfl|exact eC|exact eG rfl|exact eL rfl|exact eLL rfl|exact eLLL rfl|exact eF|exact eGl))|(apply ex_or<;>(first|exact eT rfl|exact eC|exact eG rfl|exact eL rfl|exact eLL rfl|exact eLLL rfl|exact eF|exact eGl))|(apply ex_addn<;>(first|exact eT rfl|exact eC|exact eG rfl|exact eL rfl|exact eLL rfl|exact eLLL rfl|exact eF|exact eGl|(constructor<;>omega)))|(apply ex_add<;>(first|exact eT rfl|exact eC|exact eG rfl|exact eL rfl|exact eLL rfl|exact eLLL rfl|exact eF|exact eGl))|((first|apply ex_loadown|apply ex_extract|apply ex_indexAddr)<;>(first|exact eT rfl|exact eC|exact eG rfl|exact eL rfl|exact eLL rfl|exact eLLL rfl|exact eF|exact eGl|exact Bk.own InH.mem|exact Bk.old (by assumption) (Nat.le_refl _)|rfl|assumption|omega))|((first|apply ex_loadowns|apply ex_indexAddrI)<;>(first|exact eT rfl|exact eC|exact eG rfl|exact eL rfl|exact eLL rfl|exact eLLL rfl|exact eF|exact eGl|exact Bk.own InH.mem|exact Bk.old (by assumption) (Nat.le_refl _)|(first|rfl|assumption)|(constructor<;>omega))))))
        | (apply spl_box;(·(first|exact eT rfl|exact eC|exact eG rfl|exact eL rfl|exact eLL rfl|exact eLLL rfl|exact eF|exact eGl));(·rfl);intro _ _)
        | (apply spl_alloc rfl;intro _ _)
        | (apply spl_store1;(·(first|exact eT rfl|exact eC|exact eG rfl|exact eL rfl|exact eLL rfl|exact eLLL rfl|exact eF|exact eGl));(·(first|exact eT rfl|exact eC|exact eG rfl|exact eL rfl|exact eLL rfl|exact eLLL rfl|exact eF|exact eGl));(·rfl);(·(repeat (first|exact Upd.here|apply Upd.there|apply Upd.app)));(·rfl))
        | (apply spl_stores;(·(first|exact eT rfl|exact eC|exact eG rfl|exact eL rfl|exact eLL rfl|exact eLLL rfl|exact eF|exact eGl));(·(first|exact eT rfl|exact eC|exact eG rfl|exact eL rfl|exact eLL rfl|exact eLLL rfl|exact eF|exact eGl));(·(repeat (first|exact Upd.here|apply Upd.there|apply Upd.app)));(·(first|rfl|assumption));(·(first|rfl|assumption));(·(first|exact Ones.one|assumption|exact ones_of_all rfl|decide|(intro v hv;simp at hv;(repeat (rcases hv with rfl | hv <;> first | rfl | skip));try (subst hv;rfl)))))
        | (apply spl_guard_t;(·(first|exact Gd.none|exact Gd.tt rfl rfl|exact Gd.tf rfl rfl|exact Gd.gt rfl rfl|exact Gd.gf rfl rfl));(·rfl))|(apply spl_guard_f;(·(first|exact Gd.none|exact Gd.tt rfl rfl|exact Gd.tf rfl rfl|exact Gd.gt rfl rfl|exact Gd.gf rfl rfl));(·rfl);(·rfl)))
      rename_i g5 h5 g8 h8
      rw [mobj_nil]
      refine sp_loop (X := Nat × List (ByteArray × Value × Nat) × Nat) (fun z => [(46, true, .int .i64 (z.1 : Int)), (45, true, .int .i64 (x.ss.n : Int)), (44, true, .slice x.ss.a x.ss.n x.ss.c), (8, true, .map (some g8)), (5, true, .pointer (some ⟨g5, 0, none⟩)), (18, true, .int .i64 (i : Int)), (17, true, .int .i64 (n : Int)), (16, true, .slice A n c), (3, true, .map (some g2)), (1, true, .pointer (some ⟨g1, 0, none⟩))]) (fun _ => w)
        (fun z => [(g8, mobj Value.string z.2.1 z.2.2), (g5, .cells x.cells 87 (0, 0)), (g2, mobj Value.string es ck), (g1, .cells #[.slice A n c] 24 (0, 0))])
        (fun z => z.1 ≤ x.ss.n ∧ SM z.2.1 ((x.slots.take z.1).map (·.name)) ∧ slotsOk (ks.take i) [] x.slots = slotsOk (ks.take i) ((x.slots.take z.1).map (·.name)) (x.slots.drop z.1)) (fun z => x.ss.n - z.1) (0, [], 0) ⟨Nat.zero_le _, SM.nil, rfl⟩ (by (repeat (first|exact ESub.nil|apply ESub.cons rfl))) rfl (by (repeat (first|exact HKeep.refl|apply HKeep.keep|(apply HKeep.app;(·(repeat (first|exact Split.here|exact Split.all|apply Split.cons|apply Split.app))))|(apply HKeep.pick;(·(repeat (first|exact Rem.here|apply Rem.there|apply Rem.app))))|apply HKeep.drop (by first|assumption|omega)|apply HKeep.dropA (by assumption)))) ?_
      rintro ⟨j, es2, ck2⟩ ⟨hjn, hSM, hslots⟩
      replace hjn : j ≤ x.ss.n := hjn
      replace hSM : SM es2 ((x.slots.take j).map (·.name)) := hSM
      replace hslots : slotsOk (ks.take i) [] x.slots = slotsOk (ks.take i) ((x.slots.take j).map (·.name)) (x.slots.drop j) := hslots
      dsimp only
      by_cases hlt2 : j < x.ss.n
      · obtain ⟨ad2, y, hA2, hb2, hy, hsz2, hc2⟩ := hsl.1.at_ hlt2
        have hmem2 := List.mem_of_getElem? hy
        have hst := hsl.2 y hmem2
        have hbd3 := hst.1.bound
        have hlen3 : y.kinds.length = y.ks.n := hst.1.len
        rw [slotsOk_at hy] at hslots
        have hget := hSM.get y.name
        generalize hsn : (x.slots.take j).map (·.name) = sn at hslots hSM hget
        have hsn2 : (x.slots.take (j + 1)).map (·.name) = sn ++ [y.name] := by rw [take_succ hy, List.map_append, hsn]; rfl
        have hnm2 := fun w' : World => lexName_c (w := w') y.name ((hsm x hmem).2 y hmem2)
        obtain ⟨hd2, hhd2⟩ : ∃ hd, hd = (!inB y.name sn && (nameL (tx y.name) && (decide (1 ≤ y.normal) && decide (y.normal ≤ (y.ks.n : Int))))) := ⟨_, rfl⟩
        have e1 : decide (y.normal < 1) = !decide (1 ≤ y.normal) := by rw [Bool.eq_iff_iff]; simp <;> omega
        have e2 : decide ((y.ks.n : Int) < y.normal) = !decide (y.normal ≤ (y.ks.n : Int)) := by rw [Bool.eq_iff_iff]; simp
        have hcond2 : (((inB y.name sn || !nameL (tx y.name)) || decide (y.normal < 1)) || decide ((y.ks.n : Int) < y.normal)) = !hd2 := by
          rw [hhd2, e1, e2]
          cases inB y.name sn <;> cases nameL (tx y.name) <;> cases decide (1 ≤ y.normal) <;> cases decide (y.normal ≤ (y.ks.n : Int)) <;> rfl
        cases hd2 with
        | false =>
          have hso : (!inB y.name sn && slotOk (ks.take i) y) = false := by
            unfold slotOk
            rw [← Bool.and_assoc, ← hhd2]; rfl
          rw [hso, Bool.false_and] at hslots
          rw [hslots, Bool.false_and] at hcat
          repeat (first
            | (apply spl_makeMap rfl;intro _ _)
            | (apply spl_mapUpdate (K:=ByteArray);(·(first|exact eT rfl|exact eC|exact eG rfl|exact eL rfl|exact eLL rfl|exact eLLL rfl|exact eF|exact eGl));(·(first|exact eT rfl|exact eC|exact eG rfl|exact eL rfl|exact eLL rfl|exact eLLL rfl|exact eF|exact eGl));(·(first|exact eT rfl|exact eC|exact eG rfl|exact eL rfl|exact eLL rfl|exact eLLL rfl|exact eF|exact eGl));(·(repeat (first|exact Upd.here|apply Upd.there|apply Upd.app))))
            | (apply sp_cond_t;(·(first|exact eT rfl|exact eC|exact eG rfl|exact eL rfl|exact eLL rfl|exact eLLL rfl|exact eF|exact eGl));(·exact hcond2))
            | (apply spl_callp_g rfl;(·(first|exact Gd.none|exact Gd.tt rfl rfl|exact Gd.tf rfl rfl|exact Gd.gt rfl rfl|exact Gd.gf rfl rfl));(·(repeat (first|exact eN|(apply eS;(·(first|exact eT rfl|exact eC|exact eG rfl|exact eL rfl|exact eLL rfl|exact eLLL rfl|exact eF|exact eGl))))));(·exact fun _ w' hh => hnm2 w'))
            | apply then_n|apply block_n|apply sp_seq|apply sp_region|apply spl_nil|apply then_r|apply block_r|apply then_e|apply block_here|apply block_past rfl
            | ((first|apply sp_cond_t|apply sp_cond_f);(·(first|exact eT rfl|exact eC|exact eG rfl|exact eL rfl|exact eLL rfl|exact eLLL rfl|exact eF|exact eGl));(·(first|exact decide_eq_true (by omega)|exact decide_eq_false (by omega)|assumption|rfl)))
            | (apply sp_cond_f;(·(first|exact eT rfl|exact eC|exact eG rfl|exact eL rfl|exact eLL rfl|exact eLLL rfl|exact eF|exact eGl));(·(first|exact decide_eq_false (by omega)|assumption|rfl)))
            | apply sp_skip|apply sp_ret|apply sp_exit|apply sp_block
            | ((first|apply spl_pure rfl|(apply spl_pure_g rfl;(·(first|exact Gd.none|exact Gd.tt rfl rfl|exact Gd.tf rfl rfl|exact Gd.gt rfl rfl|exact Gd.gf rfl rfl))));(·(first|(apply ex_lookup hget;(·(first|exact eT rfl|exact eC|exact eG rfl|exact eL rfl|exact eLL rfl|exact eLLL rfl|exact eF|exact eGl));(·(first|exact eT rfl|exact eC|exact eG rfl|exact eL rfl|exact eLL rfl|exact eLLL rfl|exact eF|exact eGl));(·(first|exact Bk.own InH.mem|exact Bk.old (by assumption) (Nat.le_refl _))))|(apply ex_loadelem;(·(first|exact eT rfl|exact eC|exact eG rfl|exact eL rfl|exact eLL rfl|exact eLLL rfl|exact eF|exact eGl));(·exact hsl.1);(·exact hA2);(·exact hy))|(apply ex_loadelem;(·(first|exact eT rfl|exact eC|exact eG rfl|exact eL rfl|exact eLL rfl|exact eLLL rfl|exact eF|exact eGl));(·exact h.1);(·exact hA);(·exact hx))|((first|apply ex_move|apply ex_assign|apply ex_fieldAddr'|apply ex_not|apply ex_lss|apply ex_leq|apply ex_gtr|apply ex_len|apply ex_andT)<;>(first|exact eT rfl|exact eC|exact eG rfl|exact eL rfl|exact eLL rfl|exact eLLL rfl|exact eF|exact eGl))|((first|apply ex_fieldAddr|apply ex_slen|apply ex_orT|apply ex_slss)<;>(first|exact eT rfl|exact eC|exact eG rfl|exact eL rfl|exact eLL rfl|exact eLLL rfl|exact eF|exact eGl))|(apply ex_and<;>(first|exact eT rfl|exact eC|exact eG rfl|exact eL rfl|exact eLL rfl|exact eLLL rfl|exact eF|exact eGl))|(apply ex_or<;>(first|exact eT rfl|exact eC|exact eG rfl|exact eL rfl|exact eLL rfl|exact eLLL rfl|exact eF|exact eGl))|(apply ex_addn<;>(first|exact eT rfl|exact eC|exact eG rfl|exact eL rfl|exact eLL rfl|exact eLLL rfl|exact eF|exact eGl|(constructor<;>omega)))|(apply ex_add<;>(first|exact eT rfl|exact eC|exact eG rfl|exact eL rfl|exact eLL rfl|exact eLLL rfl|exact eF|exact eGl))|((first|apply ex_loadown|apply ex_extract|apply ex_indexAddr)<;>(first|exact eT rfl|exact eC|exact eG rfl|exact eL rfl|exact eLL rfl|exact eLLL rfl|exact eF|exact eGl|exact Bk.own InH.mem|exact Bk.old (by assumption) (Nat.le_refl _)|rfl|assumption|omega))|((first|apply ex_loadowns|apply ex_indexAddrI)<;>(first|exact eT rfl|exact eC|exact eG rfl|exact eL rfl|exact eLL rfl|exact eLLL rfl|exact eF|exact eGl|exact Bk.own InH.mem|exact Bk.old (by assumption) (Nat.le_refl _)|(first|rfl|assumption)|(constructor<;>omega))))))
            | (apply spl_box;(·(first|exact eT rfl|exact eC|exact eG rfl|exact eL rfl|exact eLL rfl|exact eLLL rfl|exact eF|exact eGl));(·rfl);intro _ _)
            | (apply spl_alloc rfl;intro _ _)
            | (apply spl_store1;(·(first|exact eT rfl|exact eC|exact eG rfl|exact eL rfl|exact eLL rfl|exact eLLL rfl|exact eF|exact eGl));(·(first|exact eT rfl|exact eC|exact eG rfl|exact eL rfl|exact eLL rfl|exact eLLL rfl|exact eF|exact eGl));(·rfl);(·(repeat (first|exact Upd.here|apply Upd.there|apply Upd.app)));(·rfl))
            | (apply spl_stores;(·(first|exact eT rfl|exact eC|exact eG rfl|exact eL rfl|exact eLL rfl|exact eLLL rfl|exact eF|exact eGl));(·(first|exact eT rfl|exact eC|exact eG rfl|exact eL rfl|exact eLL rfl|exact eLLL rfl|exact eF|exact eGl));(·(repeat (first|exact Upd.here|apply Upd.there|apply Upd.app)));(·(first|rfl|assumption));(·(first|rfl|assumption));(·(first|exact Ones.one|assumption|exact ones_of_all rfl|decide|(intro v hv;simp at hv;(repeat (rcases hv with rfl | hv <;> first | rfl | skip));try (subst hv;rfl)))))
            | (apply spl_guard_t;(·(first|exact Gd.none|exact Gd.tt rfl rfl|exact Gd.tf rfl rfl|exact Gd.gt rfl rfl|exact Gd.gf rfl rfl));(·rfl))|(apply spl_guard_f;(·(first|exact Gd.none|exact Gd.tt rfl rfl|exact Gd.tf rfl rfl|exact Gd.gt rfl rfl|exact Gd.gf rfl rfl));(·rfl);(·rfl)))
          (apply ret_ok rfl;(·(first|(apply Res.ofOne;(first|(apply Res1.tmp;(·rfl))|(apply Res1.cell;(·rfl);(·exact InH.mem);(·(first|rfl|assumption)))|(apply Res1.cell1;(·rfl);(·exact InH.mem);(·rfl))))|(apply Res.ofTwo<;>(first|(apply Res1.tmp;(·rfl))|(apply Res1.cell;(·rfl);(·exact InH.mem);(·(first|rfl|assumption)))|(apply Res1.cell1;(·rfl);(·exact InH.mem);(·rfl))))|(apply Res.ofThree<;>(first|(apply Res1.tmp;(·rfl))|(apply Res1.cell;(·rfl);(·exact InH.mem);(·(first|rfl|assumption)))|(apply Res1.cell1;(·rfl);(·exact InH.mem);(·rfl))))|exact Res.none_))); unfold validB; rw [hcat]; rfl
        | true =>
          have hso : (!inB y.name sn && slotOk (ks.take i) y) = kindsOk (ks.take i) [] y.kinds := by
            unfold slotOk
            rw [← Bool.and_assoc, ← hhd2]; rfl
          rw [hso] at hslots
          repeat (first
            | (apply spl_makeMap rfl;intro _ _)
            | (apply spl_mapUpdate (K:=ByteArray);(·(first|exact eT rfl|exact eC|exact eG rfl|exact eL rfl|exact eLL rfl|exact eLLL rfl|exact eF|exact eGl));(·(first|exact eT rfl|exact eC|exact eG rfl|exact eL rfl|exact eLL rfl|exact eLLL rfl|exact eF|exact eGl));(·(first|exact eT rfl|exact eC|exact eG rfl|exact eL rfl|exact eLL rfl|exact eLLL rfl|exact eF|exact eGl));(·(repeat (first|exact Upd.here|apply Upd.there|apply Upd.app))))
            | (apply sp_cond_f;(·(first|exact eT rfl|exact eC|exact eG rfl|exact eL rfl|exact eLL rfl|exact eLLL rfl|exact eF|exact eGl));(·exact hcond2))
            | (apply spl_callp_g rfl;(·(first|exact Gd.none|exact Gd.tt rfl rfl|exact Gd.tf rfl rfl|exact Gd.gt rfl rfl|exact Gd.gf rfl rfl));(·(repeat (first|exact eN|(apply eS;(·(first|exact eT rfl|exact eC|exact eG rfl|exact eL rfl|exact eLL rfl|exact eLLL rfl|exact eF|exact eGl))))));(·exact fun _ w' hh => hnm2 w'))
            | apply then_n|apply block_n|apply sp_seq|apply sp_region|apply spl_nil|apply then_r|apply block_r|apply then_e|apply block_here|apply block_past rfl
            | ((first|apply sp_cond_t|apply sp_cond_f);(·(first|exact eT rfl|exact eC|exact eG rfl|exact eL rfl|exact eLL rfl|exact eLLL rfl|exact eF|exact eGl));(·(first|exact decide_eq_true (by omega)|exact decide_eq_false (by omega)|assumption|rfl)))
            | (apply sp_cond_f;(·(first|exact eT rfl|exact eC|exact eG rfl|exact eL rfl|exact eLL rfl|exact eLLL rfl|exact eF|exact eGl));(·(first|exact decide_eq_false (by omega)|assumption|rfl)))
            | apply sp_skip|apply sp_ret|apply sp_exit|apply sp_block
            | ((first|apply spl_pure rfl|(apply spl_pure_g rfl;(·(first|exact Gd.none|exact Gd.tt rfl rfl|exact Gd.tf rfl rfl|exact Gd.gt rfl rfl|exact Gd.gf rfl rfl))));(·(first|(apply ex_lookup hget;(·(first|exact eT rfl|exact eC|exact eG rfl|exact eL rfl|exact eLL rfl|exact eLLL rfl|exact eF|exact eGl));(·(first|exact eT rfl|exact eC|exact eG rfl|exact eL rfl|exact eLL rfl|exact eLLL rfl|exact eF|exact eGl));(·(first|exact Bk.own InH.mem|exact Bk.old (by assumption) (Nat.le_refl _))))|(apply ex_loadelem;(·(first|exact eT rfl|exact eC|exact eG rfl|exact eL rfl|exact eLL rfl|exact eLLL rfl|exact eF|exact eGl));(·exact hsl.1);(·exact hA2);(·exact hy))|(apply ex_loadelem;(·(first|exact eT rfl|exact eC|exact eG rfl|exact eL rfl|exact eLL rfl|exact eLLL rfl|exact eF|exact eGl));(·exact h.1);(·exact hA);(·exact hx))|((first|apply ex_move|apply ex_assign|apply ex_fieldAddr'|apply ex_not|apply ex_lss|apply ex_leq|apply ex_gtr|apply ex_len|apply ex_andT)<;>(first|exact eT rfl|exact eC|exact eG rfl|exact eL rfl|exact eLL rfl|exact eLLL rfl|exact eF|exact eGl))|((first|apply ex_fieldAddr|apply ex_slen|apply ex_orT|apply ex_slss)<;>(first|exact eT rfl|exact eC|exact eG rfl|exact eL rfl|exact eLL rfl|exact eLLL rfl|exact eF|exact eGl))|(apply ex_and<;>(first|exact eT rfl|exact eC|exact eG rfl|exact eL rfl|exact eLL rfl|exact eLLL rfl|exact eF|exact eGl))|(apply ex_or<;>(first|exact eT rfl|exact eC|exact eG rfl|exact eL rfl|exact eLL rfl|exact eLLL rfl|exact eF|exact eGl))|(apply ex_addn<;>(first|exact eT rfl|exact eC|exact eG rfl|exact eL rfl|exact eLL rfl|exact eLLL rfl|exact eF|exact eGl|(constructor<;>omega)))|(apply ex_add<;>(first|exact eT rfl|exact eC|exact eG rfl|exact eL rfl|exact eLL rfl|exact eLLL rfl|exact eF|exact eGl))|((first|apply ex_loadown|apply ex_extract|apply ex_indexAddr)<;>(first|exact eT rfl|exact eC|exact eG rfl|exact eL rfl|exact eLL rfl|exact eLLL rfl|exact eF|exact eGl|exact Bk.own InH.mem|exact Bk.old (by assumption) (Nat.le_refl _)|rfl|assumption|omega))|((first|apply ex_loadowns|apply ex_indexAddrI)<;>(first|exact eT rfl|exact eC|exact eG rfl|exact eL rfl|exact eLL rfl|exact eLLL rfl|exact eF|exact eGl|exact Bk.own InH.mem|exact Bk.old (by assumption) (Nat.le_refl _)|(first|rfl|assumption)|(constructor<;>omega))))))
            | (apply spl_box;(·(first|exact eT rfl|exact eC|exact eG rfl|exact eL rfl|exact eLL rfl|exact eLLL rfl|exact eF|exact eGl));(·rfl);intro _ _)
            | (apply spl_alloc rfl;intro _ _)
            | (apply spl_store1;(·(first|exact eT rfl|exact eC|exact eG rfl|exact eL rfl|exact eLL rfl|exact eLLL rfl|exact eF|exact eGl));(·(first|exact eT rfl|exact eC|exact eG rfl|exact eL rfl|exact eLL rfl|exact eLLL rfl|exact eF|exact eGl));(·rfl);(·(repeat (first|exact Upd.here|apply Upd.there|apply Upd.app)));(·rfl))
            | (apply spl_stores;(·(first|exact eT rfl|exact eC|exact eG rfl|exact eL rfl|exact eLL rfl|exact eLLL rfl|exact eF|exact eGl));(·(first|exact eT rfl|exact eC|exact eG rfl|exact eL rfl|exact eLL rfl|exact eLLL rfl|exact eF|exact eGl));(·(repeat (first|exact Upd.here|apply Upd.there|apply Upd.app)));(·(first|rfl|assumption));(·(first|rfl|assumption));(·(first|exact Ones.one|assumption|exact ones_of_all rfl|decide|(intro v hv;simp at hv;(repeat (rcases hv with rfl | hv <;> first | rfl | skip));try (subst hv;rfl)))))
            | (apply spl_guard_t;(·(first|exact Gd.none|exact Gd.tt rfl rfl|exact Gd.tf rfl rfl|exact Gd.gt rfl rfl|exact Gd.gf rfl rfl));(·rfl))|(apply spl_guard_f;(·(first|exact Gd.none|exact Gd.tt rfl rfl|exact Gd.tf rfl rfl|exact Gd.gt rfl rfl|exact Gd.gf rfl rfl));(·rfl);(·rfl)))
          rename_i g10 h10 g11 h11
          rw [mobj_nil]
          have hSM2 : SM (putL y.name (.bool true) ck2 es2) (sn ++ [y.name]) := hSM.put
          generalize putL y.name (.bool true) ck2 es2 = es2' at hSM2
          generalize tick y.name ck2 es2 = ck2'
          refine sp_loop (X := Nat × List (ByteArray × Value × Nat) × Nat) (fun z => [(80, true, .int .i64 (z.1 : Int)), (79, true, .int .i64 (y.ks.n : Int)), (78, true, .slice y.ks.a y.ks.n y.ks.c), (11, true, .map (some g11)), (46, true, .int .i64 (j : Int)), (45, true, .int .i64 (x.ss.n : Int)), (44, true, .slice x.ss.a x.ss.n x.ss.c), (8, true, .map (some g8)), (5, true, .pointer (some ⟨g5, 0, none⟩)), (18, true, .int .i64 (i : Int)), (17, true, .int .i64 (n : Int)), (16, true, .slice A n c), (3, true, .map (some g2)), (1, true, .pointer (some ⟨g1, 0, none⟩))]) (fun _ => w)
            (fun z => [(g11, mobj Value.string z.2.1 z.2.2), (g8, mobj Value.string es2' ck2'), (g5, .cells x.cells 87 (0, 0)), (g2, mobj Value.string es ck), (g1, .cells #[.slice A n c] 24 (0, 0))])
            (fun z => z.1 ≤ y.ks.n ∧ SM z.2.1 (y.kinds.take z.1) ∧ kindsOk (ks.take i) [] y.kinds = kindsOk (ks.take i) (y.kinds.take z.1) (y.kinds.drop z.1)) (fun z => y.ks.n - z.1) (0, [], 0) ⟨Nat.zero_le _, SM.nil, rfl⟩ (by (repeat (first|exact ESub.nil|apply ESub.cons rfl))) rfl (by (repeat (first|exact HKeep.refl|apply HKeep.keep|(apply HKeep.app;(·(repeat (first|exact Split.here|exact Split.all|apply Split.cons|apply Split.app))))|(apply HKeep.pick;(·(repeat (first|exact Rem.here|apply Rem.there|apply Rem.app))))|apply HKeep.drop (by first|assumption|omega)|apply HKeep.dropA (by assumption)))) ?_
          rintro ⟨m, es3, ck3⟩ ⟨hmn, hTM, hkinds⟩
          replace hmn : m ≤ y.ks.n := hmn
          replace hTM : SM es3 (y.kinds.take m) := hTM
          replace hkinds : kindsOk (ks.take i) [] y.kinds = kindsOk (ks.take i) (y.kinds.take m) (y.kinds.drop m) := hkinds
          dsimp only
          by_cases hlt3 : m < y.ks.n
          · obtain ⟨ad3, z, hA3, hb3, hz, hsz3, hc3⟩ := hst.1.at_ hlt3
            rw [kindsOk_at hz] at hkinds
            have hget2 := hTM.get z
            have hget3 := hPM.get z
            cases hbad : (!inB z (y.kinds.take m) && good (ks.take i) z) with
            | false =>
              rw [hbad, Bool.false_and] at hkinds
              rw [hkinds, Bool.false_and] at hslots
              rw [hslots, Bool.false_and] at hcat
              have hcond3 : (inB z (y.kinds.take m) || !good (ks.take i) z) = true := by
                revert hbad
                cases inB z (y.kinds.take m) <;> cases good (ks.take i) z <;> simp
              repeat (first
                | (apply spl_makeMap rfl;intro _ _)
                | (apply spl_mapUpdate (K:=ByteArray);(·(first|exact eT rfl|exact eC|exact eG rfl|exact eL rfl|exact eLL rfl|exact eLLL rfl|exact eF|exact eGl));(·(first|exact eT rfl|exact eC|exact eG rfl|exact eL rfl|exact eLL rfl|exact eLLL rfl|exact eF|exact eGl));(·(first|exact eT rfl|exact eC|exact eG rfl|exact eL rfl|exact eLL rfl|exact eLLL rfl|exact eF|exact eGl));(·(repeat (first|exact Upd.here|apply Upd.there|apply Upd.app))))
                | (apply sp_cond_t;(·(first|exact eT rfl|exact eC|exact eG rfl|exact eL rfl|exact eLL rfl|exact eLLL rfl|exact eF|exact eGl));(·exact hcond3))
                | apply then_n|apply block_n|apply sp_seq|apply sp_region|apply spl_nil|apply then_r|apply block_r|apply then_e|apply block_here|apply block_past rfl
                | ((first|apply sp_cond_t|apply sp_cond_f);(·(first|exact eT rfl|exact eC|exact eG rfl|exact eL rfl|exact eLL rfl|exact eLLL rfl|exact eF|exact eGl));(·(first|exact decide_eq_true (by omega)|exact decide_eq_false (by omega)|assumption|rfl)))
                | (apply sp_cond_f;(·(first|exact eT rfl|exact eC|exact eG rfl|exact eL rfl|exact eLL rfl|exact eLLL rfl|exact eF|exact eGl));(·(first|exact decide_eq_false (by omega)|assumption|rfl)))
                | apply sp_skip|apply sp_ret|apply sp_exit|apply sp_block
                | ((first|apply spl_pure rfl|(apply spl_pure_g rfl;(·(first|exact Gd.none|exact Gd.tt rfl rfl|exact Gd.tf rfl rfl|exact Gd.gt rfl rfl|exact Gd.gf rfl rfl))));(·(first|(apply ex_lookup hget2;(·(first|exact eT rfl|exact eC|exact eG rfl|exact eL rfl|exact eLL rfl|exact eLLL rfl|exact eF|exact eGl));(·(first|exact eT rfl|exact eC|exact eG rfl|exact eL rfl|exact eLL rfl|exact eLLL rfl|exact eF|exact eGl));(·(first|exact Bk.own InH.mem|exact Bk.old (by assumption) (Nat.le_refl _))))|(apply ex_lookup hget3;(·(first|exact eT rfl|exact eC|exact eG rfl|exact eL rfl|exact eLL rfl|exact eLLL rfl|exact eF|exact eGl));(·(first|exact eT rfl|exact eC|exact eG rfl|exact eL rfl|exact eLL rfl|exact eLLL rfl|exact eF|exact eGl));(·(first|exact Bk.own InH.mem|exact Bk.old (by assumption) (Nat.le_refl _))))|(apply ex_loadfield (k:=0);(·(first|exact eT rfl|exact eC|exact eG rfl|exact eL rfl|exact eLL rfl|exact eLLL rfl|exact eF|exact eGl));(·exact hst.1);(·exact hA3);(·exact hz);(·rfl))|(apply ex_loadelem;(·(first|exact eT rfl|exact eC|exact eG rfl|exact eL rfl|exact eLL rfl|exact eLLL rfl|exact eF|exact eGl));(·exact h.1);(·exact hA);(·exact hx))|((first|apply ex_move|apply ex_assign|apply ex_fieldAddr'|apply ex_not|apply ex_lss|apply ex_leq|apply ex_gtr|apply ex_len|apply ex_andT)<;>(first|exact eT rfl|exact eC|exact eG rfl|exact eL rfl|exact eLL rfl|exact eLLL rfl|exact eF|exact eGl))|((first|apply ex_fieldAddr|apply ex_slen|apply ex_orT|apply ex_slss)<;>(first|exact eT rfl|exact eC|exact eG rfl|exact eL rfl|exact eLL rfl|exact eLLL rfl|exact eF|exact eGl))|(apply ex_and<;>(first|exact eT rfl|exact eC|exact eG rfl|exact eL rfl|exact eLL rfl|exact eLLL rfl|exact eF|exact eGl))|(apply ex_or<;>(first|exact eT rfl|exact eC|exact eG rfl|exact eL rfl|exact eLL rfl|exact eLLL rfl|exact eF|exact eGl))|(apply ex_addn<;>(first|exact eT rfl|exact eC|exact eG rfl|exact eL rfl|exact eLL rfl|exact eLLL rfl|exact eF|exact eGl|(constructor<;>omega)))|(apply ex_add<;>(first|exact eT rfl|exact eC|exact eG rfl|exact eL rfl|exact eLL rfl|exact eLLL rfl|exact eF|exact eGl))|((first|apply ex_loadown|apply ex_extract|apply ex_indexAddr)<;>(first|exact eT rfl|exact eC|exact eG rfl|exact eL rfl|exact eLL rfl|exact eLLL rfl|exact eF|exact eGl|exact Bk.own InH.mem|exact Bk.old (by assumption) (Nat.le_refl _)|rfl|assumption|omega))|((first|apply ex_loadowns|apply ex_indexAddrI)<;>(first|exact eT rfl|exact eC|exact eG rfl|exact eL rfl|exact eLL rfl|exact eLLL rfl|exact eF|exact eGl|exact Bk.own InH.mem|exact Bk.old (by assumption) (Nat.le_refl _)|(first|rfl|assumption)|(constructor<;>omega))))))
                | (apply spl_box;(·(first|exact eT rfl|exact eC|exact eG rfl|exact eL rfl|exact eLL rfl|exact eLLL rfl|exact eF|exact eGl));(·rfl);intro _ _)
                | (apply spl_alloc rfl;intro _ _)
                | (apply spl_store1;(·(first|exact eT rfl|exact eC|exact eG rfl|exact eL rfl|exact eLL rfl|exact eLLL rfl|exact eF|exact eGl));(·(first|exact eT rfl|exact eC|exact eG rfl|exact eL rfl|exact eLL rfl|exact eLLL rfl|exact eF|exact eGl));(·rfl);(·(repeat (first|exact Upd.here|apply Upd.there|apply Upd.app)));(·rfl))
                | (apply spl_stores;(·(first|exact eT rfl|exact eC|exact eG rfl|exact eL rfl|exact eLL rfl|exact eLLL rfl|exact eF|exact eGl));(·(first|exact eT rfl|exact eC|exact eG rfl|exact eL rfl|exact eLL rfl|exact eLLL rfl|exact eF|exact eGl));(·(repeat (first|exact Upd.here|apply Upd.there|apply Upd.app)));(·(first|rfl|assumption));(·(first|rfl|assumption));(·(first|exact Ones.one|assumption|exact ones_of_all rfl|decide|(intro v hv;simp at hv;(repeat (rcases hv with rfl | hv <;> first | rfl | skip));try (subst hv;rfl)))))
                | (apply spl_guard_t;(·(first|exact Gd.none|exact Gd.tt rfl rfl|exact Gd.tf rfl rfl|exact Gd.gt rfl rfl|exact Gd.gf rfl rfl));(·rfl))|(apply spl_guard_f;(·(first|exact Gd.none|exact Gd.tt rfl rfl|exact Gd.tf rfl rfl|exact Gd.gt rfl rfl|exact Gd.gf rfl rfl));(·rfl);(·rfl)))
              (apply ret_ok rfl;(·(first|(apply Res.ofOne;(first|(apply Res1.tmp;(·rfl))|(apply Res1.cell;(·rfl);(·exact InH.mem);(·(first|rfl|assumption)))|(apply Res1.cell1;(·rfl);(·exact InH.mem);(·rfl))))|(apply Res.ofTwo<;>(first|(apply Res1.tmp;(·rfl))|(apply Res1.cell;(·rfl);(·exact InH.mem);(·(first|rfl|assumption)))|(apply Res1.cell1;(·rfl);(·exact InH.mem);(·rfl))))|(apply Res.ofThree<;>(first|(apply Res1.tmp;(·rfl))|(apply Res1.cell;(·rfl);(·exact InH.mem);(·(first|rfl|assumption)))|(apply Res1.cell1;(·rfl);(·exact InH.mem);(·rfl))))|exact Res.none_))); unfold validB; rw [hcat]; rfl
            | true =>
              rw [hbad, Bool.true_and] at hkinds
              have hcond3 : (inB z (y.kinds.take m) || !good (ks.take i) z) = false := by
                revert hbad
                cases inB z (y.kinds.take m) <;> cases good (ks.take i) z <;> simp
              repeat (first
                | (apply spl_makeMap rfl;intro _ _)
                | (apply spl_mapUpdate (K:=ByteArray);(·(first|exact eT rfl|exact eC|exact eG rfl|exact eL rfl|exact eLL rfl|exact eLLL rfl|exact eF|exact eGl));(·(first|exact eT rfl|exact eC|exact eG rfl|exact eL rfl|exact eLL rfl|exact eLLL rfl|exact eF|exact eGl));(·(first|exact eT rfl|exact eC|exact eG rfl|exact eL rfl|exact eLL rfl|exact eLLL rfl|exact eF|exact eGl));(·(repeat (first|exact Upd.here|apply Upd.there|apply Upd.app))))
                | (apply sp_cond_f;(·(first|exact eT rfl|exact eC|exact eG rfl|exact eL rfl|exact eLL rfl|exact eLLL rfl|exact eF|exact eGl));(·exact hcond3))
                | apply then_n|apply block_n|apply sp_seq|apply sp_region|apply spl_nil|apply then_r|apply block_r|apply then_e|apply block_here|apply block_past rfl
                | ((first|apply sp_cond_t|apply sp_cond_f);(·(first|exact eT rfl|exact eC|exact eG rfl|exact eL rfl|exact eLL rfl|exact eLLL rfl|exact eF|exact eGl));(·(first|exact decide_eq_true (by omega)|exact decide_eq_false (by omega)|assumption|rfl)))
                | (apply sp_cond_f;(·(first|exact eT rfl|exact eC|exact eG rfl|exact eL rfl|exact eLL rfl|exact eLLL rfl|exact eF|exact eGl));(·(first|exact decide_eq_false (by omega)|assumption|rfl)))
                | apply sp_skip|apply sp_ret|apply sp_exit|apply sp_block
                | ((first|apply spl_pure rfl|(apply spl_pure_g rfl;(·(first|exact Gd.none|exact Gd.tt rfl rfl|exact Gd.tf rfl rfl|exact Gd.gt rfl rfl|exact Gd.gf rfl rfl))));(·(first|(apply ex_lookup hget2;(·(first|exact eT rfl|exact eC|exact eG rfl|exact eL rfl|exact eLL rfl|exact eLLL rfl|exact eF|exact eGl));(·(first|exact eT rfl|exact eC|exact eG rfl|exact eL rfl|exact eLL rfl|exact eLLL rfl|exact eF|exact eGl));(·(first|exact Bk.own InH.mem|exact Bk.old (by assumption) (Nat.le_refl _))))|(apply ex_lookup hget3;(·(first|exact eT rfl|exact eC|exact eG rfl|exact eL rfl|exact eLL rfl|exact eLLL rfl|exact eF|exact eGl));(·(first|exact eT rfl|exact eC|exact eG rfl|exact eL rfl|exact eLL rfl|exact eLLL rfl|exact eF|exact eGl));(·(first|exact Bk.own InH.mem|exact Bk.old (by assumption) (Nat.le_refl _))))|(apply ex_loadfield (k:=0);(·(first|exact eT rfl|exact eC|exact eG rfl|exact eL rfl|exact eLL rfl|exact eLLL rfl|exact eF|exact eGl));(·exact hst.1);(·exact hA3);(·exact hz);(·rfl))|(apply ex_loadelem;(·(first|exact eT rfl|exact eC|exact eG rfl|exact eL rfl|exact eLL rfl|exact eLLL rfl|exact eF|exact eGl));(·exact h.1);(·exact hA);(·exact hx))|((first|apply ex_move|apply ex_assign|apply ex_fieldAddr'|apply ex_not|apply ex_lss|apply ex_leq|apply ex_gtr|apply ex_len|apply ex_andT)<;>(first|exact eT rfl|exact eC|exact eG rfl|exact eL rfl|exact eLL rfl|exact eLLL rfl|exact eF|exact eGl))|((first|apply ex_fieldAddr|apply ex_slen|apply ex_orT|apply ex_slss)<;>(first|exact eT rfl|exact eC|exact eG rfl|exact eL rfl|exact eLL rfl|exact eLLL rfl|exact eF|exact eGl))|(apply ex_and<;>(first|exact eT rfl|exact eC|exact eG rfl|exact eL rfl|exact eLL rfl|exact eLLL rfl|exact eF|exact eGl))|(apply ex_or<;>(first|exact eT rfl|exact eC|exact eG rfl|exact eL rfl|exact eLL rfl|exact eLLL rfl|exact eF|exact eGl))|(apply ex_addn<;>(first|exact eT rfl|exact eC|exact eG rfl|exact eL rfl|exact eLL rfl|exact eLLL rfl|exact eF|exact eGl|(constructor<;>omega)))|(apply ex_add<;>(first|exact eT rfl|exact eC|exact eG rfl|exact eL rfl|exact eLL rfl|exact eLLL rfl|exact eF|exact eGl))|((first|apply ex_loadown|apply ex_extract|apply ex_indexAddr)<;>(first|exact eT rfl|exact eC|exact eG rfl|exact eL rfl|exact eLL rfl|exact eLLL rfl|exact eF|exact eGl|exact Bk.own InH.mem|exact Bk.old (by assumption) (Nat.le_refl _)|rfl|assumption|omega))|((first|apply ex_loadowns|apply ex_indexAddrI)<;>(first|exact eT rfl|exact eC|exact eG rfl|exact eL rfl|exact eLL rfl|exact eLLL rfl|exact eF|exact eGl|exact Bk.own InH.mem|exact Bk.old (by assumption) (Nat.le_refl _)|(first|rfl|assumption)|(constructor<;>omega))))))
                | (apply spl_box;(·(first|exact eT rfl|exact eC|exact eG rfl|exact eL rfl|exact eLL rfl|exact eLLL rfl|exact eF|exact eGl));(·rfl);intro _ _)
                | (apply spl_alloc rfl;intro _ _)
                | (apply spl_store1;(·(first|exact eT rfl|exact eC|exact eG rfl|exact eL rfl|exact eLL rfl|exact eLLL rfl|exact eF|exact eGl));(·(first|exact eT rfl|exact eC|exact eG rfl|exact eL rfl|exact eLL rfl|exact eLLL rfl|exact eF|exact eGl));(·rfl);(·(repeat (first|exact Upd.here|apply Upd.there|apply Upd.app)));(·rfl))
                | (apply spl_stores;(·(first|exact eT rfl|exact eC|exact eG rfl|exact eL rfl|exact eLL rfl|exact eLLL rfl|exact eF|exact eGl));(·(first|exact eT rfl|exact eC|exact eG rfl|exact eL rfl|exact eLL rfl|exact eLLL rfl|exact eF|exact eGl));(·(repeat (first|exact Upd.here|apply Upd.there|apply Upd.app)));(·(first|rfl|assumption));(·(first|rfl|assumption));(·(first|exact Ones.one|assumption|exact ones_of_all rfl|decide|(intro v hv;simp at hv;(repeat (rcases hv with rfl | hv <;> first | rfl | skip));try (subst hv;rfl)))))
                | (apply spl_guard_t;(·(first|exact Gd.none|exact Gd.tt rfl rfl|exact Gd.tf rfl rfl|exact Gd.gt rfl rfl|exact Gd.gf rfl rfl));(·rfl))|(apply spl_guard_f;(·(first|exact Gd.none|exact Gd.tt rfl rfl|exact Gd.tf rfl rfl|exact Gd.gt rfl rfl|exact Gd.gf rfl rfl));(·rfl);(·rfl)))
              exact ⟨(m + 1, putL z (.bool true) ck3 es3, tick z ck3 es3), ⟨hlt3, by rw [take_succ hz]; exact hTM.put, hkinds⟩, by show y.ks.n - (m + 1) < y.ks.n - m; omega, (by (repeat (first|exact ESub.nil|apply ESub.cons rfl))), rfl, (by (repeat (first|exact HKeep.refl|apply HKeep.keep|(apply HKeep.app;(·(repeat (first|exact Split.here|exact Split.all|apply Split.cons|apply Split.app))))|(apply HKeep.pick;(·(repeat (first|exact Rem.here|apply Rem.there|apply Rem.app))))|apply HKeep.drop (by first|assumption|omega)|apply HKeep.dropA (by assumption))))⟩
          · have hk0 : kindsOk (ks.take i) (y.kinds.take m) (y.kinds.drop m) = true := by rw [List.drop_eq_nil_of_le (by omega)]; rfl
            rw [hkinds, hk0, Bool.true_and] at hslots
            repeat (first
              | (apply spl_makeMap rfl;intro _ _)
              | (apply spl_mapUpdate (K:=ByteArray);(·(first|exact eT rfl|exact eC|exact eG rfl|exact eL rfl|exact eLL rfl|exact eLLL rfl|exact eF|exact eGl));(·(first|exact eT rfl|exact eC|exact eG rfl|exact eL rfl|exact eLL rfl|exact eLLL rfl|exact eF|exact eGl));(·(first|exact eT rfl|exact eC|exact eG rfl|exact eL rfl|exact eLL rfl|exact eLLL rfl|exact eF|exact eGl));(·(repeat (first|exact Upd.here|apply Upd.there|apply Upd.app))))
              | apply sp_skip
              | apply then_n|apply block_n|apply sp_seq|apply sp_region|apply spl_nil|apply then_r|apply block_r|apply then_e|apply block_here|apply block_past rfl
              | ((first|apply sp_cond_t|apply sp_cond_f);(·(first|exact eT rfl|exact eC|exact eG rfl|exact eL rfl|exact eLL rfl|exact eLLL rfl|exact eF|exact eGl));(·(first|exact decide_eq_true (by omega)|exact decide_eq_false (by omega)|assumption|rfl)))
              | (apply sp_cond_f;(·(first|exact eT rfl|exact eC|exact eG rfl|exact eL rfl|exact eLL rfl|exact eLLL rfl|exact eF|exact eGl));(·(first|exact decide_eq_false (by omega)|assumption|rfl)))
              | apply sp_skip|apply sp_ret|apply sp_exit|apply sp_block
              | ((first|apply spl_pure rfl|(apply spl_pure_g rfl;(·(first|exact Gd.none|exact Gd.tt rfl rfl|exact Gd.tf rfl rfl|exact Gd.gt rfl rfl|exact Gd.gf rfl rfl))));(·(first|(apply ex_loadelem;(·(first|exact eT rfl|exact eC|exact eG rfl|exact eL rfl|exact eLL rfl|exact eLLL rfl|exact eF|exact eGl));(·exact h.1);(·exact hA);(·exact hx))|((first|apply ex_move|apply ex_assign|apply ex_fieldAddr'|apply ex_not|apply ex_lss|apply ex_leq|apply ex_gtr|apply ex_len|apply ex_andT)<;>(first|exact eT rfl|exact eC|exact eG rfl|exact eL rfl|exact eLL rfl|exact eLLL rfl|exact eF|exact eGl))|((first|apply ex_fieldAddr|apply ex_slen|apply ex_orT|apply ex_slss)<;>(first|exact eT rfl|exact eC|exact eG rfl|exact eL rfl|exact eLL rfl|exact eLLL rfl|exact eF|exact eGl))|(apply ex_and<;>(first|exact eT rfl|exact eC|exact eG rfl|exact eL rfl|exact eLL rfl|exact eLLL rfl|exact eF|exact eGl))|(apply ex_or<;>(first|exact eT rfl|exact eC|exact eG rfl|exact eL rfl|exact eLL rfl|exact eLLL rfl|exact eF|exact eGl))|(apply ex_addn<;>(first|exact eT rfl|exact eC|exact eG rfl|exact eL rfl|exact eLL rfl|exact eLLL rfl|exact eF|exact eGl|(constructor<;>omega)))|(apply ex_add<;>(first|exact eT rfl|exact eC|exact eG rfl|exact eL rfl|exact eLL rfl|exact eLLL rfl|exact eF|exact eGl))|((first|apply ex_loadown|apply ex_extract|apply ex_indexAddr)<;>(first|exact eT rfl|exact eC|exact eG rfl|exact eL rfl|exact eLL rfl|exact eLLL rfl|exact eF|exact eGl|exact Bk.own InH.mem|exact Bk.old (by assumption) (Nat.le_refl _)|rfl|assumption|omega))|((first|apply ex_loadowns|apply ex_indexAddrI)<;>(first|exact eT rfl|exact eC|exact eG rfl|exact eL rfl|exact eLL rfl|exact eLLL rfl|exact eF|exact eGl|exact Bk.own InH.mem|exact Bk.old (by assumption) (Nat.le_refl _)|(first|rfl|assumption)|(constructor<;>omega))))))
              | (apply spl_box;(·(first|exact eT rfl|exact eC|exact eG rfl|exact eL rfl|exact eLL rfl|exact eLLL rfl|exact eF|exact eGl));(·rfl);intro _ _)
              | (apply spl_alloc rfl;intro _ _)
              | (apply spl_store1;(·(first|exact eT rfl|exact eC|exact eG rfl|exact eL rfl|exact eLL rfl|exact eLLL rfl|exact eF|exact eGl));(·(first|exact eT rfl|exact eC|exact eG rfl|exact eL rfl|exact eLL rfl|exact eLLL rfl|exact eF|exact eGl));(·rfl);(·(repeat (first|exact Upd.here|apply Upd.there|apply Upd.app)));(·rfl))
              | (apply spl_stores;(·(first|exact eT rfl|exact eC|exact eG rfl|exact eL rfl|exact eLL rfl|exact eLLL rfl|exact eF|exact eGl));(·(first|exact eT rfl|exact eC|exact eG rfl|exact eL rfl|exact eLL rfl|exact eLLL rfl|exact eF|exact eGl));(·(repeat (first|exact Upd.here|apply Upd.there|apply Upd.app)));(·(first|rfl|assumption));(·(first|rfl|assumption));(·(first|exact Ones.one|assumption|exact ones_of_all rfl|decide|(intro v hv;simp at hv;(repeat (rcases hv with rfl | hv <;> first | rfl | skip));try (subst hv;rfl)))))
              | (apply spl_guard_t;(·(first|exact Gd.none|exact Gd.tt rfl rfl|exact Gd.tf rfl rfl|exact Gd.gt rfl rfl|exact Gd.gf rfl rfl));(·rfl))|(apply spl_guard_f;(·(first|exact Gd.none|exact Gd.tt rfl rfl|exact Gd.tf rfl rfl|exact Gd.gt rfl rfl|exact Gd.gf rfl rfl));(·rfl);(·rfl)))
            exact ⟨(j + 1, es2', ck2'), ⟨hlt2, by rw [hsn2]; exact hSM2, hslots⟩, by show x.ss.n - (j + 1) < x.ss.n - j; omega, (by (repeat (first|exact ESub.nil|apply ESub.cons rfl))), rfl, (by (repeat (first|exact HKeep.refl|apply HKeep.keep|(apply HKeep.app;(·(repeat (first|exact Split.here|exact Split.all|apply Split.cons|apply Split.app))))|(apply HKeep.pick;(·(repeat (first|exact Rem.here|apply Rem.there|apply Rem.app))))|apply HKeep.drop (by first|assumption|omega)|apply HKeep.dropA (by assumption))))⟩
      · have hs0 : slotsOk (ks.take i) ((x.slots.take j).map (·.name)) (x.slots.drop j) = true := by rw [List.drop_eq_nil_of_le (by omega)]; rfl
        rw [hslots, hs0, Bool.true_and] at hcat
        repeat (first
          | (apply spl_makeMap rfl;intro _ _)
          | (apply spl_mapUpdate (K:=ByteArray);(·(first|exact eT rfl|exact eC|exact eG rfl|exact eL rfl|exact eLL rfl|exact eLLL rfl|exact eF|exact eGl));(·(first|exact eT rfl|exact eC|exact eG rfl|exact eL rfl|exact eLL rfl|exact eLLL rfl|exact eF|exact eGl));(·(first|exact eT rfl|exact eC|exact eG rfl|exact eL rfl|exact eLL rfl|exact eLLL rfl|exact eF|exact eGl));(·(repeat (first|exact Upd.here|apply Upd.there|apply Upd.app))))
          | apply sp_skip
          | apply then_n|apply block_n|apply sp_seq|apply sp_region|apply spl_nil|apply then_r|apply block_r|apply then_e|apply block_here|apply block_past rfl
          | ((first|apply sp_cond_t|apply sp_cond_f);(·(first|exact eT rfl|exact eC|exact eG rfl|exact eL rfl|exact eLL rfl|exact eLLL rfl|exact eF|exact eGl));(·(first|exact decide_eq_true (by omega)|exact decide_eq_false (by omega)|assumption|rfl)))
          | (apply sp_cond_f;(·(first|exact eT rfl|exact eC|exact eG rfl|exact eL rfl|exact eLL rfl|exact eLLL rfl|exact eF|exact eGl));(·(first|exact decide_eq_false (by omega)|assumption|rfl)))
          | apply sp_skip|apply sp_ret|apply sp_exit|apply sp_block
          | ((first|apply spl_pure rfl|(apply spl_pure_g rfl;(·(first|exact Gd.none|exact Gd.tt rfl rfl|exact Gd.tf rfl rfl|exact Gd.gt rfl rfl|exact Gd.gf rfl rfl))));(·(first|(apply ex_loadelem;(·(first|exact eT rfl|exact eC|exact eG rfl|exact eL rfl|exact eLL rfl|exact eLLL rfl|exact eF|exact eGl));(·exact h.1);(·exact hA);(·exact hx))|((first|apply ex_move|apply ex_assign|apply ex_fieldAddr'|apply ex_not|apply ex_lss|apply ex_leq|apply ex_gtr|apply ex_len|apply ex_andT)<;>(first|exact eT rfl|exact eC|exact eG rfl|exact eL rfl|exact eLL rfl|exact eLLL rfl|exact eF|exact eGl))|((first|apply ex_fieldAddr|apply ex_slen|apply ex_orT|apply ex_slss)<;>(first|exact eT rfl|exact eC|exact eG rfl|exact eL rfl|exact eLL rfl|exact eLLL rfl|exact eF|exact eGl))|(apply ex_and<;>(first|exact eT rfl|exact eC|exact eG rfl|exact eL rfl|exact eLL rfl|exact eLLL rfl|exact eF|exact eGl))|(apply ex_or<;>(first|exact eT rfl|exact eC|exact eG rfl|exact eL rfl|exact eLL rfl|exact eLLL rfl|exact eF|exact eGl))|(apply ex_addn<;>(first|exact eT rfl|exact eC|exact eG rfl|exact eL rfl|exact eLL rfl|exact eLLL rfl|exact eF|exact eGl|(constructor<;>omega)))|(apply ex_add<;>(first|exact eT rfl|exact eC|exact eG rfl|exact eL rfl|exact eLL rfl|exact eLLL rfl|exact eF|exact eGl))|((first|apply ex_loadown|apply ex_extract|apply ex_indexAddr)<;>(first|exact eT rfl|exact eC|exact eG rfl|exact eL rfl|exact eLL rfl|exact eLLL rfl|exact eF|exact eGl|exact Bk.own InH.mem|exact Bk.old (by assumption) (Nat.le_refl _)|rfl|assumption|omega))|((first|apply ex_loadowns|apply ex_indexAddrI)<;>(first|exact eT rfl|exact eC|exact eG rfl|exact eL rfl|exact eLL rfl|exact eLLL rfl|exact eF|exact eGl|exact Bk.own InH.mem|exact Bk.old (by assumption) (Nat.le_refl _)|(first|rfl|assumption)|(constructor<;>omega))))))
          | (apply spl_box;(·(first|exact eT rfl|exact eC|exact eG rfl|exact eL rfl|exact eLL rfl|exact eLLL rfl|exact eF|exact eGl));(·rfl);intro _ _)
          | (apply spl_alloc rfl;intro _ _)
          | (apply spl_store1;(·(first|exact eT rfl|exact eC|exact eG rfl|exact eL rfl|exact eLL rfl|exact eLLL rfl|exact eF|exact eGl));(·(first|exact eT rfl|exact eC|exact eG rfl|exact eL rfl|exact eLL rfl|exact eLLL rfl|exact eF|exact eGl));(·rfl);(·(repeat (first|exact Upd.here|apply Upd.there|apply Upd.app)));(·rfl))
          | (apply spl_stores;(·(first|exact eT rfl|exact eC|exact eG rfl|exact eL rfl|exact eLL rfl|exact eLLL rfl|exact eF|exact eGl));(·(first|exact eT rfl|exact eC|exact eG rfl|exact eL rfl|exact eLL rfl|exact eLLL rfl|exact eF|exact eGl));(·(repeat (first|exact Upd.here|apply Upd.there|apply Upd.app)));(·(first|rfl|assumption));(·(first|rfl|assumption));(·(first|exact Ones.one|assumption|exact ones_of_all rfl|decide|(intro v hv;simp at hv;(repeat (rcases hv with rfl | hv <;> first | rfl | skip));try (subst hv;rfl)))))
          | (apply spl_guard_t;(·(first|exact Gd.none|exact Gd.tt rfl rfl|exact Gd.tf rfl rfl|exact Gd.gt rfl rfl|exact Gd.gf rfl rfl));(·rfl))|(apply spl_guard_f;(·(first|exact Gd.none|exact Gd.tt rfl rfl|exact Gd.tf rfl rfl|exact Gd.gt rfl rfl|exact Gd.gf rfl rfl));(·rfl);(·rfl)))
        exact ⟨(i + 1, putL x.name (.bool (!x.vehicle)) ck es, tick x.name ck es), ⟨hlt, by rw [take_succ hx]; exact hPM.put hnone, hcat⟩, by show n - (i + 1) < n - i; omega, (by (repeat (first|exact ESub.nil|apply ESub.cons rfl))), rfl, (by (repeat (first|exact HKeep.refl|apply HKeep.keep|(apply HKeep.app;(·(repeat (first|exact Split.here|exact Split.all|apply Split.cons|apply Split.app))))|(apply HKeep.pick;(·(repeat (first|exact Rem.here|apply Rem.there|apply Rem.app))))|apply HKeep.drop (by first|assumption|omega)|apply HKeep.dropA (by assumption))))⟩
  · have h0 : catOk (ks.take i) (ks.drop i) = true := by rw [List.drop_eq_nil_of_le (by omega)]; rfl
    rw [h0] at hcat
    repeat (first
      | (apply spl_makeMap rfl;intro _ _)
      | (apply spl_mapUpdate (K:=ByteArray);(·(first|exact eT rfl|exact eC|exact eG rfl|exact eL rfl|exact eLL rfl|exact eLLL rfl|exact eF|exact eGl));(·(first|exact eT rfl|exact eC|exact eG rfl|exact eL rfl|exact eLL rfl|exact eLLL rfl|exact eF|exact eGl));(·(first|exact eT rfl|exact eC|exact eG rfl|exact eL rfl|exact eLL rfl|exact eLLL rfl|exact eF|exact eGl));(·(repeat (first|exact Upd.here|apply Upd.there|apply Upd.app))))
      | apply sp_skip
      | apply then_n|apply block_n|apply sp_seq|apply sp_region|apply spl_nil|apply then_r|apply block_r|apply then_e|apply block_here|apply block_past rfl
      | ((first|apply sp_cond_t|apply sp_cond_f);(·(first|exact eT rfl|exact eC|exact eG rfl|exact eL rfl|exact eLL rfl|exact eLLL rfl|exact eF|exact eGl));(·(first|exact decide_eq_true (by omega)|exact decide_eq_false (by omega)|assumption|rfl)))
      | (apply sp_cond_f;(·(first|exact eT rfl|exact eC|exact eG rfl|exact eL rfl|exact eLL rfl|exact eLLL rfl|exact eF|exact eGl));(·(first|exact decide_eq_false (by omega)|assumption|rfl)))
      | apply sp_skip|apply sp_ret|apply sp_exit|apply sp_block
      | ((first|apply spl_pure rfl|(apply spl_pure_g rfl;(·(first|exact Gd.none|exact Gd.tt rfl rfl|exact Gd.tf rfl rfl|exact Gd.gt rfl rfl|exact Gd.gf rfl rfl))));(·(first|(apply ex_loadelem;(·(first|exact eT rfl|exact eC|exact eG rfl|exact eL rfl|exact eLL rfl|exact eLLL rfl|exact eF|exact eGl));(·exact h.1);(·exact hA);(·exact hx))|((first|apply ex_move|apply ex_assign|apply ex_fieldAddr'|apply ex_not|apply ex_lss|apply ex_leq|apply ex_gtr|apply ex_len|apply ex_andT)<;>(first|exact eT rfl|exact eC|exact eG rfl|exact eL rfl|exact eLL rfl|exact eLLL rfl|exact eF|exact eGl))|((first|apply ex_fieldAddr|apply ex_slen|apply ex_orT|apply ex_slss)<;>(first|exact eT rfl|exact eC|exact eG rfl|exact eL rfl|exact eLL rfl|exact eLLL rfl|exact eF|exact eGl))|(apply ex_and<;>(first|exact eT rfl|exact eC|exact eG rfl|exact eL rfl|exact eLL rfl|exact eLLL rfl|exact eF|exact eGl))|(apply ex_or<;>(first|exact eT rfl|exact eC|exact eG rfl|exact eL rfl|exact eLL rfl|exact eLLL rfl|exact eF|exact eGl))|(apply ex_addn<;>(first|exact eT rfl|exact eC|exact eG rfl|exact eL rfl|exact eLL rfl|exact eLLL rfl|exact eF|exact eGl|(constructor<;>omega)))|(apply ex_add<;>(first|exact eT rfl|exact eC|exact eG rfl|exact eL rfl|exact eLL rfl|exact eLLL rfl|exact eF|exact eGl))|((first|apply ex_loadown|apply ex_extract|apply ex_indexAddr)<;>(first|exact eT rfl|exact eC|exact eG rfl|exact eL rfl|exact eLL rfl|exact eLLL rfl|exact eF|exact eGl|exact Bk.own InH.mem|exact Bk.old (by assumption) (Nat.le_refl _)|rfl|assumption|omega))|((first|apply ex_loadowns|apply ex_indexAddrI)<;>(first|exact eT rfl|exact eC|exact eG rfl|exact eL rfl|exact eLL rfl|exact eLLL rfl|exact eF|exact eGl|exact Bk.own InH.mem|exact Bk.old (by assumption) (Nat.le_refl _)|(first|rfl|assumption)|(constructor<;>omega))))))
      | (apply spl_box;(·(first|exact eT rfl|exact eC|exact eG rfl|exact eL rfl|exact eLL rfl|exact eLLL rfl|exact eF|exact eGl));(·rfl);intro _ _)
      | (apply spl_alloc rfl;intro _ _)
      | (apply spl_store1;(·(first|exact eT rfl|exact eC|exact eG rfl|exact eL rfl|exact eLL rfl|exact eLLL rfl|exact eF|exact eGl));(·(first|exact eT rfl|exact eC|exact eG rfl|exact eL rfl|exact eLL rfl|exact eLLL rfl|exact eF|exact eGl));(·rfl);(·(repeat (first|exact Upd.here|apply Upd.there|apply Upd.app)));(·rfl))
      | (apply spl_stores;(·(first|exact eT rfl|exact eC|exact eG rfl|exact eL rfl|exact eLL rfl|exact eLLL rfl|exact eF|exact eGl));(·(first|exact eT rfl|exact eC|exact eG rfl|exact eL rfl|exact eLL rfl|exact eLLL rfl|exact eF|exact eGl));(·(repeat (first|exact Upd.here|apply Upd.there|apply Upd.app)));(·(first|rfl|assumption));(·(first|rfl|assumption));(·(first|exact Ones.one|assumption|exact ones_of_all rfl|decide|(intro v hv;simp at hv;(repeat (rcases hv with rfl | hv <;> first | rfl | skip));try (subst hv;rfl)))))
      | (apply spl_guard_t;(·(first|exact Gd.none|exact Gd.tt rfl rfl|exact Gd.tf rfl rfl|exact Gd.gt rfl rfl|exact Gd.gf rfl rfl));(·rfl))|(apply spl_guard_f;(·(first|exact Gd.none|exact Gd.tt rfl rfl|exact Gd.tf rfl rfl|exact Gd.gt rfl rfl|exact Gd.gf rfl rfl));(·rfl);(·rfl)))
    (apply ret_ok rfl;(·(first|(apply Res.ofOne;(first|(apply Res1.tmp;(·rfl))|(apply Res1.cell;(·rfl);(·exact InH.mem);(·(first|rfl|assumption)))|(apply Res1.cell1;(·rfl);(·exact InH.mem);(·rfl))))|(apply Res.ofTwo<;>(first|(apply Res1.tmp;(·rfl))|(apply Res1.cell;(·rfl);(·exact InH.mem);(·(first|rfl|assumption)))|(apply Res1.cell1;(·rfl);(·exact InH.mem);(·rfl))))|(apply Res.ofThree<;>(first|(apply Res1.tmp;(·rfl))|(apply Res1.cell;(·rfl);(·exact InH.mem);(·(first|rfl|assumption)))|(apply Res1.cell1;(·rfl);(·exact InH.mem);(·rfl))))|exact Res.none_)))
    unfold validB
    rw [hcat, hlen, Bool.true_and]
    congr 1
    rw [Bool.eq_iff_iff]
    simp
    omega
end Go.Proofs.Ytffbhbinnjpgnaa
