/-
  Contracts: play.Lost, where the plan never gets stuck.
-/
import Derived.Test.YtoogicafefennaaQB4
import Derived.Test.YtoogicafefennaaQB3
namespace Go.Proofs.Ytoogicafefennaa
set_option linter.unusedVariables false
open Go.RowKit Go.Sy
set_option linter.unusedVariables false
set_option linter.unusedSimpArgs false
/-- Failures that are allowed, and how the plan plays against them. -/
structure LostH (G : GP) (look : GS → Option Int) (ks : List (Option Nat)) (B : Nat) (s0 : GS) (FL : Nat → List Bool) (C : Nat → Nat) (S : Nat → GS) (T : Nat → Nat) : Prop where
  fl0 : FL 0 = List.replicate 6 false
  c0 : C 0 = 0
  s0 : S 0 = s0
  t0 : T 0 = 0
  none_ : ∀ i, ks[i]? = some none → FL (i + 1) = FL i ∧ C (i + 1) = C i
  some_ : ∀ i k, ks[i]? = some (some k) → k < G.m ∧ gt (FL i) k = false ∧ FL (i + 1) = (FL i).set k true ∧ C (i + 1) = C i + 1
  cB : C ks.length ≤ B
  play : ∀ i k, ks[i]? = some k → okMove G (S i) k ∧ ∃ one, turnF G look (movS (S i) k) = some (S (i + 1), one) ∧ T (i + 1) = T i + one
def bvC (l : List Bool) : Array Value := (l.map bv).toArray
theorem bvC_size {l : List Bool} (h : l.length = 6) : (bvC l).size = 6 := by unfold bvC; simp [h]
theorem bvC_get {l : List Bool} {i : Nat} (h : l.length = 6) (hi : i < 6) : (bvC l)[i]? = some (.bool (gt l i)) := by
  unfold bvC gt
  rw [List.getElem?_toArray, List.getElem?_map, List.getD_eq_getElem?_getD, List.getElem?_eq_getElem (by rw [h]; exact hi)]
  all_goals rfl
theorem bvC_set {l : List Bool} {i : Nat} : (bvC l).setIfInBounds i (.bool true) = bvC (l.set i true) := by
  apply Array.ext'
  unfold bvC
  rw [Array.toList_setIfInBounds, List.map_set]
  all_goals rfl
theorem LostH.le {G : GP} {look : GS → Option Int} {ks : List (Option Nat)} {B : Nat} {s0 : GS} {FL : Nat → List Bool} {C : Nat → Nat} {S : Nat → GS} {T : Nat → Nat} (h : LostH G look ks B s0 FL C S T) (hG : G.Ok) (h0 : s0.In G) (ht : s0.turn = 0) (hn : ks.length = G.deps.length) : ∀ i, i ≤ ks.length → (FL i).length = 6 ∧ C i ≤ i ∧ (S i).In G ∧ (S i).turn = i ∧ T i ≤ i
  | 0, _ => by rw [h.fl0, h.c0, h.s0, h.t0]; exact ⟨rfl, Nat.le_refl _, h0, ht, Nat.le_refl _⟩
  | i + 1, hi => by
    obtain ⟨h1, h2, h3, h4, h5⟩ := h.le hG h0 ht hn i (by omega)
    obtain ⟨k, hk⟩ : ∃ k, ks[i]? = some k := ⟨_, List.getElem?_eq_getElem (by omega)⟩
    obtain ⟨p1, one, p2, p3⟩ := h.play i k hk
    have hm := okMove_in h3 p1
    obtain ⟨hxi, hxt⟩ := moves_in h3 hm
    obtain ⟨q1, q2, q3, -⟩ := turn_next hG hxi (by rw [hxt]; omega) p2
    have hFC : (FL (i + 1)).length = 6 ∧ C (i + 1) ≤ i + 1 := by
      cases k with
      | none =>
        obtain ⟨r1, r2⟩ := h.none_ i hk
        rw [r1, r2]
        exact ⟨h1, by omega⟩
      | some k =>
        obtain ⟨_, _, r1, r2⟩ := h.some_ i k hk
        rw [r1, r2, List.length_set]
        exact ⟨h1, by omega⟩
    exact ⟨hFC.1, hFC.2, q1, by rw [q2, hxt, h4], by rw [p3]; dsimp only at q3; omega⟩
attribute [local irreducible] Calls thenQ blockQ retQ retFQ jumpQ Spc Spl Spq Ex Ev Evs Gd Upd ESub HKeep Res Res1 wlk effQ wlkP effP Rem SrcAt Split SplI SpcM YieldAt leaveMQ PK.C mobj PosR.C plC pOf lookQ worstF bestF CellsAt validG bvC
set_option maxRecDepth 100000 in
set_option maxHeartbeats 2000000 in
theorem lost1_c {Be : Nat} {w0 w : World} {g6 g7 : Nat} {R : Heap} (hh : Hp Be w0 ((g7, .cells #[.int .i64 0] 26 (0, 0)) :: R) w) {u : FrameMode} :
    CallsDIn Fence.wide 0 Try.prog 79 #[.pointer (some ⟨g7, 0, none⟩), .pointer (some ⟨g6, 0, none⟩)] u w
      fun en u' w' => u' = u ∧ RetX Be w0 (fun _ : Unit => .tuple #[]) (fun _ => (g7, .cells #[.int .i64 0] 26 (0, 0)) :: R) (fun _ => True) en w' := by
  have hn : (0 : Int) = 0 := rfl
  refine callsDI_plain (vs := [_, _]) Try.func79 rfl Try.ntmps79 rfl hh ?_
  repeat (first|(apply sp_cond_f;(·exact eT rfl);(·rfl))|apply then_n|apply sp_seq|apply sp_region|apply spl_nil|apply sp_skip|((apply spl_pure rfl);(·(first|(apply ex_neqF hn;(·exact eT rfl);(·exact eC))|(apply ex_loadown<;>(first|exact eT rfl|exact Bk.own InH.mem|rfl))))))
  (apply endX_ok rfl;(·exact Res.none_))
  exact ⟨(), rfl, trivial, by (repeat (exact HKeep.refl))⟩
set_option maxRecDepth 100000 in
set_option maxHeartbeats 16000000 in
theorem lost_c {w0 : World} {g : GaR} {ns : List Nat} {ds : List (Sl × List Nat)} {B n c nf cf : Nat} {A Af : Option Addr} {ps : List PosR} {ks : List (Option Nat)} {FL : Nat → List Bool} {C : Nat → Nat} {S : Nat → GS} {T : Nat → Nat} (h : RdGa w0 w0.heap.size g) (hv : validG g = true) (hp : Plain g ns ds B) (hps : RdPlan w0 w0.heap.size A n ps) (hpw : ∀ p ∈ ps, PosW p)
    (hfs : RdS w0 w0.heap.size 1 (fun k : Option Nat => intC (chV k)) Af nf ks) (hnf : nf = g.dl.n) (hL : LostH (gpOf ns ds) (lookQ ps ns.length) ks B (gs0 ns B) FL C S T) :
    Calls Try.prog 40 #[.agg g.C, .slice A n c, .slice Af nf cf] w0 (RetH w0 (fun _ : Unit => .tuple #[.int .i64 ((T ks.length : Nat) : Int), .int .i64 0]) (fun _ => []) (fun _ => True)) := by
  have hkk := gaOk_of hv
  have hG := hp.ok hkk h
  have hs0 := hp.start hkk h
  have hm6 : ns.length ≤ 6 := hG.m
  have hml : ns.length = g.sl.n := by
    have := h.st.len
    rw [hp.ns, List.length_map] at this
    exact this
  have hdl : ds.length = g.dl.n := by
    have := h.rows.len
    rw [hp.ds, List.length_map] at this
    exact this
  have hN : (gpOf ns ds).deps.length = g.dl.n := by show (ds.map Prod.snd).length = _; rw [List.length_map, hdl]
  have hkl := hfs.len
  have hall := hL.le hG hs0 rfl (by rw [hkl, hnf, hN])
  have hn12 := hG.n
  have hz3 : g.C.size = 3 := rfl
  have hval := fun (H : Heap) (w' : World) (hh : Hp w0.heap.size w0 H w') => (by have := gvalid_c (h.hp hh); rwa [hv] at this : Calls Try.prog 45 #[.agg g.C] w' (Ret w' (.bool true)))
  have hpl := fun (H : Heap) (w' : World) (hh : Hp w0.heap.size w0 H w') => player_c (g := g) (c := c) (hps.hp hh) hpw
  have hbg := fun (gc : Nat) (H : Heap) (w' : World) (hh : Hp w0.heap.size w0 H w') => begin_c (gc := gc) (h.hp hh) hv hp
  have hne : ((nf : Nat) : Int) = (g.dl.n : Int) := by omega
  have hfl0 : #[.bool false, .bool false, .bool false, .bool false, .bool false, .bool false] = bvC (FL 0) := by rw [hL.fl0]; unfold bvC; rfl
  refine sp_enterG (vs := [_, _, _]) Try.func40 rfl Try.ntmps40 rfl ?_
  repeat (first|apply spm_skip|apply spm_seq|apply spm_region rfl|apply spm_block|(apply spl_callp rfl;(·(repeat (first|exact eN|(apply eS;(·exact eT rfl)))));(·exact fun w' hh => hval _ w' hh))|(apply spm_cond_f;(·exact eT rfl);(·(rfl)))|apply then_n|apply spl_nil|((first|apply spl_pure rfl|(apply spl_pure_g rfl;(·exact Gd.tf rfl rfl)));(·(first|(apply ex_neqF hne;(·exact eT rfl);(·exact eT rfl))|((first|apply ex_move|apply ex_assign|apply ex_fieldAddr'|apply ex_not|apply ex_len)<;>(first|exact eT rfl|exact eC))|((apply ex_orT)<;>(exact eT rfl))|((apply ex_loadown)<;>(first|exact eT rfl|exact Bk.own InH.mem|rfl))|((apply ex_loadowns)<;>(first|exact eT rfl|exact Bk.own InH.mem|(rfl))))))|(apply spl_box;(·exact eT rfl);(·rfl);intro _ _)|(apply spl_alloc rfl;intro _ _))
  rename_i g3 hg3 g6 hg6 g7 hg7 g8 hg8
  refine spm_loop (X := Nat) (fun i => [(30, true, .int .i64 (i : Int)), (29, true, .int .i64 (nf : Int)), (28, true, .slice Af nf cf), (9, true, .int .i64 ((C i : Nat) : Int)), (8, true, .pointer (some ⟨g8, 0, none⟩)), (1, true, .slice A n c), (2, true, .slice Af nf cf), (3, true, .pointer (some ⟨g3, 0, none⟩)), (6, true, .pointer (some ⟨g6, 0, none⟩)), (7, true, .pointer (some ⟨g7, 0, none⟩))]) (fun _ => w0) (fun i => (g8, .cells (bvC (FL i)) 80 (0, 0)) :: (g7, .cells #[.int .i64 0] 26 (0, 0)) :: (g6, .cells #[.int .i64 0] 3 (0, 0)) :: (g3, .cells g.C 47 (0, 0)) :: []) (fun i => i ≤ nf) (fun i => nf - i) 0 (Nat.zero_le _) (by (try dsimp only); rw [hL.c0]; (repeat (first|exact ESub.nil|apply ESub.cons rfl))) rfl (by (try dsimp only); rw [← hfl0]; (repeat (exact HKeep.refl))) ?_
  intro i hi
  replace hi : i ≤ nf := hi
  try dsimp only
  obtain ⟨hF6, hCi, hSi, hSt, hTi⟩ := hall i (by omega)
  have hz6 := bvC_size hF6
  by_cases hlt : i < nf
  · have hlt' : (i : Int) < (nf : Int) := by omega
    obtain ⟨ad, k, hA, hb, hk, hsz, hc⟩ := hfs.at_ hlt
    cases k with
    | none =>
      obtain ⟨hF, hC⟩ := hL.none_ i hk
      have h1 : ¬ (-1 : Int) < -1 := by decide
      have h2 : ¬ (g.sl.n : Int) ≤ (-1 : Int) := by omega
      have h3 : ¬ (0 : Int) ≤ (-1 : Int) := by decide
      repeat (first|apply spm_skip|apply spm_seq|apply spm_region rfl|apply spm_block|(apply spm_cond_f;(·exact eT rfl);(·rfl))|((apply spm_cond_t);(·exact eT rfl);(·(exact decide_eq_true (by omega))))|apply then_n|apply block_n|apply spl_nil|((first|apply spl_pure rfl|(apply spl_pure_g rfl;(·(first|exact Gd.tt rfl rfl|exact Gd.tf rfl rfl))));(·(first|(exact ex_off rfl)|(apply ex_lssT hlt';(·exact eT rfl);(·exact eT rfl))|(apply ex_indexAddr;(·exact eT rfl);(·exact eT rfl);(·exact hA);(·exact hlt))|(apply ex_loadfield (ad:=ad) (i:=i) (k:=0) (v:=.int .i64 (-1));(·exact eT rfl);(·exact hfs);(·exact hA);(·exact hk);(·rfl))|(apply ex_lssF h1;(·exact eT rfl);(·exact eC))|(apply ex_geqF h3;(·exact eT rfl);(·exact eC))|(apply ex_geqF h2;(·exact eT rfl);(·exact eT rfl))|((first|apply ex_move|apply ex_assign|apply ex_fieldAddr'|apply ex_len|apply ex_andT)<;>(first|exact eT rfl|exact eG rfl))|((apply ex_orT)<;>(exact eT rfl))|(apply ex_addn<;>(first|exact eT rfl|exact eC|(constructor<;>omega)))|((apply ex_loadown)<;>(first|exact eT rfl|exact Bk.own InH.mem|rfl))))))
      exact ⟨rfl, i + 1, hlt, by (show nf - (i + 1) < nf - i; omega), (by (try dsimp only); rw [hC]; (repeat (first|exact ESub.nil|apply ESub.cons rfl))), rfl, (by (try dsimp only); rw [hF]; (repeat (exact HKeep.refl)))⟩
    | some v =>
      obtain ⟨hvm, hgf, hF, hC⟩ := hL.some_ i v hk
      have hv6 : v < 6 := Nat.lt_of_lt_of_le hvm hm6
      have hvs : v < g.sl.n := by rw [← hml]; exact hvm
      have h1 : ¬ (v : Int) < -1 := by omega
      have h2 : ¬ (g.sl.n : Int) ≤ (v : Int) := by omega
      have h3 : (0 : Int) ≤ (v : Int) := by omega
      have hget := bvC_get hF6 hv6
      rw [hgf] at hget
      have hset : (bvC (FL i)).setIfInBounds v (.bool true) = bvC ((FL i).set v true) := bvC_set
      have hlv : v < (bvC (FL i)).size := by omega
      have hadd : ((C i : Nat) : Int) + 1 = ((C i + 1 : Nat) : Int) := by omega
      repeat (first|apply spm_skip|apply spm_seq|apply spm_region rfl|apply spm_block|(apply spl_store1E hset;(·exact eT rfl);(·exact eC);(·rfl);(·(repeat (exact Upd.here)));(·exact hlv))|((apply spm_cond_t);(·exact eT rfl);(·(rfl)))|(apply spm_cond_f;(·exact eT rfl);(·(rfl)))|apply then_n|apply block_n|apply spl_nil|((first|apply spl_pure rfl|(apply spl_pure_g rfl;(·(first|exact Gd.tt rfl rfl|exact Gd.tf rfl rfl))));(·(first|(apply ex_lssT hlt';(·exact eT rfl);(·exact eT rfl))|(apply ex_indexAddr;(·exact eT rfl);(·exact eT rfl);(·exact hA);(·exact hlt))|(apply ex_loadfield (ad:=ad) (i:=i) (k:=0) (v:=.int .i64 (v : Int));(·exact eT rfl);(·exact hfs);(·exact hA);(·exact hk);(·rfl))|(apply ex_lssF h1;(·exact eT rfl);(·exact eC))|(apply ex_geqT h3;(·exact eT rfl);(·exact eC))|(apply ex_geqF h2;(·exact eT rfl);(·exact eT rfl))|(apply ex_indexAddrK (j:=v);(·exact eT rfl);(·exact eT rfl);(·exact hv6);(·omega))|(apply ex_addK hadd;(·exact eT rfl);(·exact eC);(·(constructor<;>omega)))|((first|apply ex_move|apply ex_assign|apply ex_fieldAddr'|apply ex_len|apply ex_andT)<;>(exact eT rfl))|((apply ex_orT)<;>(exact eT rfl))|(apply ex_addn<;>(first|exact eT rfl|exact eC|(constructor<;>omega)))|((apply ex_loadown)<;>(first|exact eT rfl|exact Bk.own InH.mem|rfl|assumption))))))
      exact ⟨rfl, i + 1, hlt, by (show nf - (i + 1) < nf - i; omega), (by (try dsimp only); rw [hC]; (repeat (first|exact ESub.nil|apply ESub.cons rfl))), rfl, (by (try dsimp only); rw [hF]; (repeat (exact HKeep.refl)))⟩
  · have hin : i = nf := by omega
    subst hin
    have hlt' : ¬ (i : Int) < (i : Int) := by omega
    have hCB := hL.cB
    rw [hkl] at hCB
    have hgt : ¬ ((C i : Nat) : Int) > g.bd := by rw [hp.bd]; omega
    have hz4 : ∀ gc, (plC g gc).size = 4 := fun gc => by unfold plC; rfl
    have hz15 := pOf_size (m := ns.length) hs0.ok
    repeat (first|(apply spm_defer rfl;(·(repeat (first|exact eN|(apply eS;(·exact eT rfl))))))|(apply spm_deferF;(·exact eT rfl))|apply spm_skip|apply spm_seq|apply spm_region rfl|apply spm_block|apply spm_exit|(apply spm_cond_f;(·exact eT rfl);(·rfl))|(apply spl_callh rfl;(·(repeat (first|exact eN|(apply eS;(·exact eT rfl)))));(·exact fun w' hh => hpl _ w' hh);(rintro ⟨gc, ces, cc⟩ hM hfc;have hgc : w0.heap.size ≤ gc := hfc _ (.head _);have hzg := hz4 gc;simp only [List.cons_append, List.nil_append]))|(apply spl_callp rfl;(·(repeat (first|exact eN|(apply eS;(·exact eT rfl)))));(·exact fun w' hh => hbg _ _ w' hh))|apply then_n|apply spl_nil|apply then_e|apply block_here|((apply spl_pure rfl);(·(first|(apply ex_lssF hlt';(·exact eT rfl);(·exact eT rfl))|(apply ex_gtrF hgt;(·exact eT rfl);(·exact eT rfl))|((first|apply ex_move|apply ex_fieldAddr'|apply ex_len)<;>(first|exact eT rfl|exact eC))|((apply ex_loadown)<;>(first|exact eT rfl|exact Bk.own InH.mem|rfl))|((apply ex_loadowns)<;>(first|exact eT rfl|exact Bk.own InH.mem|(first|rfl|assumption))))))|(apply spl_alloc rfl;intro _ _)|(apply spl_stores;(·exact eT rfl);(·exact eT rfl);(·(repeat (exact Upd.here)));(·(rfl));(·(assumption));(·exact Ones.one)))
    rename_i g12 hg12 g13 hg13
    have hpS0 : (pOf ns.length (gs0 ns B)).C = (pOf ns.length (S 0)).C := by rw [hL.s0]
    refine spm_loop (X := Nat) (fun j => [(71, true, .int .i64 (j : Int)), (70, true, .int .i64 (i : Int)), (69, true, .slice Af i cf), (12, true, .pointer (some ⟨g12, 0, none⟩)), (13, true, .pointer (some ⟨g13, 0, none⟩)), (6, true, .pointer (some ⟨g6, 0, none⟩)), (7, true, .pointer (some ⟨g7, 0, none⟩))]) (fun _ => w0) (fun j => (gc, mobj pkV ces cc) :: (g13, .cells (pOf ns.length (S j)).C 132 (0, 0)) :: (g12, .cells (plC g gc) 92 (0, 0)) :: (g7, .cells #[.int .i64 0] 26 (0, 0)) :: (g6, .cells #[.int .i64 ((T j : Nat) : Int)] 3 (0, 0)) :: (g3, .cells g.C 47 (0, 0)) :: []) (fun j => j ≤ i) (fun j => i - j) 0 (Nat.zero_le _) (by (repeat (first|exact ESub.nil|apply ESub.cons rfl))) rfl (by (try dsimp only); rw [hL.t0, ← hpS0]; (repeat (first|exact HKeep.refl|apply HKeep.keep|(apply HKeep.pick;(·(repeat (first|exact Rem.here|apply Rem.there))))|apply HKeep.drop (by first|assumption|omega)))) ?_
    intro j hj
    replace hj : j ≤ i := hj
    try dsimp only
    obtain ⟨-, -, hSj, hStj, hTj⟩ := hall j (by omega)
    have hzs := pOf_size (m := ns.length) hSj.ok
    have hzg := hz4 gc
    by_cases hltj : j < i
    · have hltj' : (j : Int) < (i : Int) := by omega
      obtain ⟨ad, k, hA, hb, hk, hsz, hc⟩ := hfs.at_ hltj
      obtain ⟨hok, one, htf, hT⟩ := hL.play j k hk
      obtain ⟨-, -, hS2, -, hT2⟩ := hall (j + 1) (by omega)
      have hzs2 := pOf_size (m := ns.length) hS2.ok
      have hsum : ((T j : Nat) : Int) + (one : Int) = ((T (j + 1) : Nat) : Int) := by omega
      have htc := fun (H : Heap) (w' : World) (hh : Hp w0.heap.size w0 H w') (hm : (gc, mobj pkV ces cc) ∈ H) => turn_c2 (k := k) (h.hp hh) hv hp (hh.own _ hm) hM hSj (by rw [hStj, hN]; omega) hok
      repeat (first|apply spm_skip|apply spm_seq|apply spm_region rfl|apply spm_block|(refine spl_callhF (I := fun y => turnF (gpOf ns ds) (lookQ ps ns.length) (movS (S j) k) = some y) (HH := fun _ => []) (F := fun ch => ErrP ch ∧ turnF (gpOf ns ds) (lookQ ps ns.length) (movS (S j) k) = none) rfl ?_ (fun w' hh => htc _ w' hh InH.mem) ?_ ?_;(·(repeat (first|exact eN|(apply eS;(·exact eT rfl)))));(·(intro ch hch;have hno := hch.2;rw [htf] at hno;cases hno));(rintro ⟨x', one'⟩ hto -;rw [htf] at hto;cases hto;simp only [List.nil_append]))|((apply spm_cond_t);(·exact eT rfl);(·(rfl)))|apply then_n|apply block_n|apply spl_nil|((apply spl_pure rfl);(·(first|(apply ex_lssT hltj';(·exact eT rfl);(·exact eT rfl))|(apply ex_indexAddr;(·exact eT rfl);(·exact eT rfl);(·exact hA);(·exact hltj))|(apply ex_loadfield (ad:=ad) (i:=j) (k:=0) (v:=.int .i64 (chV k));(·exact eT rfl);(·exact hfs);(·exact hA);(·exact hk);(·rfl))|(apply ex_addK hsum;(·exact eT rfl);(·exact eT rfl);(·(constructor<;>omega)))|((first|apply ex_move|apply ex_assign)<;>(first|exact eT rfl|exact eC))|(apply ex_addn<;>(first|exact eT rfl|exact eC|(constructor<;>omega)))|((first|apply ex_loadown|apply ex_extract)<;>(first|exact eT rfl|exact Bk.own InH.mem|rfl))|((apply ex_loadowns)<;>(first|exact eT rfl|exact Bk.own InH.mem|(assumption))))))|(apply spl_store1;(·exact eT rfl);(·exact eT rfl);(·rfl);(·(repeat (first|exact Upd.here|apply Upd.there)));(·rfl))|(apply spl_stores;(·exact eT rfl);(·exact eT rfl);(·(repeat (first|exact Upd.here|apply Upd.there)));(·(assumption));(·(assumption));(·exact Ones.one)))
      exact ⟨rfl, j + 1, hltj, by (show i - (j + 1) < i - j; omega), (by (repeat (first|exact ESub.nil|apply ESub.cons rfl))), rfl, (by (repeat (exact HKeep.refl)))⟩
    · have hji : j = i := by omega
      have hltj' : ¬ (j : Int) < (i : Int) := by omega
      repeat (first|apply spm_seq|apply spm_region rfl|apply spm_ret|apply spm_exit|(apply spm_cond_f;(·exact eT rfl);(·rfl))|apply then_n|apply spl_nil|apply then_e|apply block_here|((apply spl_pure rfl);(·(first|(apply ex_lssF hltj';(·exact eT rfl);(·exact eT rfl))|((apply ex_loadown)<;>(first|exact eT rfl|exact Bk.own InH.mem|rfl)))))|(apply spl_store1;(·exact eT rfl);(·(first|exact eT rfl|exact eC));(·rfl);(·(repeat (first|exact Upd.here|apply Upd.there)));(·rfl)))
      refine leaveM_r fun a w' hf hh => ?_
      refine lv_fn (H := (gc, mobj pkV ces cc) :: (g13, .cells (pOf ns.length (S j)).C 132 (0, 0)) :: (g12, .cells (plC g gc) 92 (0, 0)) :: (g7, .cells #[.int .i64 0] 26 (0, 0)) :: (g6, .cells #[.int .i64 ((T j : Nat) : Int)] 3 (0, 0)) :: (g3, .cells g.C 47 (0, 0)) :: []) (f := 47) (args := [.pointer (some ⟨g7, 0, none⟩)]) (cs := []) (H2 := (g7, .cells #[.int .i64 0] 26 (0, 0)) :: (g6, .cells #[.int .i64 ((T j : Nat) : Int)] 3 (0, 0)) :: (g3, .cells g.C 47 (0, 0)) :: []) (v := .tuple #[]) (fun q => (by cases q)) rfl (fun w' hh => stuck_idle (hh.sub (by (repeat (first|exact HKeep.refl|(apply HKeep.pick;(·(repeat (first|exact Rem.here|apply Rem.there))))|apply HKeep.drop (by first|assumption|omega)))))) (lv_fn (f := 79) (args := []) (cs := [.pointer (some ⟨g7, 0, none⟩), .pointer (some ⟨g6, 0, none⟩)]) (H2 := (g7, .cells #[.int .i64 0] 26 (0, 0)) :: (g6, .cells #[.int .i64 ((T j : Nat) : Int)] 3 (0, 0)) :: (g3, .cells g.C 47 (0, 0)) :: []) (v := .tuple #[]) (fun q => (by cases q)) rfl (fun w' hh => lost1_c hh) (lv_nil (v := .tuple #[.int .i64 ((T j : Nat) : Int), .int .i64 0]) rfl hf ?_ ?_)) w' hh
      · ((apply Res.ofTwo<;>((apply Res1.cell1;(·rfl);(·exact InH.mem);(·rfl)))))
      · exact fun w' hh => ⟨(), by rw [hkl, hji], trivial, hh.sub (by (repeat (first|exact HKeep.refl|apply HKeep.drop (by first|assumption|omega))))⟩
end Go.Proofs.Ytoogicafefennaa
/-
  Contracts: what a plan is sorted by.
-/
namespace Go.Proofs.Ytoogicafefennaa
set_option linter.unusedVariables false
open Go.RowKit Go.Sy
set_option linter.unusedVariables false
set_option linter.unusedSimpArgs false
section
variable {P : Program} {N Be : Nat} {Q : Post} {e : Env} {w0 : World} {H : Heap} {ops : Array Oper} {rest : List Oper} {ty : TypeId} {pos : String} {after : Array Edge} {d : Nat}
theorem spl_callbv {c : Operand} {f : FuncId} {first cap : List Value} {xs : List Operand} {ts : Array TypeId} {vs : List Value} {X : Type} {V : X → Value} {I : X → Prop} [TFn P f] (hN : Nat.blt d N = true) (hcv : Ev true e c (.func (.func f) first.toArray cap.toArray)) (hx : Evs true e xs vs)
    (hc : ∀ w, Hp Be w0 H w → Calls P f (first ++ vs ++ cap).toArray w (RetP w V I))
    (k : ∀ x, I x → Spl P N Be ops Q rest ((d, true, V x) :: e) w0 H) : Spl P N Be ops Q (⟨some d, .call ⟨.value c, xs.toArray, ts⟩, ty, pos, after, none⟩ :: rest) e w0 H := by
  intro a w hf hh
  have hd : d < N := by simpa [Nat.blt_eq] using hN
  refine wpList_plain rfl fun K hK => ?_
  unfold Oper.wp
  rw [exec_call (f := f) rfl (hcv N a hf rfl) (hx N a hf rfl), Oper.upon_enter]
  simp only [List.append_toArray]
  refine (hc w hh).mono ?_
  rintro en w' ⟨x, rfl, hI, hb⟩
  exact hK _ _ (k x hI _ _ (hf.puttrue hd) (hh.below hb))
end
theorem four_at {a b c d : Int} : ∀ (i : Nat) (x : Int), [a, b, c, d][i]? = some x → ∀ (j : Nat) (v : Value), (intC x)[j]? = some v → (List.flatMap (fun v : Value => v.cells.toList) [.int .i64 a, .int .i64 b, .int .i64 c, .int .i64 d]).toArray[i * 1 + j]? = some v := by
  intro i x hx j v hj
  have hj0 : j = 0 := by
    have := (Array.getElem?_eq_some_iff.1 hj).1
    have h2 : (intC x).size = 1 := rfl
    omega
  subst hj0
  match i, hx with
  | 0, hx => cases hx; exact hj
  | 1, hx => cases hx; exact hj
  | 2, hx => cases hx; exact hj
  | 3, hx => cases hx; exact hj
def cmpI (x y : Int) : Int := if x < y then -1 else if x > y then 1 else 0
def bitI (b : Bool) : Int := match b with | true => 1 | false => 0
attribute [local irreducible] Calls thenQ blockQ retQ retFQ jumpQ Spc Spl Spq Ex Ev Evs Gd Upd ESub HKeep Res Res1 wlk effQ Rem SrcAt Split PosR.C
set_option maxRecDepth 100000 in
theorem isNaN_c {w : World} {x : Int} : Calls Try.prog 97 #[.int .i64 x] w (Ret w (.bool false)) := by
  refine sp_enter (vs := [_]) Try.func97 rfl Try.ntmps97 rfl ?_
  repeat (first|apply then_n|apply sp_seq|apply sp_region|apply spl_nil|apply sp_ret|((apply spl_pure rfl);(·(first|(apply ex_neqF rfl;(·exact eT rfl);(·exact eT rfl))|((first|apply ex_move|apply ex_assign)<;>(first|exact eT rfl|exact eC))))))
  (apply ret_ok rfl;(·((apply Res.ofOne;((apply Res1.tmp;(·rfl))))))); rfl
set_option maxRecDepth 100000 in
set_option maxHeartbeats 2000000 in
theorem cmp_c {w : World} {x y : Int} : Calls Try.prog 75 #[.int .i64 x, .int .i64 y] w (Ret w (.int .i64 (cmpI x y))) := by
  refine sp_enter (vs := [_, _]) Try.func75 rfl Try.ntmps75 rfl ?_
  unfold cmpI
  by_cases h1 : x < y
  · rw [if_pos h1]
    repeat (first|(apply sp_cond_t;(·exact eT rfl);(·rfl))|(apply spl_callp rfl;(·(repeat (first|exact eN|(apply eS;(·exact eT rfl)))));(·exact fun w' hh => isNaN_c))|apply then_n|apply sp_seq|apply sp_region|apply spl_nil|apply then_r|(apply sp_cond_f;(·exact eT rfl);(·(rfl)))|apply sp_skip|apply sp_ret|((apply spl_pure rfl);(·(first|(apply ex_lssT h1;(·exact eT rfl);(·exact eT rfl))|((first|apply ex_move|apply ex_assign)<;>(first|exact eT rfl|exact eC))))))
    (apply ret_ok rfl;(·((apply Res.ofOne;((apply Res1.tmp;(·rfl))))))); rfl
  · rw [if_neg h1]
    by_cases h2 : x > y
    · rw [if_pos h2]
      repeat (first|(apply sp_cond_t;(·exact eT rfl);(·rfl))|(apply spl_callp rfl;(·(repeat (first|exact eN|(apply eS;(·exact eT rfl)))));(·exact fun w' hh => isNaN_c))|apply then_n|apply sp_seq|apply sp_region|apply spl_nil|apply then_r|(apply sp_cond_f;(·exact eT rfl);(·(rfl)))|apply sp_skip|apply sp_ret|((apply spl_pure rfl);(·(first|(apply ex_lssF h1;(·exact eT rfl);(·exact eT rfl))|(apply ex_gtrT h2;(·exact eT rfl);(·exact eT rfl))|((first|apply ex_move|apply ex_assign)<;>(first|exact eT rfl|exact eC))))))
      (apply ret_ok rfl;(·((apply Res.ofOne;((apply Res1.tmp;(·rfl))))))); rfl
    · rw [if_neg h2]
      repeat (first|(apply sp_cond_f;(·exact eT rfl);(·rfl))|(apply spl_callp rfl;(·(repeat (first|exact eN|(apply eS;(·exact eT rfl)))));(·exact fun w' hh => isNaN_c))|apply then_n|apply sp_seq|apply sp_region|apply spl_nil|apply sp_skip|apply sp_ret|((apply spl_pure rfl);(·(first|(apply ex_lssF h1;(·exact eT rfl);(·exact eT rfl))|(apply ex_gtrF h2;(·exact eT rfl);(·exact eT rfl))|((first|apply ex_move|apply ex_assign)<;>(first|exact eT rfl|exact eC))))))
      (apply ret_ok rfl;(·((apply Res.ofOne;((apply Res1.tmp;(·rfl))))))); rfl
set_option maxRecDepth 100000 in
theorem bit_c {w : World} {b : Bool} : Calls Try.prog 76 #[.bool b] w (Ret w (.int .i64 (bitI b))) := by
  refine sp_enter (vs := [_]) Try.func76 rfl Try.ntmps76 rfl ?_
  cases b with
  | true =>
    repeat (first|apply then_n|apply sp_seq|apply sp_region|apply spl_nil|apply then_r|((apply sp_cond_t);(·exact eT rfl);(·(rfl)))|apply sp_ret|((apply spl_pure rfl);(·(((first|apply ex_move|apply ex_assign)<;>(first|exact eT rfl|exact eC))))))
    (apply ret_ok rfl;(·((apply Res.ofOne;((apply Res1.tmp;(·rfl))))))); rfl
  | false =>
    repeat (first|apply then_n|apply sp_seq|apply sp_region|apply spl_nil|(apply sp_cond_f;(·exact eT rfl);(·(rfl)))|apply sp_skip|apply sp_ret|((apply spl_pure rfl);(·(((first|apply ex_move|apply ex_assign)<;>(first|exact eT rfl|exact eC))))))
    (apply ret_ok rfl;(·((apply Res.ofOne;((apply Res1.tmp;(·rfl))))))); rfl
set_option maxRecDepth 100000 in
theorem cmpb_c {w : World} {a b : Bool} : Calls Try.prog 74 #[.bool a, .bool b] w (Ret w (.int .i64 (cmpI (bitI a) (bitI b)))) := by
  refine sp_enter (vs := [_, _]) Try.func74 rfl Try.ntmps74 rfl ?_
  repeat (first|(apply spl_callp rfl;(·(repeat (first|exact eN|(apply eS;(·exact eT rfl)))));(·exact fun w' hh => bit_c))|(apply spl_callp rfl;(·(repeat (first|exact eN|(apply eS;(·exact eT rfl)))));(·exact fun w' hh => cmp_c))|apply then_n|apply sp_seq|apply sp_region|apply spl_nil|apply sp_ret|((apply spl_pure rfl);(·(((first|apply ex_move|apply ex_assign)<;>(first|exact eT rfl|exact eC))))))
  (apply ret_ok rfl;(·((apply Res.ofOne;((apply Res1.tmp;(·rfl))))))); rfl
set_option maxRecDepth 100000 in
set_option maxHeartbeats 2000000 in
theorem or_c {w : World} {A : Option Addr} {n c : Nat} {xs : List Int} (h : RdS w w.heap.size 1 intC A n xs) : Calls Try.prog 77 #[.slice A n c] w (RetP w (fun n : Int => .int .i64 n) (fun _ => True)) := by
  have hb := h.bound
  refine sp_enter (vs := [_]) Try.func77 rfl Try.ntmps77 rfl ?_
  repeat (first|apply then_n|apply sp_seq|apply sp_region|apply spl_nil|apply sp_block|((apply spl_pure rfl);(·(((first|apply ex_move|apply ex_assign|apply ex_len)<;>(first|exact eT rfl|exact eC))))))
  refine sp_loop (X := Nat) (fun i => [(8, true, .int .i64 (i : Int)), (7, true, .int .i64 (n : Int)), (6, true, .slice A n c), (3, true, .int .i64 0)]) (fun _ => w) (fun _ => []) (fun i => i ≤ n) (fun i => n - i) 0 (Nat.zero_le _) (by (repeat (first|exact ESub.nil|apply ESub.cons rfl))) rfl (by (repeat (exact HKeep.refl))) ?_
  intro i hi
  by_cases hlt : i < n
  · have hlt' : (i : Int) < (n : Int) := by omega
    obtain ⟨ad, x, hA, hb, hx, hsz, hc⟩ := h.at_ hlt
    by_cases hx0 : x = 0
    · skip
      repeat (first|apply then_n|apply block_n|apply sp_seq|apply sp_region|apply spl_nil|((apply sp_cond_t);(·exact eT rfl);(·(rfl)))|(apply sp_cond_f;(·exact eT rfl);(·(rfl)))|apply sp_skip|apply sp_block|((apply spl_pure rfl);(·(first|(apply ex_lssT hlt';(·exact eT rfl);(·exact eT rfl))|(apply ex_indexAddr;(·exact eT rfl);(·exact eT rfl);(·exact hA);(·exact hlt))|(apply ex_loadfield (ad:=ad) (i:=i) (k:=0);(·exact eT rfl);(·exact h);(·exact hA);(·exact hx);(·rfl))|(apply ex_neqF hx0;(·exact eT rfl);(·exact eT rfl))|((first|apply ex_move|apply ex_assign)<;>(exact eT rfl))|(apply ex_addn<;>(first|exact eT rfl|exact eC|(constructor<;>omega)))))))
      exact ⟨i + 1, hlt, by (show n - (i + 1) < n - i; omega), (by (repeat (first|exact ESub.nil|apply ESub.cons rfl))), rfl, (by (repeat (exact HKeep.refl)))⟩
    · skip
      repeat (first|apply then_n|apply sp_seq|apply sp_region|apply spl_nil|apply then_r|apply block_r|((apply sp_cond_t);(·exact eT rfl);(·(rfl)))|apply sp_skip|apply sp_ret|apply sp_block|((apply spl_pure rfl);(·(first|(apply ex_lssT hlt';(·exact eT rfl);(·exact eT rfl))|(apply ex_indexAddr;(·exact eT rfl);(·exact eT rfl);(·exact hA);(·exact hlt))|(apply ex_loadfield (ad:=ad) (i:=i) (k:=0);(·exact eT rfl);(·exact h);(·exact hA);(·exact hx);(·rfl))|(apply ex_neqT hx0;(·exact eT rfl);(·exact eT rfl))|((first|apply ex_move|apply ex_assign)<;>(exact eT rfl))))))
      (apply retP_ok rfl;(·((apply Res.ofOne;((apply Res1.tmp;(·rfl)))))))
      exact ⟨x, rfl, trivial⟩
  · have hlt' : ¬ (i : Int) < (n : Int) := by omega
    repeat (first|apply then_n|apply sp_seq|apply sp_region|apply spl_nil|apply then_e|apply block_here|(apply sp_cond_f;(·exact eT rfl);(·(rfl)))|apply sp_ret|apply sp_exit|((apply spl_pure rfl);(·(first|(apply ex_lssF hlt';(·exact eT rfl);(·exact eT rfl))|((first|apply ex_move|apply ex_assign)<;>(exact eT rfl))))))
    (apply retP_ok rfl;(·((apply Res.ofOne;((apply Res1.tmp;(·rfl)))))))
    exact ⟨0, rfl, trivial⟩
set_option maxRecDepth 100000 in
set_option maxHeartbeats 4000000 in
theorem compare_c {w : World} {A B : Option Addr} {n c n2 c2 : Nat} {xs ys : List Int} (h1 : RdS w w.heap.size 1 intC A n xs) (h2 : RdS w w.heap.size 1 intC B n2 ys) : Calls Try.prog 78 #[.slice A n c, .slice B n2 c2] w (RetP w (fun n : Int => .int .i64 n) (fun _ => True)) := by
  have hb1 := h1.bound
  have hb2 := h2.bound
  refine sp_enter (vs := [_, _]) Try.func78 rfl Try.ntmps78 rfl ?_
  repeat (first|apply then_n|apply sp_seq|apply sp_region|apply spl_nil|apply sp_block|((apply spl_pure rfl);(·(((first|apply ex_move|apply ex_assign|apply ex_len)<;>(first|exact eT rfl|exact eC))))))
  refine sp_loop (X := Nat) (fun i => [(11, true, .int .i64 (i : Int)), (10, true, .int .i64 (n : Int)), (9, true, .slice A n c), (0, true, .slice A n c), (1, true, .slice B n2 c2)]) (fun _ => w) (fun _ => []) (fun i => i ≤ n) (fun i => n - i) 0 (Nat.zero_le _) (by (repeat (first|exact ESub.nil|apply ESub.cons rfl))) rfl (by (repeat (exact HKeep.refl))) ?_
  intro i hi
  by_cases hlt : i < n
  · have hlt' : (i : Int) < (n : Int) := by omega
    obtain ⟨ad, x, hA, hb, hx, hsz, hc⟩ := h1.at_ hlt
    by_cases hge : (n2 : Int) ≤ (i : Int)
    · skip
      repeat (first|apply then_n|apply sp_seq|apply sp_region|apply spl_nil|apply then_r|apply block_r|((apply sp_cond_t);(·exact eT rfl);(·(rfl)))|apply sp_skip|apply sp_ret|apply sp_block|((apply spl_pure rfl);(·(first|(apply ex_lssT hlt';(·exact eT rfl);(·exact eT rfl))|(apply ex_indexAddr;(·exact eT rfl);(·exact eT rfl);(·exact hA);(·exact hlt))|(apply ex_loadfield (ad:=ad) (i:=i) (k:=0);(·exact eT rfl);(·exact h1);(·exact hA);(·exact hx);(·rfl))|(apply ex_geqT hge;(·exact eT rfl);(·exact eT rfl))|((first|apply ex_move|apply ex_assign|apply ex_len)<;>(first|exact eT rfl|exact eC))))))
      (apply retP_ok rfl;(·((apply Res.ofOne;((apply Res1.tmp;(·rfl)))))))
      exact ⟨1, rfl, trivial⟩
    · have hlt2 : i < n2 := by omega
      obtain ⟨ad2, y, hA2, hb2, hy, hsz2, hc2⟩ := h2.at_ hlt2
      have hcall := fun (w' : World) => cmp_c (w := w') (x := x) (y := y)
      obtain ⟨r, hr⟩ : ∃ r : Int, r = cmpI x y := ⟨_, rfl⟩
      rw [← hr] at hcall
      by_cases hr0 : r = 0
      · skip
        repeat (first|(apply spl_callp rfl;(·(repeat (first|exact eN|(apply eS;(·exact eT rfl)))));(·exact fun w' hh => hcall w'))|apply then_n|apply block_n|apply sp_seq|apply sp_region|apply spl_nil|((apply sp_cond_t);(·exact eT rfl);(·(rfl)))|(apply sp_cond_f;(·exact eT rfl);(·(rfl)))|apply sp_skip|apply sp_block|((apply spl_pure rfl);(·(first|(apply ex_lssT hlt';(·exact eT rfl);(·exact eT rfl))|(apply ex_indexAddr;(·exact eT rfl);(·exact eT rfl);(·exact hA);(·exact hlt))|(apply ex_loadfield (ad:=ad) (i:=i) (k:=0);(·exact eT rfl);(·exact h1);(·exact hA);(·exact hx);(·rfl))|(apply ex_geqF hge;(·exact eT rfl);(·exact eT rfl))|(apply ex_indexAddr;(·exact eT rfl);(·exact eT rfl);(·exact hA2);(·exact hlt2))|(apply ex_loadfield (ad:=ad2) (i:=i) (k:=0);(·exact eT rfl);(·exact h2);(·exact hA2);(·exact hy);(·rfl))|(apply ex_neqF hr0;(·exact eT rfl);(·exact eC))|((first|apply ex_move|apply ex_assign|apply ex_len)<;>(exact eT rfl))|(apply ex_addn<;>(first|exact eT rfl|exact eC|(constructor<;>omega)))))))
        exact ⟨i + 1, hlt, by (show n - (i + 1) < n - i; omega), (by (repeat (first|exact ESub.nil|apply ESub.cons rfl))), rfl, (by (repeat (exact HKeep.refl)))⟩
      · skip
        repeat (first|(apply spl_callp rfl;(·(repeat (first|exact eN|(apply eS;(·exact eT rfl)))));(·exact fun w' hh => hcall w'))|apply then_n|apply sp_seq|apply sp_region|apply spl_nil|apply then_r|apply block_r|((apply sp_cond_t);(·exact eT rfl);(·(rfl)))|(apply sp_cond_f;(·exact eT rfl);(·(rfl)))|apply sp_skip|apply sp_ret|apply sp_block|((apply spl_pure rfl);(·(first|(apply ex_lssT hlt';(·exact eT rfl);(·exact eT rfl))|(apply ex_indexAddr;(·exact eT rfl);(·exact eT rfl);(·exact hA);(·exact hlt))|(apply ex_loadfield (ad:=ad) (i:=i) (k:=0);(·exact eT rfl);(·exact h1);(·exact hA);(·exact hx);(·rfl))|(apply ex_geqF hge;(·exact eT rfl);(·exact eT rfl))|(apply ex_indexAddr;(·exact eT rfl);(·exact eT rfl);(·exact hA2);(·exact hlt2))|(apply ex_loadfield (ad:=ad2) (i:=i) (k:=0);(·exact eT rfl);(·exact h2);(·exact hA2);(·exact hy);(·rfl))|(apply ex_neqT hr0;(·exact eT rfl);(·exact eC))|((first|apply ex_move|apply ex_assign|apply ex_len)<;>(exact eT rfl))))))
        (apply retP_ok rfl;(·((apply Res.ofOne;((apply Res1.tmp;(·rfl)))))))
        exact ⟨r, rfl, trivial⟩
  · have hlt' : ¬ (i : Int) < (n : Int) := by omega
    by_cases hq : (n : Int) < (n2 : Int)
    · skip
      repeat (first|apply then_n|apply sp_seq|apply sp_region|apply spl_nil|apply then_r|apply then_e|apply block_here|((apply sp_cond_t);(·exact eT rfl);(·(rfl)))|(apply sp_cond_f;(·exact eT rfl);(·(rfl)))|apply sp_ret|apply sp_exit|((apply spl_pure rfl);(·(first|(apply ex_lssF hlt';(·exact eT rfl);(·exact eT rfl))|(apply ex_lssT hq;(·exact eT rfl);(·exact eT rfl))|((first|apply ex_move|apply ex_assign|apply ex_len)<;>(first|exact eT rfl|exact eC))))))
      (apply retP_ok rfl;(·((apply Res.ofOne;((apply Res1.tmp;(·rfl)))))))
      exact ⟨-1, rfl, trivial⟩
    · skip
      repeat (first|apply then_n|apply sp_seq|apply sp_region|apply spl_nil|apply then_e|apply block_here|(apply sp_cond_f;(·exact eT rfl);(·(rfl)))|apply sp_skip|apply sp_ret|apply sp_exit|((apply spl_pure rfl);(·(first|(apply ex_lssF hlt';(·exact eT rfl);(·exact eT rfl))|(apply ex_lssF hq;(·exact eT rfl);(·exact eT rfl))|((first|apply ex_move|apply ex_assign|apply ex_len)<;>(first|exact eT rfl|exact eC))))))
      (apply retP_ok rfl;(·((apply Res.ofOne;((apply Res1.tmp;(·rfl)))))))
      exact ⟨0, rfl, trivial⟩
set_option maxRecDepth 100000 in
set_option maxHeartbeats 4000000 in
theorem compareB_c {w : World} {A B : Option Addr} {n c n2 c2 : Nat} {xs ys : List Bool} (h1 : RdS w w.heap.size 1 boolC A n xs) (h2 : RdS w w.heap.size 1 boolC B n2 ys) : Calls Try.prog 73 #[.slice A n c, .slice B n2 c2, .func (.func 74) #[] #[]] w (RetP w (fun n : Int => .int .i64 n) (fun _ => True)) := by
  have hb1 := h1.bound
  have hb2 := h2.bound
  refine sp_enter (vs := [_, _, _]) Try.func73 rfl Try.ntmps73 rfl ?_
  repeat (first|apply then_n|apply sp_seq|apply sp_region|apply spl_nil|apply sp_block|((apply spl_pure rfl);(·(((first|apply ex_move|apply ex_assign|apply ex_len)<;>(first|exact eT rfl|exact eC))))))
  refine sp_loop (X := Nat) (fun i => [(13, true, .int .i64 (i : Int)), (12, true, .int .i64 (n : Int)), (11, true, .slice A n c), (0, true, .slice A n c), (1, true, .slice B n2 c2), (2, true, .func (.func 74) #[] #[])]) (fun _ => w) (fun _ => []) (fun i => i ≤ n) (fun i => n - i) 0 (Nat.zero_le _) (by (repeat (first|exact ESub.nil|apply ESub.cons rfl))) rfl (by (repeat (exact HKeep.refl))) ?_
  intro i hi
  by_cases hlt : i < n
  · have hlt' : (i : Int) < (n : Int) := by omega
    obtain ⟨ad, x, hA, hb, hx, hsz, hc⟩ := h1.at_ hlt
    by_cases hge : (n2 : Int) ≤ (i : Int)
    · skip
      repeat (first|apply then_n|apply sp_seq|apply sp_region|apply spl_nil|apply then_r|apply block_r|((apply sp_cond_t);(·exact eT rfl);(·(rfl)))|apply sp_skip|apply sp_ret|apply sp_block|((apply spl_pure rfl);(·(first|(apply ex_lssT hlt';(·exact eT rfl);(·exact eT rfl))|(apply ex_indexAddr;(·exact eT rfl);(·exact eT rfl);(·exact hA);(·exact hlt))|(apply ex_loadfield (ad:=ad) (i:=i) (k:=0);(·exact eT rfl);(·exact h1);(·exact hA);(·exact hx);(·rfl))|(apply ex_geqT hge;(·exact eT rfl);(·exact eT rfl))|((first|apply ex_move|apply ex_assign|apply ex_len)<;>(first|exact eT rfl|exact eC))))))
      (apply retP_ok rfl;(·((apply Res.ofOne;((apply Res1.tmp;(·rfl)))))))
      exact ⟨1, rfl, trivial⟩
    · have hlt2 : i < n2 := by omega
      obtain ⟨ad2, y, hA2, hb2, hy, hsz2, hc2⟩ := h2.at_ hlt2
      have hcall := fun (w' : World) => cmpb_c (w := w') (a := x) (b := y)
      obtain ⟨r, hr⟩ : ∃ r : Int, r = cmpI (bitI x) (bitI y) := ⟨_, rfl⟩
      rw [← hr] at hcall
      by_cases hr0 : r = 0
      · skip
        repeat (first|(apply spl_callv (f:=74) (first:=[]) (cap:=[]) rfl;(·exact eT rfl);(·(repeat (first|exact eN|(apply eS;(·exact eT rfl)))));(·exact fun w' hh => hcall w'))|apply then_n|apply block_n|apply sp_seq|apply sp_region|apply spl_nil|((apply sp_cond_t);(·exact eT rfl);(·(rfl)))|(apply sp_cond_f;(·exact eT rfl);(·(rfl)))|apply sp_skip|apply sp_block|((apply spl_pure rfl);(·(first|(apply ex_lssT hlt';(·exact eT rfl);(·exact eT rfl))|(apply ex_indexAddr;(·exact eT rfl);(·exact eT rfl);(·exact hA);(·exact hlt))|(apply ex_loadfield (ad:=ad) (i:=i) (k:=0);(·exact eT rfl);(·exact h1);(·exact hA);(·exact hx);(·rfl))|(apply ex_geqF hge;(·exact eT rfl);(·exact eT rfl))|(apply ex_indexAddr;(·exact eT rfl);(·exact eT rfl);(·exact hA2);(·exact hlt2))|(apply ex_loadfield (ad:=ad2) (i:=i) (k:=0);(·exact eT rfl);(·exact h2);(·exact hA2);(·exact hy);(·rfl))|(apply ex_neqF hr0;(·exact eT rfl);(·exact eC))|((first|apply ex_move|apply ex_assign|apply ex_len)<;>(exact eT rfl))|(apply ex_addn<;>(first|exact eT rfl|exact eC|(constructor<;>omega)))))))
        exact ⟨i + 1, hlt, by (show n - (i + 1) < n - i; omega), (by (repeat (first|exact ESub.nil|apply ESub.cons rfl))), rfl, (by (repeat (exact HKeep.refl)))⟩
      · skip
        repeat (first|(apply spl_callv (f:=74) (first:=[]) (cap:=[]) rfl;(·exact eT rfl);(·(repeat (first|exact eN|(apply eS;(·exact eT rfl)))));(·exact fun w' hh => hcall w'))|apply then_n|apply sp_seq|apply sp_region|apply spl_nil|apply then_r|apply block_r|((apply sp_cond_t);(·exact eT rfl);(·(rfl)))|(apply sp_cond_f;(·exact eT rfl);(·(rfl)))|apply sp_skip|apply sp_ret|apply sp_block|((apply spl_pure rfl);(·(first|(apply ex_lssT hlt';(·exact eT rfl);(·exact eT rfl))|(apply ex_indexAddr;(·exact eT rfl);(·exact eT rfl);(·exact hA);(·exact hlt))|(apply ex_loadfield (ad:=ad) (i:=i) (k:=0);(·exact eT rfl);(·exact h1);(·exact hA);(·exact hx);(·rfl))|(apply ex_geqF hge;(·exact eT rfl);(·exact eT rfl))|(apply ex_indexAddr;(·exact eT rfl);(·exact eT rfl);(·exact hA2);(·exact hlt2))|(apply ex_loadfield (ad:=ad2) (i:=i) (k:=0);(·exact eT rfl);(·exact h2);(·exact hA2);(·exact hy);(·rfl))|(apply ex_neqT hr0;(·exact eT rfl);(·exact eC))|((first|apply ex_move|apply ex_assign|apply ex_len)<;>(exact eT rfl))))))
        (apply retP_ok rfl;(·((apply Res.ofOne;((apply Res1.tmp;(·rfl)))))))
        exact ⟨r, rfl, trivial⟩
  · have hlt' : ¬ (i : Int) < (n : Int) := by omega
    by_cases hq : (n : Int) < (n2 : Int)
    · skip
      repeat (first|apply then_n|apply sp_seq|apply sp_region|apply spl_nil|apply then_r|apply then_e|apply block_here|((apply sp_cond_t);(·exact eT rfl);(·(rfl)))|(apply sp_cond_f;(·exact eT rfl);(·(rfl)))|apply sp_ret|apply sp_exit|((apply spl_pure rfl);(·(first|(apply ex_lssF hlt';(·exact eT rfl);(·exact eT rfl))|(apply ex_lssT hq;(·exact eT rfl);(·exact eT rfl))|((first|apply ex_move|apply ex_assign|apply ex_len)<;>(first|exact eT rfl|exact eC))))))
      (apply retP_ok rfl;(·((apply Res.ofOne;((apply Res1.tmp;(·rfl)))))))
      exact ⟨-1, rfl, trivial⟩
    · skip
      repeat (first|apply then_n|apply sp_seq|apply sp_region|apply spl_nil|apply then_e|apply block_here|(apply sp_cond_f;(·exact eT rfl);(·(rfl)))|apply sp_skip|apply sp_ret|apply sp_exit|((apply spl_pure rfl);(·(first|(apply ex_lssF hlt';(·exact eT rfl);(·exact eT rfl))|(apply ex_lssF hq;(·exact eT rfl);(·exact eT rfl))|((first|apply ex_move|apply ex_assign|apply ex_len)<;>(first|exact eT rfl|exact eC))))))
      (apply retP_ok rfl;(·((apply Res.ofOne;((apply Res1.tmp;(·rfl)))))))
      exact ⟨0, rfl, trivial⟩
set_option maxRecDepth 100000 in
set_option maxHeartbeats 4000000 in
theorem less_c {w : World} {p q : PosR} (hp : RdPos w w.heap.size p) (hq : RdPos w w.heap.size q) : Calls Try.prog 72 #[.agg p.C, .agg q.C] w (RetP w (fun n : Int => .int .i64 n) (fun _ => True)) := by
  have hcp : ∀ p : PosR, p.C[0]? = some (.int .i64 p.turn) ∧ p.C[1]? = some (.slice p.sl.a p.sl.n p.sl.c) ∧ p.C[2]? = some (.slice p.fl.a p.fl.n p.fl.c) ∧ p.C[3]? = some (.int .i64 p.budget) ∧ p.C.size = 6 := fun p => by unfold PosR.C; exact ⟨rfl, rfl, rfl, rfl, rfl⟩
  obtain ⟨p0, p1, p2, p3, hzp⟩ := hcp p
  obtain ⟨q0, q1, q2, q3, hzq⟩ := hcp q
  refine sp_enter (vs := [_, _]) Try.func72 rfl Try.ntmps72 rfl ?_
  repeat (first|(apply spl_callb rfl;(·(repeat (first|exact eN|(apply eS;(·(first|exact eT rfl|exact eF))))));(·exact fun w' hh => compareB_c (hp.hp hh).fl (hq.hp hh).fl);(intro r5 hr5))|apply then_n|apply sp_seq|apply sp_region|apply spl_nil|((apply spl_pure rfl);(·(first|((first|apply ex_assign|apply ex_fieldAddr')<;>(first|exact eT rfl|exact eC))|(apply ex_loadown<;>(first|exact eT rfl|exact Bk.own InH.mem|assumption)))))|(apply spl_box;(·exact eT rfl);(·rfl);intro _ _))
  refine sp_drawn [(0, true), (1, true), (2, true), (3, true), (5, true), (6, true), (7, true), (8, true), (10, true), (11, true), (12, true), (13, true), (14, true), (4, false), (9, false), (15, false), (16, false), (17, false), (18, true)] 19 _ mixed (by kernel_rfl) HKeep.refl ?_
  repeat (first|(apply spl_callp rfl;(·(repeat (first|exact eN|(apply eS;(·exact eT rfl)))));(·exact fun w' hh => cmp_c))|(apply spl_callb rfl;(·(repeat (first|exact eN|(apply eS;(·exact eT rfl)))));(·exact fun w' hh => compare_c (hp.hp hh).st (hq.hp hh).st);(intro r20 hr20))|(apply spl_buildSlice rfl;(·rfl);(·(repeat (first|exact eN|(apply eS;(·exact eT rfl)))));(·rfl);(·rfl);(·rfl);intro gb hgb)|(apply spl_callb rfl;(·(repeat (first|exact eN|(apply eS;(·exact eT rfl)))));(·exact fun w' hh => or_c (xs := [_, _, _, _]) (RdS.ofBlock hh.ownI (hh.lt (InH.mem)) rfl (by omega) (fun x hx => rfl) (four_at)));(intro r28 hr28))|apply then_n|apply spl_nil|apply sp_ret|((apply wlk_read rfl rfl);(·(first|((first|apply ex_move|apply ex_assign|apply ex_fieldAddr')<;>(exact eT rfl))|(apply ex_loadown<;>(first|exact eT rfl|exact Bk.own InH.mem|assumption)))))|(apply effq;(·(intro h_;((repeat (first|exact HKeep.refl|(apply HKeep.pick;(·(repeat (first|exact Rem.here|apply Rem.there))))|apply HKeep.drop (by first|assumption|omega)))))))|apply wlk_nil|apply wlk_eff rfl)
  (apply retP_ok rfl;(·((apply Res.ofOne;((apply Res1.tmp;(·rfl)))))))
  exact ⟨r28, rfl, trivial⟩
end Go.Proofs.Ytoogicafefennaa
/-
  Contracts: insertion sort of positions.
-/
namespace Go.Proofs.Ytoogicafefennaa
set_option linter.unusedVariables false
open Go.RowKit Go.Sy
set_option linter.unusedVariables false
set_option linter.unusedSimpArgs false
def flatP (ps : List PosR) : List Value := ps.flatMap fun p => p.C.toList
theorem PosR.size (p : PosR) : p.C.size = 6 := rfl
theorem flatP_len (ps : List PosR) : (flatP ps).length = ps.length * 6 := flat_len (fun x _ => PosR.size x)
theorem flatP_set : ∀ (ps : List PosR) (j : Nat) (q : PosR) (tail : List Value), j < ps.length → (flatP ps ++ tail).take (j * 6) ++ q.C.toList ++ (flatP ps ++ tail).drop (j * 6 + 6) = flatP (ps.set j q) ++ tail
  | [], j, q, tail, h => absurd h (Nat.not_lt_zero _)
  | p :: r, 0, q, tail, h => by
    unfold flatP
    rw [List.set_cons_zero, List.flatMap_cons, List.flatMap_cons]
    simp [PosR.C]
  | p :: r, j + 1, q, tail, h => by
    have ih := flatP_set r j q tail (by simpa using h)
    have hl : p.C.toList.length = 6 := rfl
    have e1 : flatP (p :: r) = p.C.toList ++ flatP r := by unfold flatP; rw [List.flatMap_cons]
    have e2 : flatP ((p :: r).set (j + 1) q) = p.C.toList ++ flatP (r.set j q) := by unfold flatP; rw [List.set_cons_succ, List.flatMap_cons]
    rw [e1, e2, List.append_assoc p.C.toList (flatP r) tail, show (j + 1) * 6 = 6 + j * 6 by omega, show 6 + j * 6 + 6 = 6 + (j * 6 + 6) by omega]
    have t1 : (p.C.toList ++ (flatP r ++ tail)).take (6 + j * 6) = p.C.toList ++ (flatP r ++ tail).take (j * 6) := by rw [List.take_append, hl, List.take_of_length_le (by omega), Nat.add_sub_cancel_left]
    have t2 : (p.C.toList ++ (flatP r ++ tail)).drop (6 + (j * 6 + 6)) = (flatP r ++ tail).drop (j * 6 + 6) := by rw [List.drop_append, hl, List.drop_eq_nil_of_le (by omega), Nat.add_sub_cancel_left, List.nil_append]
    rw [t1, t2, List.append_assoc p.C.toList (flatP (r.set j q)) tail, ← ih]
    simp only [List.append_assoc]
theorem ex_loadelemP {P : Program} {Be : Nat} {w0 : World} {H : Heap} {G : Bool} {e : Env} {ty t : TypeId} {x : Operand} {g i : Nat} {xs : List PosR} {y : PosR} {tail : List Value} {T : TypeId} {f : Nat × Nat} (h : Ev G e x (.pointer (some ⟨g, 0 + i * 6, none⟩))) (hm : Bk Be w0 H g (.cells (flatP xs ++ tail).toArray T f)) (hy : xs[i]? = some y) [TAgg P t] [hs : TSize P t 6] : Ex P Be w0 H G e (.load t x) ty (.agg y.C) := by
  have h' : Ev G e x (.pointer (some ((⟨g, 0, none⟩ : Addr).add (i * 6)))) := by rw [addr_add]; exact h
  unfold flatP at hm
  exact ex_loadelemO (C := PosR.C) h' rfl hm (fun x _ => PosR.size x) hy
section
variable {P : Program} {N Be : Nat} {Q : Post} {e : Env} {w0 : World} {H : Heap} {ops : Array Oper} {rest : List Oper} {ty : TypeId} {pos : String} {after : Array Edge} {d : Nat}
theorem spl_storeP {t : TypeId} {x y : Operand} {g i : Nat} {xs : List PosR} {q : PosR} {tail : List Value} {T : TypeId} {H' : Heap} (hx : Ev true e x (.pointer (some ⟨g, 0 + i * 6, none⟩))) (hy : Ev true e y (.agg q.C)) [hs : TSize P t 6]
    (hi : i < xs.length) (hu : Upd H g (.cells (flatP xs ++ tail).toArray T (0, 0)) (.cells (flatP (xs.set i q) ++ tail).toArray T (0, 0)) H') (k : Spl P N Be ops Q rest e w0 H') :
    Spl P N Be ops Q (⟨none, .store t x y, ty, pos, after, none⟩ :: rest) e w0 H := by
  have hfl := flatP_len xs
  refine spl_storep (T := T) (cs := (flatP xs ++ tail).toArray) hx hy ?_ ?_ (PosR.size q) (fun v hv => (PosR.one q).one v hv) k
  · rw [Nat.zero_add]
    show Upd H g _ (.cells ((flatP xs ++ tail).take (i * 6) ++ q.C.toList ++ (flatP xs ++ tail).drop (i * 6 + 6)).toArray T (0, 0)) H'
    rw [flatP_set xs i q tail hi]
    exact hu
  · show 0 + i * 6 + 6 ≤ (flatP xs ++ tail).length
    rw [List.length_append, hfl]
    omega
end
theorem perm_swap {xs ps : List PosR} {j : Nat} {x y : PosR} (h : xs.Perm ps) (hx : xs[j + 1]? = some x) (hy : xs[j]? = some y) : ((xs.set (j + 1) y).set j x).Perm ps := by
  have h1 := (List.getElem?_eq_some_iff.1 hx)
  have h2 := (List.getElem?_eq_some_iff.1 hy)
  obtain ⟨l1, e1⟩ := h1
  obtain ⟨l2, e2⟩ := h2
  have := List.set_set_perm l1 l2
  rw [e1, e2] at this
  exact this.trans h
/-- Positions whose rows stand in R. -/
def PosIn (R : Heap) (p : PosR) : Prop := ∀ (Be : Nat) (w0 w : World) (H : Heap), (∀ q ∈ R, q ∈ H) → Hp Be w0 H w → RdPos w w.heap.size p
attribute [local irreducible] Calls thenQ blockQ retQ retFQ jumpQ Spc Spl Spq Ex Ev Evs Gd Upd ESub HKeep Res Res1 wlk effQ wlkQ effQt Rem SrcAt Split PosR.C flatP
set_option maxRecDepth 100000 in
set_option maxHeartbeats 16000000 in
theorem isort_c {w0 w : World} {g n cap : Nat} {ps : List PosR} {tail : List Value} {R : Heap} (hl : ps.length = n) (hn : n ≤ 1000000) (hg : w0.heap.size ≤ g) (hP : ∀ p ∈ ps, PosIn R p) (hh : Hp w0.heap.size w0 ((g, .cells (flatP ps ++ tail).toArray 100 (0, 0)) :: R) w) :
    Calls Try.prog 100 #[.slice (some ⟨g, 0, none⟩) n cap, .int .i64 0, .int .i64 (n : Int), (.func (.func 72) #[] #[])] w (RetX w0.heap.size w0 (fun _ : List PosR => .tuple #[]) (fun xs => (g, .cells (flatP xs ++ tail).toArray 100 (0, 0)) :: R) (fun xs => xs.Perm ps)) := by
  refine sp_enterM (vs := [_, _, _, _]) Try.func100 rfl Try.ntmps100 rfl hh ?_
  repeat (first|apply then_n|apply sp_seq|apply sp_region|apply spl_nil|apply sp_block|((apply spl_pure rfl);(·(first|((first|apply ex_move|apply ex_assign)<;>(exact eT rfl))|((apply ex_addn)<;>(first|exact eT rfl|exact eC|(constructor<;>omega)))))))
  refine sp_loop (X := Nat × List PosR) (fun y => [(8, true, .int .i64 (y.1 : Int)), (0, true, .slice (some ⟨g, 0, none⟩) n cap), (1, true, .int .i64 0), (2, true, .int .i64 (n : Int)), (3, true, (.func (.func 72) #[] #[]))]) (fun _ => w0) (fun y => (g, .cells (flatP y.2 ++ tail).toArray 100 (0, 0)) :: R) (fun y => 1 ≤ y.1 ∧ y.2.Perm ps) (fun y => n - y.1) (1, ps) ⟨Nat.le_refl _, .refl _⟩ (by (repeat (first|exact ESub.nil|apply ESub.cons rfl))) rfl (by (repeat (exact HKeep.refl))) ?_
  rintro ⟨i, xs⟩ ⟨hi1, hperm⟩
  replace hi1 : 1 ≤ i := hi1
  replace hperm : xs.Perm ps := hperm
  try dsimp only
  by_cases hlt : i < n
  · have hlt' : (i : Int) < (n : Int) := by omega
    have hinc : (i : Int) + 1 = ((i + 1 : Nat) : Int) := by omega
    repeat (first|apply then_n|apply sp_seq|apply sp_region|apply spl_nil|((apply sp_cond_t);(·exact eT rfl);(·(rfl)))|apply sp_skip|apply sp_block|((apply spl_pure rfl);(·(first|(apply ex_lssT hlt';(·exact eT rfl);(·exact eT rfl))|((first|apply ex_move|apply ex_assign)<;>(exact eT rfl))))))
    refine sp_loop (X := Nat × List PosR) (fun y => [(9, true, .int .i64 (y.1 : Int)), (8, true, .int .i64 (i : Int)), (0, true, .slice (some ⟨g, 0, none⟩) n cap), (1, true, .int .i64 0), (2, true, .int .i64 (n : Int)), (3, true, (.func (.func 72) #[] #[]))]) (fun _ => w0) (fun y => (g, .cells (flatP y.2 ++ tail).toArray 100 (0, 0)) :: R) (fun y => y.1 ≤ i ∧ y.2.Perm ps) (fun y => y.1) (i, xs) ⟨Nat.le_refl _, hperm⟩ (by (repeat (first|exact ESub.nil|apply ESub.cons rfl))) rfl (by (repeat (exact HKeep.refl))) ?_
    clear hperm xs
    rintro ⟨j, xs⟩ ⟨hji, hperm⟩
    replace hji : j ≤ i := hji
    replace hperm : xs.Perm ps := hperm
    try dsimp only
    have hxl : xs.length = n := by rw [hperm.length_eq]; exact hl
    have hPx : ∀ p ∈ xs, PosIn R p := fun p hp => hP p (hperm.mem_iff.1 hp)
    cases j with
    | zero =>
      have hng : ¬ ((0 : Nat) : Int) > 0 := by decide
      repeat (first|(refine sp_drawn (id := 4) [(0, true), (1, true), (2, true), (3, true), (4, true), (5, true), (6, true), (7, true), (8, true), (9, true), (10, true), (11, true), (12, true), (13, true), (14, false), (15, true), (16, true)] 17 _ mixed ?_ HKeep.refl ?_;(·kernel_rfl))|(apply sp_cond_f;(·exact eT rfl);(·rfl))|apply then_n|apply block_n|apply sp_seq|apply sp_region|apply spl_nil|apply then_e|apply block_here|apply sp_exit|((first|apply spl_pure rfl|(apply spl_pure_g rfl;(·exact Gd.tt rfl rfl))|apply wlk_read rfl rfl|(apply wlk_read_g rfl rfl;(·exact Gd.tt rfl rfl)));(·(first|(exact ex_off rfl)|(apply ex_gtrF hng;(·exact eT rfl);(·exact eT rfl))|(apply ex_addK hinc;(·exact eT rfl);(·exact eC);(·(constructor<;>omega)))|((first|apply ex_move|apply ex_assign|apply ex_andT)<;>(first|exact eT rfl|exact eG rfl)))))|(apply effq;(·(intro h_;((repeat (exact HKeep.refl))))))|apply wlk_nil|apply wlk_eff rfl)
      exact ⟨(i + 1, xs), ⟨by omega, hperm⟩, by (show n - (i + 1) < n - i; omega), (by (repeat (first|exact ESub.nil|apply ESub.cons rfl))), rfl, (by (repeat (exact HKeep.refl)))⟩
    | succ j =>
      have hgt : ((j + 1 : Nat) : Int) > 0 := by omega
      have hj1 : j + 1 < n := by omega
      have hj0 : j < n := by omega
      have hsub : ((j + 1 : Nat) : Int) - 1 = (j : Int) := by omega
      obtain ⟨x, hx⟩ : ∃ x, xs[j + 1]? = some x := ⟨_, List.getElem?_eq_getElem (by omega)⟩
      obtain ⟨y, hy⟩ : ∃ y, xs[j]? = some y := ⟨_, List.getElem?_eq_getElem (by omega)⟩
      have hxP := hPx x (List.mem_of_getElem? hx)
      have hyP := hPx y (List.mem_of_getElem? hy)
      have hless := fun (H : Heap) (w' : World) (hs : ∀ q ∈ R, q ∈ H) (hh : Hp w0.heap.size w0 H w') => less_c (hxP _ _ _ _ hs hh) (hyP _ _ _ _ hs hh)
      repeat (first|(refine sp_drawn (id := 4) [(0, true), (1, true), (2, true), (3, true), (4, true), (5, true), (6, true), (7, true), (8, true), (9, true), (10, true), (11, true), (12, true), (13, true), (14, false), (15, true), (16, true)] 17 _ mixed ?_ HKeep.refl ?_;(·kernel_rfl))|(apply spl_callbv (f:=72) (first:=[]) (cap:=[]) rfl;(·exact eT rfl);(·(repeat (first|exact eN|(apply eS;(·exact eT rfl)))));(·exact fun w' hh => hless _ w' InSub.sub hh);(intro r hr))|apply then_n|apply sp_seq|apply spl_nil|((first|(apply spl_pure_g rfl;(·exact Gd.tt rfl rfl))|apply wlk_read rfl rfl|(apply wlk_read_g rfl rfl;(·exact Gd.tt rfl rfl)));(·(first|(apply ex_gtrT hgt;(·exact eT rfl);(·exact eT rfl))|(apply ex_indexAddrO (i:=j+1);(·exact eT rfl);(·exact eT rfl);(·exact hj1))|(apply ex_indexAddrO (i:=j);(·exact eT rfl);(·exact eT rfl);(·exact hj0))|(apply ex_loadelemP (i:=j+1) (xs:=xs) (tail:=tail);(·exact eT rfl);(·exact Bk.own InH.mem);(·exact hx))|(apply ex_loadelemP (i:=j) (xs:=xs) (tail:=tail);(·exact eT rfl);(·exact Bk.own InH.mem);(·exact hy))|(apply ex_subE hsub;(·exact eT rfl);(·exact eC);(·(constructor<;>omega)))|((first|apply ex_move|apply ex_lss|apply ex_andT)<;>(first|exact eT rfl|exact eC)))))|(apply effq;(·(intro h_;((repeat (exact HKeep.refl))))))|apply wlk_nil|apply wlk_eff rfl|(apply spl_guard_t;(·exact Gd.tt rfl rfl);(·rfl)))
      by_cases hr0 : r < 0
      · apply sp_cond_t
        · (exact eT rfl)
        · simp [hr0]
        have hp2 := perm_swap hperm hx hy
        have hl1 : j + 1 < xs.length := by omega
        have hl2 : j < (xs.set (j + 1) y).length := by rw [List.length_set]; omega
        repeat (first|(refine sp_drawnQ (.rd 0 (.rd 1 (.rd 2 (.rd 3 (.rd 4 (.rd 5 (.rd 6 (.rd 7 (.rd 8 (.rd 10 (.rd 11 (.rd 12 (.fk 9 13 (.ef 13 (.rd 14 (.ef 15 (.rd 16 (.ef 17 .nil))))) (.ef 9 (.rd 14 (.ef 15 (.rd 16 (.ef 17 .nil)))))))))))))))))) 18 R mixed ?_ (HKeep.drop hg HKeep.refl) ?_;(·kernel_rfl))|apply wlq_fork rfl rfl|(refine ⟨(j, (xs.set (j + 1) y).set j x), ⟨by omega, hp2⟩, ?_, ?_, rfl, ?_⟩;(·(show j < j + 1;omega));(·(repeat (first|exact ESub.nil|apply ESub.cons rfl)));(·(repeat (exact HKeep.refl))))|(apply spl_storeP (i:=j+1) (xs:=xs) (q:=y) (tail:=tail);(·exact eT rfl);(·exact eT rfl);(·exact hl1);(·(repeat (exact Upd.here))))|(apply spl_storeP (i:=j) (xs:=xs.set (j + 1) y) (q:=x) (tail:=tail);(·exact eT rfl);(·exact eT rfl);(·exact hl2);(·(repeat (exact Upd.here))))|((apply wlq_read rfl rfl);(·(first|(apply ex_indexAddrO (i:=j+1);(·exact eT rfl);(·exact eT rfl);(·exact hj1))|(apply ex_indexAddrO (i:=j);(·exact eT rfl);(·exact eT rfl);(·exact hj0))|(apply ex_subE hsub;(·exact eT rfl);(·exact eC);(·(constructor<;>omega)))|((apply ex_move)<;>(exact eT rfl)))))|apply wlq_nil|apply wlq_eff rfl|(apply effqt;(·(intro h_;((repeat (first|exact HKeep.refl|apply HKeep.drop (by first|assumption|omega)))))))|apply then_n|apply block_n|apply sp_seq|apply sp_region|apply spl_nil|apply sp_skip|apply sp_block|((apply spl_pure rfl);(·(first|(apply ex_loadelemP (i:=j+1) (xs:=xs) (tail:=tail);(·exact eT rfl);(·exact Bk.own InH.mem);(·exact hx))|(apply ex_loadelemP (i:=j) (xs:=xs) (tail:=tail);(·exact eT rfl);(·exact Bk.own InH.mem);(·exact hy))|(apply ex_subE hsub;(·exact eT rfl);(·exact eC);(·(constructor<;>omega)))|((first|apply ex_move|apply ex_assign)<;>(exact eT rfl))))))
      · apply sp_cond_f
        · (exact eT rfl)
        · simp [hr0]
        repeat (first|apply then_n|apply block_n|apply sp_region|apply spl_nil|apply then_e|apply block_here|apply sp_exit|((apply spl_pure rfl);(·(first|(apply ex_addK hinc;(·exact eT rfl);(·exact eC);(·(constructor<;>omega)))|((first|apply ex_move|apply ex_assign)<;>(exact eT rfl))))))
        exact ⟨(i + 1, xs), ⟨by omega, hperm⟩, by (show n - (i + 1) < n - i; omega), (by (repeat (first|exact ESub.nil|apply ESub.cons rfl))), rfl, (by (repeat (exact HKeep.refl)))⟩
  · have hlt' : ¬ (i : Int) < (n : Int) := by omega
    repeat (first|apply then_n|apply sp_seq|apply sp_region|apply spl_nil|apply then_e|apply block_here|(apply sp_cond_f;(·exact eT rfl);(·(rfl)))|apply sp_exit|((apply spl_pure rfl);(·(first|(apply ex_lssF hlt';(·exact eT rfl);(·exact eT rfl))|((apply ex_move)<;>(exact eT rfl))))))
    (apply endX_ok rfl;(·exact Res.none_))
    exact ⟨xs, rfl, hperm, by (repeat (exact HKeep.refl))⟩
end Go.Proofs.Ytoogicafefennaa
/-
  Contracts: slices.SortFunc of few positions.
-/
namespace Go.Proofs.Ytoogicafefennaa
set_option linter.unusedVariables false
open Go.RowKit Go.Sy
set_option linter.unusedVariables false
set_option linter.unusedSimpArgs false
theorem u64_in {n : Nat} (h : n ≤ 12) : IntKind.u64.wrap (n : Int) = (n : Int) := by
  simp [IntKind.wrap, IntKind.bits, IntKind.signed]
  omega
theorem u8_in {n : Nat} (h : n ≤ 12) : IntKind.u8.wrap (n : Int) = (n : Int) := by
  simp [IntKind.wrap, IntKind.bits, IntKind.signed]
  omega
attribute [local irreducible] Calls thenQ blockQ retQ retFQ jumpQ Spc Spl Spq Ex Ev Evs Gd Upd ESub HKeep Res Res1 wlk effQ wlkQ effQt Rem SrcAt Split PosR.C flatP
set_option maxRecDepth 100000 in
set_option maxHeartbeats 4000000 in
theorem len64_c {w : World} {n : Nat} (h : n ≤ 12) : Calls Try.prog 109 #[.int .u64 (n : Int)] w (RetP w (fun n : Int => .int .i64 n) (fun _ => True)) := by
  have h1 : ¬ (4294967296 : Int) ≤ (n : Int) := by omega
  have h2 : ¬ (65536 : Int) ≤ (n : Int) := by omega
  have h3 : ¬ (256 : Int) ≤ (n : Int) := by omega
  have hn : n < 13 := by omega
  have hu8 := u8_in h
  refine sp_enter (vs := [_]) Try.func109 rfl Try.ntmps109 rfl ?_
  repeat (first|(apply sp_cond_f;(·exact eT rfl);(·rfl))|apply then_n|apply sp_seq|apply sp_region|apply spl_nil|apply sp_skip|apply sp_ret|((apply spl_pure rfl);(·(first|(apply ex_geqF h1;(·exact eT rfl);(·exact eC))|(apply ex_geqF h2;(·exact eT rfl);(·exact eC))|(apply ex_geqF h3;(·exact eT rfl);(·exact eC))|(apply ex_convin (n:=(n : Int));(·exact eT rfl);(·exact hu8))|(apply ex_sindex (i:=n);(·exact eC);(·exact eT rfl);(·exact Nat.lt_of_lt_of_le hn (of_decide_eq_true (by kernel_rfl))))|(apply ex_conv;(·exact eT rfl))|((first|apply ex_move|apply ex_assign)<;>(first|exact eT rfl|exact eC))|(apply ex_add<;>(exact eT rfl))))))
  (apply retP_ok rfl;(·((apply Res.ofOne;((apply Res1.tmp;(·rfl)))))))
  exact ⟨_, rfl, trivial⟩
set_option maxRecDepth 100000 in
set_option maxHeartbeats 4000000 in
theorem len_c {w : World} {n : Nat} (h : n ≤ 12) : Calls Try.prog 96 #[.int .u64 (n : Int)] w (RetP w (fun n : Int => .int .i64 n) (fun _ => True)) := by
  refine sp_enter (vs := [_]) Try.func96 rfl Try.ntmps96 rfl ?_
  repeat (first|(apply spl_callb rfl;(·(repeat (first|exact eN|(apply eS;(·exact eT rfl)))));(·exact fun w' hh => len64_c h);(intro r hr))|(apply sp_cond_f;(·exact eC);(·rfl))|apply then_n|apply sp_seq|apply sp_region|apply spl_nil|apply sp_skip|apply sp_ret|((apply spl_pure rfl);(·(((first|apply ex_move|apply ex_assign)<;>(first|exact eT rfl|exact eC))))))
  (apply retP_ok rfl;(·((apply Res.ofOne;((apply Res1.tmp;(·rfl)))))))
  exact ⟨r, rfl, trivial⟩
set_option maxRecDepth 100000 in
set_option maxHeartbeats 8000000 in
theorem pdq_c {w0 w : World} {g n cap : Nat} {ps : List PosR} {tail : List Value} {R : Heap} (hl : ps.length = n) (hn : n ≤ 12) (hg : w0.heap.size ≤ g) (hP : ∀ p ∈ ps, PosIn R p) (hh : Hp w0.heap.size w0 ((g, .cells (flatP ps ++ tail).toArray 100 (0, 0)) :: R) w) {lim : Int} :
    Calls Try.prog 95 #[.slice (some ⟨g, 0, none⟩) n cap, .int .i64 0, .int .i64 (n : Int), .int .i64 lim, (.func (.func 72) #[] #[])] w (RetX w0.heap.size w0 (fun _ : List PosR => .tuple #[]) (fun xs => (g, .cells (flatP xs ++ tail).toArray 100 (0, 0)) :: R) (fun xs => xs.Perm ps)) := by
  have hsub : (n : Int) - 0 = (n : Int) := by omega
  have hle : (n : Int) ≤ 12 := by omega
  refine sp_enterM (vs := [_, _, _, _, _]) Try.func95 rfl Try.ntmps95 rfl hh ?_
  repeat (first|apply then_n|apply sp_seq|apply sp_region|apply spl_nil|apply sp_block|((apply spl_pure rfl);(·(((apply ex_assign)<;>(exact eC))))))
  refine sp_loop (X := Unit) (fun _ => [(0, true, .slice (some ⟨g, 0, none⟩) n cap), (1, true, .int .i64 0), (2, true, .int .i64 (n : Int)), (3, true, .int .i64 lim), (4, true, (.func (.func 72) #[] #[]))]) (fun _ => w0) (fun _ => (g, .cells (flatP ps ++ tail).toArray 100 (0, 0)) :: R) (fun _ => True) (fun _ => 0) () trivial (by (repeat (first|exact ESub.nil|apply ESub.cons rfl))) rfl (by (repeat (exact HKeep.refl))) ?_
  rintro - -
  repeat (first|(apply sp_cond_t;(·exact eT rfl);(·rfl))|(apply spl_callM (X:=List PosR) (V:=fun _ => .tuple #[]) (A:=[(g, .cells (flatP ps ++ tail).toArray 100 (0, 0))]) (AA:=fun xs => [(g, .cells (flatP xs ++ tail).toArray 100 (0, 0))]) (I:=fun xs => xs.Perm ps) (R:=R) rfl;(·(repeat (first|exact eN|(apply eS;(·exact eT rfl)))));(·(repeat (exact Split.one)));(·exact fun w' hh => isort_c (cap := cap) hl (by omega) hg hP hh);(rintro xs hxs;simp only [List.cons_append, List.nil_append]))|apply then_n|apply sp_seq|apply sp_region|apply spl_nil|apply then_r|apply block_r|apply sp_ret|apply sp_block|((apply spl_pure rfl);(·(first|(apply ex_subE hsub;(·exact eT rfl);(·exact eT rfl);(·(constructor<;>omega)))|(apply ex_leqT hle;(·exact eT rfl);(·exact eC))|((first|apply ex_move|apply ex_assign)<;>(exact eT rfl))))))
  (apply retX_ok rfl;(·exact Res.none_))
  exact ⟨xs, rfl, hxs, by (repeat (exact HKeep.refl))⟩
set_option maxRecDepth 100000 in
set_option maxHeartbeats 8000000 in
theorem sort_c {w0 w : World} {g n cap : Nat} {ps : List PosR} {tail : List Value} {R : Heap} (hl : ps.length = n) (hn : n ≤ 12) (hg : w0.heap.size ≤ g) (hP : ∀ p ∈ ps, PosIn R p) (hh : Hp w0.heap.size w0 ((g, .cells (flatP ps ++ tail).toArray 100 (0, 0)) :: R) w) :
    Calls Try.prog 71 #[.slice (some ⟨g, 0, none⟩) n cap, (.func (.func 72) #[] #[])] w (RetX w0.heap.size w0 (fun _ : List PosR => .tuple #[]) (fun xs => (g, .cells (flatP xs ++ tail).toArray 100 (0, 0)) :: R) (fun xs => xs.Perm ps)) := by
  have hu64 := u64_in hn
  refine sp_enterM (vs := [_, _]) Try.func71 rfl Try.ntmps71 rfl hh ?_
  repeat (first|(apply spl_callb rfl;(·(repeat (first|exact eN|(apply eS;(·(first|exact eT rfl|exact eC))))));(·exact fun w' hh => len_c hn);(intro lim hlim))|(apply spl_callM (X:=List PosR) (V:=fun _ => .tuple #[]) (A:=[(g, .cells (flatP ps ++ tail).toArray 100 (0, 0))]) (AA:=fun xs => [(g, .cells (flatP xs ++ tail).toArray 100 (0, 0))]) (I:=fun xs => xs.Perm ps) (R:=R) rfl;(·(repeat (first|exact eN|(apply eS;(·(first|exact eT rfl|exact eC))))));(·(repeat (exact Split.one)));(·exact fun w' hh => pdq_c (cap := cap) (lim := lim) hl hn hg hP hh);(rintro xs hxs;simp only [List.cons_append, List.nil_append]))|apply then_n|apply sp_seq|apply sp_region|apply spl_nil|((apply spl_pure rfl);(·(first|(apply ex_convin (n:=(n : Int));(·exact eT rfl);(·exact hu64))|((first|apply ex_move|apply ex_assign|apply ex_len)<;>(exact eT rfl))))))
  (apply endX_ok rfl;(·exact Res.none_))
  exact ⟨xs, rfl, hxs, by (repeat (exact HKeep.refl))⟩
end Go.Proofs.Ytoogicafefennaa
/-
  Contracts: slices.Clone.
-/
namespace Go.Proofs.Ytoogicafefennaa
set_option linter.unusedVariables false
open Go.RowKit Go.Sy
set_option linter.unusedVariables false
set_option linter.unusedSimpArgs false
section
variable {P : Program} {Be : Nat} {w0 : World} {H : Heap} {G : Bool} {e : Env} {ty : TypeId}
theorem run_equalIn_sn {P : Program} {w : World} {d t el : Nat} {a : Addr} {n c : Nat} (h : P.underlying t = some (.slice el)) : (Op.equalIn (d + 1) t (.slice (some a) n c) (.slice none 0 0)).run P w = .ok false w := by
  simp [Op.equalIn, run_underlying h]
theorem ex_slnil {t t' el : TypeId} {x y : Operand} {a : Addr} {n c : Nat} (h1 : Ev G e x (.slice (some a) n c)) (h2 : Ev G e y (.slice none 0 0)) [ht : TSlice P t el] : Ex P Be w0 H G e (.binOp .eql t x y t') ty (.bool false) := by
  intro N a' w o ho _ hf hh hG
  simp only [execOp, ho, h1 N a' hf hG, h2 N a' hf hG, Sem.run_bind]
  have : (eqGuard .eql t x y (.slice (some a) n c) (.slice none 0 0)).run P w = .ok () w := by unfold eqGuard; simp
  rw [this]
  have h3 : (Op.equal t (.slice (some a) n c) (.slice none 0 0)).run P w = .ok false w := by
    exact run_equalIn_sn ht.slice
  have h4 : binOp .eql t (.slice (some a) n c) (.slice none 0 0) = (do pure (.bool ((← Op.equal t (.slice (some a) n c) (.slice none 0 0))))) := rfl
  simp only [h4, Sem.run_bind, Sem.run_map, h3, Result.andThen_ok, Sem.run_pure]
end
theorem cellsAt_below {w w' : World} {A : Option Addr} {xs : List Value} (h : CellsAt w A xs) (hb : Below w.heap.size w w') : CellsAt w' A xs := fun j u hj => by
  obtain ⟨a, ha, hc⟩ := h j u hj
  refine ⟨a, ha, ?_⟩
  have hlt : (a.add j).block < w.heap.size := by
    unfold World.cell? at hc
    cases hx : w.heap[(a.add j).block]? with
    | none => rw [hx] at hc; cases hc
    | some o => exact (Array.getElem?_eq_some_iff.1 hx).1
  have := hb.block _ hlt
  unfold World.cell? at hc ⊢
  rw [this]
  exact hc
attribute [local irreducible] Calls thenQ blockQ retQ retFQ jumpQ Spc Spl Spq Ex Ev Evs Gd Upd ESub HKeep Res Res1 wlk effQ wlkQ effQt Rem SrcAt Split CellsAt
set_option maxRecDepth 100000 in
set_option maxHeartbeats 4000000 in
theorem cloneI_c {w : World} {a : Addr} {n c : Nat} {vs : List Value} (h : CellsAt w (some a) vs) (hl : vs.length = n) (hn : 0 < n) (hb : n ≤ 1000) (h1 : ∀ v ∈ vs, v.oneCell' = true) :
    Calls Try.prog 68 #[.slice (some a) n c] w (RetH w (fun x : Nat × Nat × List Value => .slice (some ⟨x.1, 0, none⟩) n x.2.1) (fun x => [(x.1, .cells (vs ++ x.2.2).toArray 3 (0, 0))]) (fun x => n ≤ x.2.1)) := by
  refine sp_enter (vs := [_]) Try.func68 rfl Try.ntmps68 rfl ?_
  have hz : 0 + n = n := Nat.zero_add n
  repeat (first|(apply sp_cond_f;(·exact eT rfl);(·rfl))|(apply spl_buildSlice rfl;(·rfl);(·(repeat (exact eN)));(·rfl);(·rfl);(·rfl);intro gb hgb)|(refine spl_append_grow (olds := []) (news := vs) (m := n) (by (exact eT rfl)) (by (exact eT rfl)) (fun w' hh => CellsAt.nil) rfl (fun w' hh => SrcAt.slice (cellsAt_below h hh.belowBe) (by omega) rfl h1) (by omega) (by omega) rfl rfl rfl rfl ?_;intro gn cap2 tail2 hgn hcap2 hlen2)|apply then_n|apply sp_seq|apply sp_region|apply spl_nil|apply sp_skip|apply sp_ret|((apply spl_pure rfl);(·(first|(apply ex_slnil;(·exact eT rfl);(·exact eC))|((first|apply ex_move|apply ex_assign)<;>(first|exact eT rfl|exact eC))))))
  (apply retH_ok rfl;(·((apply Res.ofOne;((apply Res1.tmp;(·rfl)))))))
  exact ⟨(gn, cap2, tail2), by rw [hz], (by show n ≤ cap2; omega), by (repeat (first|exact HKeep.refl|apply HKeep.keep|apply HKeep.drop (by first|assumption|omega)))⟩
set_option maxRecDepth 100000 in
set_option maxHeartbeats 4000000 in
theorem cloneB_c {w : World} {a : Addr} {n c : Nat} {vs : List Value} (h : CellsAt w (some a) vs) (hl : vs.length = n) (hn : 0 < n) (hb : n ≤ 1000) (h1 : ∀ v ∈ vs, v.oneCell' = true) :
    Calls Try.prog 69 #[.slice (some a) n c] w (RetH w (fun x : Nat × Nat × List Value => .slice (some ⟨x.1, 0, none⟩) n x.2.1) (fun x => [(x.1, .cells (vs ++ x.2.2).toArray 4 (0, 0))]) (fun x => n ≤ x.2.1)) := by
  refine sp_enter (vs := [_]) Try.func69 rfl Try.ntmps69 rfl ?_
  have hz : 0 + n = n := Nat.zero_add n
  repeat (first|(apply sp_cond_f;(·exact eT rfl);(·rfl))|(apply spl_buildSlice rfl;(·rfl);(·(repeat (exact eN)));(·rfl);(·rfl);(·rfl);intro gb hgb)|(refine spl_append_grow (olds := []) (news := vs) (m := n) (by (exact eT rfl)) (by (exact eT rfl)) (fun w' hh => CellsAt.nil) rfl (fun w' hh => SrcAt.slice (cellsAt_below h hh.belowBe) (by omega) rfl h1) (by omega) (by omega) rfl rfl rfl rfl ?_;intro gn cap2 tail2 hgn hcap2 hlen2)|apply then_n|apply sp_seq|apply sp_region|apply spl_nil|apply sp_skip|apply sp_ret|((apply spl_pure rfl);(·(first|(apply ex_slnil;(·exact eT rfl);(·exact eC))|((first|apply ex_move|apply ex_assign)<;>(first|exact eT rfl|exact eC))))))
  (apply retH_ok rfl;(·((apply Res.ofOne;((apply Res1.tmp;(·rfl)))))))
  exact ⟨(gn, cap2, tail2), by rw [hz], (by show n ≤ cap2; omega), by (repeat (first|exact HKeep.refl|apply HKeep.keep|apply HKeep.drop (by first|assumption|omega)))⟩
end Go.Proofs.Ytoogicafefennaa
/-
  Plans in plain terms: what follow lists.
-/
namespace Go.Proofs.Ytoogicafefennaa
set_option linter.unusedVariables false
open Go.RowKit Go.Sy
set_option linter.unusedVariables false
set_option linter.unusedSimpArgs false
section
variable {P : Program} {Be : Nat} {w0 : World} {H : Heap} {G : Bool} {e : Env} {ty : TypeId}
theorem ex_sliceArrH {t el : TypeId} {x y : Operand} {n sz g off h : Nat} {k : IntKind} (h1 : Ev G e x (.pointer (some ⟨g, off, none⟩))) (h2 : Ev G e y (.int k (h : Int))) (hb : h ≤ n) [ht : TArray P t n el] [hs : TSize P el sz] : Ex P Be w0 H G e (.slice t x none (some y) none) ty (.slice (some ⟨g, off, none⟩) h n) := by
  intro N a w o ho _ hf hh hG
  have h0 : (h : Int) ≤ (n : Int) := by omega
  simp [execOp, ho, h1 N a hf hG, h2 N a hf hG, Instr.sliceAt, Instr.sureAddr, Instr.sliceBounds, run_underlying ht.array, hs.run w, addr_add, run_sliceBound, h0]
end
theorem cellsAt_off {w : World} {g off : Nat} {cs : Array Value} {T : TypeId} {vs : List Value} (h : w.heap[g]? = some (.cells cs T (0, 0))) (hc : ∀ (j : Nat) (u : Value), vs[j]? = some u → cs[off + j]? = some u) : CellsAt w (some ⟨g, off, none⟩) vs := fun j u hj =>
  ⟨_, rfl, by rw [addr_add]; simp [World.cell?, h, hc j u hj]⟩
/-! The choice of the best. -/
theorem take_choice {f : Nat → Nat} : ∀ (l : List Nat) (out : Option Nat × Nat) (v : Nat), (l.foldl (takeB f) out).1 = some v → out.1 = some v ∨ v ∈ l
  | [], out, v, h => .inl h
  | u :: r, out, v, h => by
    rw [List.foldl_cons] at h
    rcases take_choice r _ v h with q | q
    · unfold takeB at q
      split at q
      · cases q; exact .inr (.head _)
      · exact .inl q
    · exact .inr (.tail _ q)
theorem best_choice {G : GP} {d v : Nat} {x : GS} (h : (bestF G d x).1 = some v) : v ∈ G.at_ x.turn ∧ canS x v = true := by
  rcases take_choice _ _ v h with q | q
  · cases q
  · exact List.mem_filter.1 q
theorem take_gain {f : Nat → Nat} {b : Nat} : ∀ (l : List Nat) (out : Option Nat × Nat), (∀ v, out.1 = some v → out.2 = f v) → (out.1 = none → out.2 = b) → (∀ v, (l.foldl (takeB f) out).1 = some v → (l.foldl (takeB f) out).2 = f v) ∧ ((l.foldl (takeB f) out).1 = none → (l.foldl (takeB f) out).2 = b)
  | [], out, h1, h2 => ⟨h1, h2⟩
  | u :: r, out, h1, h2 => by
    rw [List.foldl_cons]
    refine take_gain r _ (fun v hv => ?_) fun hn => ?_
    · unfold takeB at hv ⊢
      split
      · rename_i hq
        rw [if_pos hq] at hv
        cases hv; rfl
      · rename_i hq
        rw [if_neg hq] at hv
        exact h1 v hv
    · unfold takeB at hn ⊢
      split
      · rename_i hq
        rw [if_pos hq] at hn
        cases hn
      · rename_i hq
        rw [if_neg hq] at hn
        exact h2 hn
theorem best_is (G : GP) (d : Nat) (x : GS) : (∀ v, (bestF G d x).1 = some v → (bestF G d x).2 = worstF G d (stepS x v)) ∧ ((bestF G d x).1 = none → (bestF G d x).2 = 1 + worstF G d (waitS x)) :=
  take_gain _ _ (fun v h => by cases h) fun _ => rfl
/-! What follow lists. -/
def followF (G : GP) : Nat → GS → List GS → List GS
  | 0, _, out => out
  | d + 1, s, out => (movesL G.m s).foldl (fun o x => if x ∈ o then o else followF G d (choS x (bestF G d x).1) (o ++ [x])) out
def stepO (G : GP) (d : Nat) (o : List GS) (x : GS) : List GS := if x ∈ o then o else followF G d (choS x (bestF G d x).1) (o ++ [x])
def stepsO (G : GP) (d : Nat) (l : List GS) (i : Nat) (o : List GS) : List GS := (l.take i).foldl (stepO G d) o
theorem follow_succ (G : GP) (d : Nat) (s : GS) (o : List GS) : followF G (d + 1) s o = stepsO G d (movesL G.m s) (movesL G.m s).length o := by
  unfold stepsO
  rw [List.take_length]
  all_goals rfl
theorem stepsO_succ {G : GP} {d i : Nat} {l o : List GS} {x : GS} (h : l[i]? = some x) : stepsO G d l (i + 1) o = stepO G d (stepsO G d l i o) x := by
  unfold stepsO
  rw [take_succ h, List.foldl_append]; rfl
theorem foldO_len {f : List GS → GS → List GS} (hf : ∀ o x, o.length ≤ (f o x).length) : ∀ (l : List GS) (o : List GS), o.length ≤ (l.foldl f o).length
  | [], o => Nat.le_refl _
  | x :: r, o => Nat.le_trans (hf o x) (foldO_len hf r (f o x))
theorem follow_len (G : GP) : ∀ (d : Nat) (s : GS) (o : List GS), o.length ≤ (followF G d s o).length
  | 0, s, o => Nat.le_refl _
  | d + 1, s, o => by
    unfold followF
    refine foldO_len (fun o x => ?_) _ o
    split
    · exact Nat.le_refl _
    · refine Nat.le_trans ?_ (follow_len G d _ _)
      rw [List.length_append]
      omega
theorem stepO_len (G : GP) (d : Nat) (o : List GS) (x : GS) : o.length ≤ (stepO G d o x).length := by
  unfold stepO
  split
  · exact Nat.le_refl _
  · refine Nat.le_trans ?_ (follow_len G d _ _)
    rw [List.length_append]
    omega
theorem stepsO_len {G : GP} {d i : Nat} {l o : List GS} : (stepsO G d l i o).length ≤ (stepsO G d l l.length o).length := by
  have h : stepsO G d l l.length o = (l.drop i).foldl (stepO G d) (stepsO G d l i o) := by
    unfold stepsO
    rw [List.take_length, ← List.foldl_append, List.take_append_drop]
  rw [h]
  exact foldO_len (stepO_len G d) _ _
theorem stepO_in {G : GP} {d : Nat} {o : List GS} {x : GS} (h : x ∈ o) : stepO G d o x = o := by unfold stepO; rw [if_pos h]
theorem stepO_new {G : GP} {d : Nat} {o : List GS} {x : GS} (h : ¬ x ∈ o) : stepO G d o x = followF G d (choS x (bestF G d x).1) (o ++ [x]) := by unfold stepO; rw [if_neg h]
/-! What is kept on the way. -/
structure PosFor (G : GP) (R : Heap) (x : GS) (p : PosR) : Prop where
  t : p.turn = (x.turn : Int)
  b : p.budget = (x.budget : Int)
  sn : p.sl.n = G.m
  fn : p.fl.n = G.m
  st : p.starts = (x.starts.take G.m).map fun n : Nat => (n : Int)
  fl : p.failed = x.failed.take G.m
  ch : p.choice = chV (bestF G (G.deps.length - 1 - x.turn) x).1
  bd : p.bound = ((bestF G (G.deps.length - 1 - x.turn) x).2 : Int)
  inn : PosIn R p
theorem PosIn.mono {R R' : Heap} {p : PosR} (h : PosIn R p) (hs : ∀ q ∈ R, q ∈ R') : PosIn R' p := fun Be w0 w H hH hh => h Be w0 w H (fun q hq => hH q (hs q hq)) hh
theorem PosFor.mono {G : GP} {R R' : Heap} {x : GS} {p : PosR} (h : PosFor G R x p) (hs : ∀ q ∈ R, q ∈ R') : PosFor G R' x p := ⟨h.t, h.b, h.sn, h.fn, h.st, h.fl, h.ch, h.bd, h.inn.mono hs⟩
structure PSt where
  es : List (GK × Value × Nat)
  ck : Nat
  ses : List (GK × Value × Nat)
  sc : Nat
  r : RowS
  ps : List PosR
  HI : Heap
  out : List GS
def gkOf {x : GS} (h : x.Ok) : GK := ⟨x, h⟩
def SeenM (ses : List (GK × Value × Nat)) (out : List GS) : Prop := ∀ (x : GS) (h : x.Ok), getL (gkOf h) ses = if x ∈ out then some (.bool true) else none
theorem SeenM.nil : SeenM [] [] := fun x h => rfl
theorem SeenM.put {ses : List (GK × Value × Nat)} {out : List GS} {x : GS} {c : Nat} (h : SeenM ses out) (hx : x.Ok) : SeenM (putL (gkOf hx) (.bool true) c ses) (out ++ [x]) := fun y hy => by
  rw [getL_put]
  by_cases he : gkOf hy = gkOf hx
  · have hxy : y = x := congrArg Subtype.val he
    rw [if_pos he, if_pos (by rw [hxy]; simp)]
  · have hxy : y ≠ x := fun q => he (by subst q; rfl)
    rw [if_neg he, h y hy]
    simp [hxy]
structure PInv (G : GP) (b : Nat) (X : PSt) : Prop where
  kI : KI G X.es
  seen : SeenM X.ses X.out
  row : X.r.ok 6 X.ps.length (flatP X.ps)
  fr : X.r.fresh b
  hi : ∀ p ∈ X.HI, b ≤ p.1
  len : X.ps.length = X.out.length
  pos : ∀ (i : Nat) (x : GS) (p : PosR), X.out[i]? = some x → X.ps[i]? = some p → PosFor G X.HI x p
theorem flatP_snoc {ps : List PosR} {p : PosR} : flatP (ps ++ [p]) = flatP ps ++ p.C.toList := by unfold flatP; rw [List.flatMap_append]; simp
theorem PInv.pos_snoc {G : GP} {b : Nat} {X : PSt} {R : Heap} {x : GS} {p : PosR} (h : PInv G b X) (hs : ∀ q ∈ X.HI, q ∈ R) (hp : PosFor G R x p) : ∀ (i : Nat) (y : GS) (q : PosR), (X.out ++ [x])[i]? = some y → (X.ps ++ [p])[i]? = some q → PosFor G R y q := by
  intro i y q hy hq
  by_cases hi : i < X.out.length
  · rw [List.getElem?_append_left hi] at hy
    rw [List.getElem?_append_left (by rw [h.len]; exact hi)] at hq
    exact (h.pos i y q hy hq).mono hs
  · have hie : i = X.out.length := by
      have := (List.getElem?_eq_some_iff.1 hy).1
      rw [List.length_append] at this
      simp at this
      omega
    subst hie
    rw [List.getElem?_append_right (Nat.le_refl _)] at hy
    rw [← h.len, List.getElem?_append_right (Nat.le_refl _)] at hq
    simp at hy hq
    subst hy hq
    exact hp
end Go.Proofs.Ytoogicafefennaa
/-
  Contracts: the closure of game.Plan.
-/
namespace Go.Proofs.Ytoogicafefennaa
set_option linter.unusedVariables false
open Go.RowKit Go.Sy
set_option linter.unusedVariables false
set_option linter.unusedSimpArgs false
def rangeFo (f : Func) : Code × Code := match f.body with | some (.seq _ (.seq _ (.seq _ (.block _ (.rangeFunc _ _ a b))))) => (a, b) | _ => (.skip, .skip)
structure PEnv (g : GaR) (b : BR) (g1 g2 g3 g4 g5 gsn : Nat) (R : Heap) : Prop where
  m1 : (g1, .cells g.C 47 (0, 0)) ∈ R
  m2 : (g2, .cells b.C 78 (0, 0)) ∈ R
  m3 : (g3, .cells #[.map (some gsn)] 114 (0, 0)) ∈ R
  m5 : (g5, .cells #[.func (.func 65) #[] #[.pointer (some ⟨g1, 0, none⟩), .pointer (some ⟨g2, 0, none⟩), .pointer (some ⟨g3, 0, none⟩), .pointer (some ⟨g4, 0, none⟩), .pointer (some ⟨g5, 0, none⟩)]] 115 (0, 0)) ∈ R
theorem PEnv.mono {g : GaR} {b : BR} {g1 g2 g3 g4 g5 gsn : Nat} {R R' : Heap} (h : PEnv g b g1 g2 g3 g4 g5 gsn R) (hs : ∀ p ∈ R, p ∈ R') : PEnv g b g1 g2 g3 g4 g5 gsn R' := ⟨hs _ h.m1, hs _ h.m2, hs _ h.m3, hs _ h.m5⟩
def FW (w0 : World) (g : GaR) (G : GP) (b : BR) (g1 g2 g3 g4 g5 gsn d : Nat) : Prop := ∀ (s : GS) (X : PSt) (R : Heap) (w : World), s.In G → s.turn + d = G.deps.length → PEnv g b g1 g2 g3 g4 g5 gsn R → PInv G w0.heap.size X → (followF G d s X.out).length ≤ 1000 → Hp w0.heap.size w0 ((b.gm, mobj gkV X.es X.ck) :: (gsn, mobj gkV X.ses X.sc) :: (g4, .cells #[X.r.val X.ps.length] 48 (0, 0)) :: (X.r.hp (flatP X.ps) 100 ++ (X.HI ++ R))) w →
  Calls Try.prog 65 #[.agg s.C, .pointer (some ⟨g1, 0, none⟩), .pointer (some ⟨g2, 0, none⟩), .pointer (some ⟨g3, 0, none⟩), .pointer (some ⟨g4, 0, none⟩), .pointer (some ⟨g5, 0, none⟩)] w (RetX w0.heap.size w0 (fun _ : PSt => .tuple #[]) (fun Y => (b.gm, mobj gkV Y.es Y.ck) :: (gsn, mobj gkV Y.ses Y.sc) :: (g4, .cells #[Y.r.val Y.ps.length] 48 (0, 0)) :: (Y.r.hp (flatP Y.ps) 100 ++ (Y.HI ++ R))) (fun Y => PInv G w0.heap.size Y ∧ Y.out = followF G d s X.out))
theorem Split.plan {a b c p q : Nat × Obj} {C HI Rest : Heap} : Split (a :: b :: c :: (C ++ (p :: q :: (HI ++ Rest)))) (a :: b :: c :: (C ++ (p :: q :: HI))) Rest := by
  unfold Split
  simp only [List.cons_append, List.append_assoc]
  exact List.Perm.refl _
/-- The position of a state. -/
def mkP (G : GP) (x : GS) (bc : Option Nat × Nat) (gs cps gf cpf : Nat) : PosR := { turn := (x.turn : Int), sl := ⟨some ⟨gs, 0, none⟩, G.m, cps⟩, starts := (x.starts.take G.m).map fun n : Nat => (n : Int), fl := ⟨some ⟨gf, 0, none⟩, G.m, cpf⟩, failed := x.failed.take G.m, budget := (x.budget : Int), choice := chV bc.1, bound := (bc.2 : Int) }
theorem rd_own {α : Type} {C : α → Array Value} {f : α → Value} (hC : ∀ x, (C x).toList = [f x]) {Be : Nat} {w0 w : World} {H : Heap} {g n : Nat} {xs : List α} {tl : List Value} {T : TypeId} (hm : (g, Obj.cells (xs.map f ++ tl).toArray T (0, 0)) ∈ H) (hh : Hp Be w0 H w) (hl : xs.length = n) (hn : n ≤ 1000) : RdS w w.heap.size 1 C (some ⟨g, 0, none⟩) n xs := by
  have hg := hh.own _ hm
  refine RdS.ofBlock hg (Array.getElem?_eq_some_iff.1 hg).1 hl (by omega) (fun x hx => by rw [← Array.length_toList, hC]; rfl) fun i x hx j v hj => ?_
  have hj' : (C x).toList[j]? = some v := by simpa using hj
  rw [hC] at hj'
  have hj0 : j = 0 := by
    have := (List.getElem?_eq_some_iff.1 hj').1
    simp at this
    omega
  subst hj0
  cases hj'
  rw [List.getElem?_toArray, Nat.mul_one, Nat.add_zero, List.getElem?_append_left (by rw [List.length_map]; exact (List.getElem?_eq_some_iff.1 hx).1), List.getElem?_map, hx]; rfl
theorem iv_cast : ∀ l : List Nat, l.map iv = (l.map fun n : Nat => (n : Int)).map zv
  | [] => rfl
  | a :: r => by rw [List.map_cons, List.map_cons, List.map_cons, iv_cast r]; rfl
theorem mkP_in {G : GP} {x : GS} {bc : Option Nat × Nat} {gs cps gf cpf : Nat} {tls tlf : List Value} {R : Heap} (h : x.Ok) (hm : G.m ≤ 6) (hs : (gs, Obj.cells ((x.starts.take G.m).map iv ++ tls).toArray 3 (0, 0)) ∈ R) (hf : (gf, Obj.cells ((x.failed.take G.m).map bv ++ tlf).toArray 4 (0, 0)) ∈ R) : PosIn R (mkP G x bc gs cps gf cpf) := fun Be w0 w H hH hh => by
  have l1 := h.l1
  have l2 := h.l2
  refine ⟨?_, ?_⟩
  · unfold mkP
    rw [iv_cast] at hs
    exact rd_own (C := intC) (f := zv) (fun x => rfl) (hH _ hs) hh (by show (List.map _ (x.starts.take G.m)).length = G.m; rw [List.length_map, List.length_take]; omega) (by show G.m ≤ 1000; omega)
  · unfold mkP
    exact rd_own (C := boolC) (f := bv) (fun x => rfl) (hH _ hf) hh (by show (x.failed.take G.m).length = G.m; rw [List.length_take]; omega) (by show G.m ≤ 1000; omega)
theorem mkP_for {G : GP} {x : GS} {d gs cps gf cpf : Nat} {tls tlf : List Value} {R : Heap} (h : x.Ok) (hm : G.m ≤ 6) (ht : x.turn + d + 1 = G.deps.length) (hs : (gs, Obj.cells ((x.starts.take G.m).map iv ++ tls).toArray 3 (0, 0)) ∈ R) (hf : (gf, Obj.cells ((x.failed.take G.m).map bv ++ tlf).toArray 4 (0, 0)) ∈ R) : PosFor G R x (mkP G x (bestF G d x) gs cps gf cpf) := by
  have hd : G.deps.length - 1 - x.turn = d := by omega
  refine ⟨rfl, rfl, rfl, rfl, rfl, rfl, ?_, ?_, mkP_in h hm hs hf⟩
  · rw [hd]; rfl
  · rw [hd]; rfl
theorem src_st {x : GS} {m : Nat} (h : x.Ok) (hm : m ≤ 6) : ∀ (j : Nat) (u : Value), ((x.starts.take m).map iv)[j]? = some u → x.C[1 + j]? = some u := fun j u hj => by
  rw [List.getElem?_map, List.getElem?_take] at hj
  split at hj
  · rw [GS.c1 h (by omega)]
    unfold sAt
    rw [List.getD_eq_getElem?_getD]
    cases hx : x.starts[j]? with
    | none => rw [hx] at hj; cases hj
    | some v => rw [hx] at hj; exact hj
  · cases hj
theorem src_fl {x : GS} {m : Nat} (h : x.Ok) (hm : m ≤ 6) : ∀ (j : Nat) (u : Value), ((x.failed.take m).map bv)[j]? = some u → x.C[7 + j]? = some u := fun j u hj => by
  rw [List.getElem?_map, List.getElem?_take] at hj
  split at hj
  · rw [GS.c2 h (by omega)]
    unfold gt
    rw [List.getD_eq_getElem?_getD]
    cases hx : x.failed[j]? with
    | none => rw [hx] at hj; cases hj
    | some v => rw [hx] at hj; exact hj
  · cases hj
attribute [local irreducible] Calls thenQ blockQ retQ jumpQ Spc Spl Spq Ex Ev Evs Gd Upd ESub HKeep Res Res1 wlk effQ Rem SrcAt Split GS.C SplI SpcM YieldAt movesL mobj worstF bestF markQ rndQ asgQ posC PosR.C flatP followF stepO stepsO CellsAt
/- func65 rfl -/
set_option maxRecDepth 100000 in
set_option maxHeartbeats 16000000 in
theorem follow_round {w0 : World} {g : GaR} {G : GP} {b : BR} {g1 g2 g3 g4 g5 gsn : Nat} {d : Nat} {x : GS} {X : PSt} (hG : G.Ok) (hm0 : 0 < G.m) (hgm : g.sl.n = G.m) (hB : BC w0 G b d) (hF : FW w0 g G b g1 g2 g3 g4 g5 gsn d) (hx : x.In G) (ht : x.turn + d + 1 = G.deps.length) (hX : PInv G w0.heap.size X) (hlen : (stepO G d X.out x).length ≤ 1000)
    {l d0 : Nat} {fn : FuncId} {tmps : Array Value} {R R' : Heap} (hE : PEnv g b g1 g2 g3 g4 g5 gsn R) {rec : Loop} (hrec : rec = { state := .ready, pending := none, fn, tmps, params := #[19], assign := (rangeFo Try.f65).1, body := (rangeFo Try.f65).2, defers := d0 }) :
    SpcM (some l) [] Try.prog 57 w0.heap.size (rangeFo Try.f65).1 (asgQ Try.prog 57 w0.heap.size l rec w0 (fun _ : Heap => true) (fun y => y ++ R')
      (fun y => ∃ Y, PInv G w0.heap.size Y ∧ Y.out = stepO G d X.out x ∧ y = (l, .loop rec) :: (d0, .deferred (some [])) :: (b.gm, mobj gkV Y.es Y.ck) :: (gsn, mobj gkV Y.ses Y.sc) :: (g4, .cells #[Y.r.val Y.ps.length] 48 (0, 0)) :: (Y.r.hp (flatP Y.ps) 100 ++ (Y.HI ++ R))))
      ((19, true, .agg x.C) :: [(1, true, .pointer (some ⟨g1, 0, none⟩)), (2, true, .pointer (some ⟨g2, 0, none⟩)), (3, true, .pointer (some ⟨g3, 0, none⟩)), (4, true, .pointer (some ⟨g4, 0, none⟩)), (5, true, .pointer (some ⟨g5, 0, none⟩))]) w0 ((l, .loop rec) :: (d0, .deferred (some [])) :: (b.gm, mobj gkV X.es X.ck) :: (gsn, mobj gkV X.ses X.sc) :: (g4, .cells #[X.r.val X.ps.length] 48 (0, 0)) :: (X.r.hp (flatP X.ps) 100 ++ (X.HI ++ (R ++ R')))) := by
  have hm6 := hG.m
  have hz : x.C.size = 14 := GS.size hx.ok
  haveI : InH R g1 (.cells g.C 47 (0, 0)) := ⟨hE.m1⟩
  haveI : InH R g2 (.cells b.C 78 (0, 0)) := ⟨hE.m2⟩
  haveI : InH R g3 (.cells #[.map (some gsn)] 114 (0, 0)) := ⟨hE.m3⟩
  haveI : InH R g5 (.cells #[.func (.func 65) #[] #[.pointer (some ⟨g1, 0, none⟩), .pointer (some ⟨g2, 0, none⟩), .pointer (some ⟨g3, 0, none⟩), .pointer (some ⟨g4, 0, none⟩), .pointer (some ⟨g5, 0, none⟩)]] 115 (0, 0)) := ⟨hE.m5⟩
  have hsn := hX.seen x hx.ok
  repeat (first|apply spm_region rfl|apply spl_nil|(apply spl_alloc rfl;intro _ _)|(apply spl_stores;(·exact eT rfl);(·exact eT rfl);(·(repeat (exact Upd.here)));(·(rfl));(·(assumption));(·exact Ones.one)))
  rename_i g7 hg7
  refine asg_n ((g7, .cells x.C 82 (0, 0)) :: (d0, .deferred (some [])) :: (b.gm, mobj gkV X.es X.ck) :: (gsn, mobj gkV X.ses X.sc) :: (g4, .cells #[X.r.val X.ps.length] 48 (0, 0)) :: (X.r.hp (flatP X.ps) 100 ++ (X.HI ++ (R ++ R')))) (List.Perm.swap _ _ _) ?_
  subst hrec
  dsimp only
  by_cases hin : x ∈ X.out
  · rw [if_pos hin] at hsn
    have hv : ∀ z, (getL (gkOf hx.ok) X.ses).getD z = .bool true := fun z => by rw [hsn]; rfl
    repeat (first|apply spm_seq|apply spm_region rfl|apply spm_block|apply spm_exit|((apply spm_cond_t);(·exact eT rfl);(·(rfl)))|apply then_n|apply spl_nil|apply then_e|apply block_here|((apply spl_pure rfl);(·(first|(refine ex_lookup (k:=gkOf hx.ok) (kv:=gkV) (g:=gsn) (c:=X.sc) (hv _) ?_ ?_ ?_;(·exact eT rfl);(·exact eT rfl);(·exact Bk.own InH.mem))|(apply ex_loadown<;>(first|exact eT rfl|exact Bk.own InH.mem|rfl))|(apply ex_loadowns<;>(first|exact eT rfl|exact Bk.own InH.mem|(assumption)))))))
    refine rnd_n _ ((l, _) :: (d0, _) :: (b.gm, mobj gkV X.es X.ck) :: (gsn, mobj gkV X.ses X.sc) :: (g4, .cells #[X.r.val X.ps.length] 48 (0, 0)) :: (X.r.hp (flatP X.ps) 100 ++ (X.HI ++ R))) (List.Perm.refl _) ⟨X, hX, (stepO_in hin).symm, rfl⟩ rfl ?_
    simp only [List.cons_append, List.append_assoc]
    (repeat (first|exact HKeep.refl|apply HKeep.keep|(apply HKeep.app;(·(repeat (first|exact Split.here|apply Split.cons))))|(apply HKeep.pick;(·(repeat (first|exact Rem.here|apply Rem.there))))|apply HKeep.drop (by first|assumption|omega)))
  · rw [if_neg hin] at hsn
    have hv : ∀ z, (getL (gkOf hx.ok) X.ses).getD z = z := fun z => by rw [hsn]; rfl
    have hfo := stepO_new (G := G) (d := d) hin
    rw [hfo] at hlen ⊢
    have hl1 := follow_len G d (choS x (bestF G d x).1) (X.out ++ [x])
    rw [List.length_append] at hl1
    have hl2 : X.out.length + 1 ≤ 1000 := Nat.le_trans hl1 hlen
    have hpl : X.ps.length + 1 ≤ 1000 := by rw [hX.len]; exact hl2
    have hx0 : x.C[0]? = some (.int .i64 (x.turn : Int)) := GS.c0
    have hx3 : x.C[13]? = some (.int .i64 (x.budget : Int)) := GS.c3 hx.ok
    have hst := src_st hx.ok hm6
    have hfl := src_fl hx.ok hm6
    have hsl : ((x.starts.take G.m).map iv).length = g.sl.n := by rw [List.length_map, List.length_take, hx.ok.l1, hgm]; omega
    have hfll : ((x.failed.take G.m).map bv).length = g.sl.n := by rw [List.length_map, List.length_take, hx.ok.l2, hgm]; omega
    have hson : ∀ v ∈ (x.starts.take G.m).map iv, v.oneCell' = true := fun v hv => by obtain ⟨q, _, rfl⟩ := List.mem_map.1 hv; rfl
    have hfon : ∀ v ∈ (x.failed.take G.m).map bv, v.oneCell' = true := fun v hv => by obtain ⟨q, _, rfl⟩ := List.mem_map.1 hv; rfl
    have hn0 : 0 < g.sl.n := by omega
    have hn6 : g.sl.n ≤ 6 := by omega
    have hn1 : g.sl.n ≤ 1000 := by omega
    have hpc : ∀ gs cps gf cpf : Nat, #[.int .i64 (x.turn : Int), .slice (some ⟨gs, 0, none⟩) g.sl.n cps, .slice (some ⟨gf, 0, none⟩) g.sl.n cpf, .int .i64 (x.budget : Int), .int .i64 (chV (bestF G d x).1), .int .i64 ((bestF G d x).2 : Int)] = (mkP G x (bestF G d x) gs cps gf cpf).C := fun gs cps gf cpf => by rw [hgm]; unfold mkP PosR.C; rfl
    have hz6 : ∀ gs cps gf cpf : Nat, (mkP G x (bestF G d x) gs cps gf cpf).C.size = 6 := fun gs cps gf cpf => PosR.size _
    have hrowd := RowS.drop (xs := flatP X.ps) (T := 100) hX.fr
    repeat (first|apply spm_skip|apply spm_seq|apply spm_region rfl|apply spm_block|(refine spl_mapUpdate (k:=gkOf hx.ok) (kv:=gkV) (g:=gsn) (c:=X.sc) (es:=X.ses) (v:=.bool true) (by (exact eT rfl)) (by (exact eT rfl)) (by (exact eC)) (by (repeat (first|exact Upd.here|apply Upd.there))) ?_)|(apply spl_callM (X:=List (GK × Value × Nat) × Nat) (V:=fun _ => posV (bestF G d x)) (A:=[(b.gm, mobj gkV X.es X.ck)]) (AA:=fun y => [(b.gm, mobj gkV y.1 y.2)]) (I:=fun y => KI G y.1) rfl;(·(repeat (first|exact eN|(apply eS;(·exact eT rfl)))));(·(repeat (first|exact Split.one|apply Split.cons|apply Split.app)));(·exact fun w' hh => hB x X.es X.ck _ w' hx ht hX.kI hh);(rintro ⟨es2, ck2⟩ hK2;simp only [List.cons_append, List.nil_append]))|(refine spm_drawn (id := 8) [(0, true), (1, true), (2, true), (3, true), (4, true), (5, true), (7, true), (8, true), (9, true), (11, true), (12, true), (13, true), (14, true), (15, true), (16, true), (6, false), (10, false), (17, true), (18, false), (19, false), (20, false)] 19 _ mixed ?_ rfl HKeep.refl ?_;(·kernel_rfl))|(apply spl_callh rfl;(·(repeat (first|exact eN|(apply eS;(·exact eT rfl)))));(·exact fun w' hh => cloneI_c (vs := (x.starts.take G.m).map iv) (cellsAt_off hh.ownI hst) hsl hn0 hn1 hson);(rintro ⟨gs, cps, tls⟩ hcs hfs;have hgs : w0.heap.size ≤ gs := hfs _ (.head _);simp only [List.cons_append, List.nil_append]))|(apply spl_callh rfl;(·(repeat (first|exact eN|(apply eS;(·exact eT rfl)))));(·exact fun w' hh => cloneB_c (vs := (x.failed.take G.m).map bv) (cellsAt_off hh.ownI hfl) hfll hn0 hn1 hfon);(rintro ⟨gf, cpf, tlf⟩ hcf hff;have hgf : w0.heap.size ≤ gf := hff _ (.head _);simp only [List.cons_append, List.nil_append]))|(apply spl_buildSlice (d := 49) rfl;(·rfl);(·(repeat (first|exact eN|(apply eS;(·exact eT rfl)))));(·rfl);(·(show (Nat.beq (mkP G x (bestF G d x) gs cps gf cpf).C.size 6 && true) = true;rw [hz6];rfl));(·rfl);intro gb hgb)|(apply spm_cond_f;(·exact eT rfl);(·(rfl)))|apply then_n|apply spl_nil|((first|apply spl_pure rfl|apply wlk_read rfl rfl);(·(first|(refine ex_lookup (k:=gkOf hx.ok) (kv:=gkV) (g:=gsn) (c:=X.sc) (hv _) ?_ ?_ ?_;(·exact eT rfl);(·exact eT rfl);(·exact Bk.own InH.mem))|(apply ex_sliceArrH (h:=g.sl.n);(·exact eT rfl);(·exact eT rfl);(·exact hn6))|(apply ex_buildE (r:=(mkP G x (bestF G d x) gs cps gf cpf).C);(·(repeat (first|exact eN|(apply eS;(·exact eT rfl)))));(·rfl);(·exact hpc gs cps gf cpf))|((first|apply ex_move|apply ex_assign|apply ex_fieldAddr'|apply ex_len)<;>(exact eT rfl))|(apply ex_loadown<;>(first|exact eT rfl|exact Bk.own InH.mem|rfl|assumption))|(apply ex_loadowns<;>(first|exact eT rfl|exact Bk.own InH.mem|(first|rfl|assumption))))))|(apply spl_alloc rfl;intro _ _)|(apply spl_store1;(·exact eT rfl);(·exact eT rfl);(·rfl);(·(repeat (first|exact Upd.here|apply Upd.there|apply Upd.app)));(·rfl))|(apply spl_stores;(·exact eT rfl);(·exact eT rfl);(·(repeat (exact Upd.here)));(·(rfl));(·(rfl));(·exact ones_of_all rfl))|(apply effq;(·(intro h_;(first|(exact absurd h_ (by decide))|(repeat (first|exact HKeep.refl|(apply HKeep.app;(·(repeat (first|exact Split.here|apply Split.cons))))|(apply HKeep.pick;(·(repeat (first|exact Rem.here|apply Rem.there))))|apply HKeep.drop (by first|assumption|omega)))))))|apply wlk_nil|apply wlk_eff rfl|(refine spl_append_row (r := X.r) (n := X.ps.length) (xs := flatP X.ps) (news := (mkP G x (bestF G d x) gs cps gf cpf).C.toList) (m := 1) (by (exact eT rfl)) (by (exact eT rfl)) (by (repeat (first|exact Split.here|apply Split.cons))) hX.row hX.fr (by omega) (fun w' hh => SrcAt.slice (CellsAt.own hh.ownI (fun j u hj => by rw [List.getElem?_toArray]; simpa [Value.cells] using hj)) (hz6 _ _ _ _) rfl (fun q hq => Ones.one q (Array.mem_toList_iff.1 hq))) (hz6 _ _ _ _) (by omega) rfl rfl rfl rfl ?_;intro r2 hr2 hfr2))
    rename_i g8 hg8
    have hrow2 := RowS.drop (xs := flatP X.ps ++ (mkP G x (bestF G d x) gs cps gf cpf).C.toList) (T := 100) hfr2
    have hpf := mkP_for (gs := gs) (cps := cps) (gf := gf) (cpf := cpf) (tls := tls) (tlf := tlf) (R := (gf, .cells ((x.failed.take G.m).map bv ++ tlf).toArray 4 (0, 0)) :: (gs, .cells ((x.starts.take G.m).map iv ++ tls).toArray 3 (0, 0)) :: X.HI) hx.ok hm6 ht (.tail _ (.head _)) (.head _)
    have htl : x.turn < G.deps.length := by omega
    have hch : ∀ v, (bestF G d x).1 = some v → v < 6 ∧ 0 < sAt x v := fun v hv => by
      obtain ⟨q1, q2⟩ := best_choice hv
      have q3 := hG.v _ _ q1
      unfold canS at q2
      rw [Bool.and_eq_true, decide_eq_true_iff] at q2
      exact ⟨by omega, q2.2⟩
    have hni : (choS x (bestF G d x).1).In G ∧ (choS x (bestF G d x).1).turn = x.turn + 1 := by
      cases hc : (bestF G d x).1 with
      | none => exact ⟨waitS_in hG hx htl, rfl⟩
      | some v => exact ⟨stepS_in hG hx htl (hch v hc).1, rfl⟩
    have e1 : (X.ps ++ [(mkP G x (bestF G d x) gs cps gf cpf)]).length = X.ps.length + 1 := by rw [List.length_append]; rfl
    have e2 := flatP_snoc (ps := X.ps) (p := (mkP G x (bestF G d x) gs cps gf cpf))
    have hI2 : PInv G w0.heap.size ⟨es2, ck2, putL (gkOf hx.ok) (.bool true) X.sc X.ses, tick (gkOf hx.ok) X.sc X.ses, r2, X.ps ++ [(mkP G x (bestF G d x) gs cps gf cpf)], (gf, .cells ((x.failed.take G.m).map bv ++ tlf).toArray 4 (0, 0)) :: (gs, .cells ((x.starts.take G.m).map iv ++ tls).toArray 3 (0, 0)) :: X.HI, X.out ++ [x]⟩ := by
      refine ⟨hK2, hX.seen.put hx.ok, ?_, hfr2, fun q hq => ?_, ?_, hX.pos_snoc (fun q hq => .tail _ (.tail _ hq)) hpf⟩
      · show r2.ok 6 (X.ps ++ [(mkP G x (bestF G d x) gs cps gf cpf)]).length (flatP (X.ps ++ [(mkP G x (bestF G d x) gs cps gf cpf)]))
        rw [e1, e2]
        exact hr2
      · rcases List.mem_cons.1 hq with rfl | hq
        · exact hgf
        · rcases List.mem_cons.1 hq with rfl | hq
          · exact hgs
          · exact hX.hi q hq
      · show (X.ps ++ [(mkP G x (bestF G d x) gs cps gf cpf)]).length = (X.out ++ [x]).length
        rw [List.length_append, List.length_append, hX.len]; rfl
    have hcall := fun (w2 : World) (Rest : Heap) (hE2 : PEnv g b g1 g2 g3 g4 g5 gsn Rest) (hh2 : Hp w0.heap.size w0 (((b.gm, mobj gkV es2 ck2) :: (gsn, mobj gkV (putL (gkOf hx.ok) (.bool true) X.sc X.ses) (tick (gkOf hx.ok) X.sc X.ses)) :: (g4, .cells #[r2.val (X.ps.length + 1)] 48 (0, 0)) :: (r2.hp (flatP X.ps ++ (mkP G x (bestF G d x) gs cps gf cpf).C.toList) 100 ++ ((gf, .cells ((x.failed.take G.m).map bv ++ tlf).toArray 4 (0, 0)) :: (gs, .cells ((x.starts.take G.m).map iv ++ tls).toArray 3 (0, 0)) :: X.HI))) ++ Rest) w2) => (hF (choS x (bestF G d x).1) ⟨es2, ck2, putL (gkOf hx.ok) (.bool true) X.sc X.ses, tick (gkOf hx.ok) X.sc X.ses, r2, X.ps ++ [(mkP G x (bestF G d x) gs cps gf cpf)], (gf, .cells ((x.failed.take G.m).map bv ++ tlf).toArray 4 (0, 0)) :: (gs, .cells ((x.starts.take G.m).map iv ++ tls).toArray 3 (0, 0)) :: X.HI, X.out ++ [x]⟩ Rest w2 hni.1 (by rw [hni.2]; omega) hE2 hI2 hlen (by
      show Hp _ _ ((b.gm, mobj gkV es2 ck2) :: (gsn, mobj gkV (putL (gkOf hx.ok) (.bool true) X.sc X.ses) (tick (gkOf hx.ok) X.sc X.ses)) :: (g4, .cells #[r2.val (X.ps ++ [(mkP G x (bestF G d x) gs cps gf cpf)]).length] 48 (0, 0)) :: (r2.hp (flatP (X.ps ++ [(mkP G x (bestF G d x) gs cps gf cpf)])) 100 ++ (((gf, .cells ((x.failed.take G.m).map bv ++ tlf).toArray 4 (0, 0)) :: (gs, .cells ((x.starts.take G.m).map iv ++ tls).toArray 3 (0, 0)) :: X.HI) ++ Rest))) _
      rw [e1, e2]
      simpa only [List.cons_append, List.append_assoc] using hh2)).mono (R' := RetX w0.heap.size w0 (fun _ : PSt => .tuple #[]) (fun Y => ((b.gm, mobj gkV Y.es Y.ck) :: (gsn, mobj gkV Y.ses Y.sc) :: (g4, .cells #[Y.r.val Y.ps.length] 48 (0, 0)) :: (Y.r.hp (flatP Y.ps) 100 ++ Y.HI)) ++ Rest) (fun Y => PInv G w0.heap.size Y ∧ Y.out = followF G d (choS x (bestF G d x).1) (X.out ++ [x]))) (by
        rintro en w' ⟨Y, rfl, hI, hp⟩
        exact ⟨Y, rfl, hI, by simpa only [List.cons_append, List.append_assoc] using hp⟩)
    have hE2 : PEnv g b g1 g2 g3 g4 g5 gsn ((l, .loop { state := .busy, pending := none, fn := fn, tmps := tmps, params := #[19], assign := (rangeFo Try.f65).1, body := (rangeFo Try.f65).2, defers := d0 }) :: (d0, .deferred (some [])) :: (g7, .cells x.C 82 (0, 0)) :: (g8, .cells #[.int .i64 0, .slice none 0 0, .slice none 0 0, .int .i64 0, .int .i64 (chV (bestF G d x).1), .int .i64 ((bestF G d x).2 : Int)] 100 (0, 0)) :: (R ++ R')) := hE.mono fun q hq => .tail _ (.tail _ (.tail _ (.tail _ (List.mem_append.2 (.inl hq)))))
    refine SpcM.sub (e := (7, true, .pointer (some ⟨g7, 0, none⟩)) :: (8, true, .pointer (some ⟨g8, 0, none⟩)) :: [(1, true, .pointer (some ⟨g1, 0, none⟩)), (2, true, .pointer (some ⟨g2, 0, none⟩)), (3, true, .pointer (some ⟨g3, 0, none⟩)), (4, true, .pointer (some ⟨g4, 0, none⟩)), (5, true, .pointer (some ⟨g5, 0, none⟩))]) (H := (b.gm, mobj gkV es2 ck2) :: (gsn, mobj gkV (putL (gkOf hx.ok) (.bool true) X.sc X.ses) (tick (gkOf hx.ok) X.sc X.ses)) :: (g4, .cells #[r2.val (X.ps.length + 1)] 48 (0, 0)) :: (r2.hp (flatP X.ps ++ (mkP G x (bestF G d x) gs cps gf cpf).C.toList) 100 ++ ((gf, .cells ((x.failed.take G.m).map bv ++ tlf).toArray 4 (0, 0)) :: (gs, .cells ((x.starts.take G.m).map iv ++ tls).toArray 3 (0, 0)) :: (X.HI ++ ((l, .loop { state := .busy, pending := none, fn := fn, tmps := tmps, params := #[19], assign := (rangeFo Try.f65).1, body := (rangeFo Try.f65).2, defers := d0 }) :: (d0, .deferred (some [])) :: (g7, .cells x.C 82 (0, 0)) :: (g8, .cells #[.int .i64 0, .slice none 0 0, .slice none 0 0, .int .i64 0, .int .i64 (chV (bestF G d x).1), .int .i64 ((bestF G d x).2 : Int)] 100 (0, 0)) :: (R ++ R')))))) ?_ (by (repeat (first|exact ESub.nil|apply ESub.cons rfl))) (by (repeat (first|exact HKeep.refl|(apply HKeep.app;(·(repeat (first|exact Split.here|apply Split.cons))))|(apply HKeep.pick;(·(repeat (first|exact Rem.here|apply Rem.there|apply Rem.app))))|apply HKeep.drop (by first|assumption|omega)))) 
    repeat (first|(refine spm_drawn (id := 9) [(0, true), (1, true), (2, true), (3, true), (4, false), (5, false)] 5 _ mixed ?_ rfl HKeep.refl ?_;(·kernel_rfl))|(apply spl_callp rfl;(·(repeat (first|exact eN|(apply eS;(·exact eT rfl)))));(·exact fun w' hh => after_c (c := (bestF G d x).1) hG hx htl hch))|(apply spl_callMw (f:=65) (first:=[]) (cap:=[.pointer (some ⟨g1, 0, none⟩), .pointer (some ⟨g2, 0, none⟩), .pointer (some ⟨g3, 0, none⟩), .pointer (some ⟨g4, 0, none⟩), .pointer (some ⟨g5, 0, none⟩)]) (X:=PSt) (V:=fun _ => .tuple #[]) (A:=(b.gm, mobj gkV es2 ck2) :: (gsn, mobj gkV (putL (gkOf hx.ok) (.bool true) X.sc X.ses) (tick (gkOf hx.ok) X.sc X.ses)) :: (g4, .cells #[r2.val (X.ps.length + 1)] 48 (0, 0)) :: (r2.hp (flatP X.ps ++ (mkP G x (bestF G d x) gs cps gf cpf).C.toList) 100 ++ ((gf, .cells ((x.failed.take G.m).map bv ++ tlf).toArray 4 (0, 0)) :: (gs, .cells ((x.starts.take G.m).map iv ++ tls).toArray 3 (0, 0)) :: X.HI))) (AA:=fun Y => (b.gm, mobj gkV Y.es Y.ck) :: (gsn, mobj gkV Y.ses Y.sc) :: (g4, .cells #[Y.r.val Y.ps.length] 48 (0, 0)) :: (Y.r.hp (flatP Y.ps) 100 ++ Y.HI)) (I:=fun Y => PInv G w0.heap.size Y ∧ Y.out = followF G d (choS x (bestF G d x).1) (X.out ++ [x])) (R:=(l, .loop { state := .busy, pending := none, fn := fn, tmps := tmps, params := #[19], assign := (rangeFo Try.f65).1, body := (rangeFo Try.f65).2, defers := d0 }) :: (d0, .deferred (some [])) :: (g7, .cells x.C 82 (0, 0)) :: (g8, .cells #[.int .i64 0, .slice none 0 0, .slice none 0 0, .int .i64 0, .int .i64 (chV (bestF G d x).1), .int .i64 ((bestF G d x).2 : Int)] 100 (0, 0)) :: (R ++ R')) rfl;(·exact eT rfl);(·(repeat (first|exact eN|(apply eS;(·exact eT rfl)))));(·exact Split.plan);(·exact fun w2 hh2 => hcall w2 _ hE2 hh2);(intro Y hY))|apply block_n|apply spl_nil|((apply wlk_read rfl rfl);(·(first|((apply ex_fieldAddr')<;>(exact eT rfl))|(apply ex_loadown<;>(first|exact eT rfl|exact Bk.own InH.mem|rfl))|(apply ex_loadowns<;>(first|exact eT rfl|exact Bk.own InH.mem|(assumption))))))|(apply effq;(·(intro h_;(first|(exact absurd h_ (by decide))|(repeat (exact HKeep.refl))))))|apply wlk_nil|apply wlk_eff rfl)
    refine rnd_n (((b.gm, mobj gkV Y.es Y.ck) :: (gsn, mobj gkV Y.ses Y.sc) :: (g4, .cells #[Y.r.val Y.ps.length] 48 (0, 0)) :: (Y.r.hp (flatP Y.ps) 100 ++ Y.HI)) ++ ((d0, .deferred (some [])) :: (g7, .cells x.C 82 (0, 0)) :: (g8, .cells #[.int .i64 0, .slice none 0 0, .slice none 0 0, .int .i64 0, .int .i64 (chV (bestF G d x).1), .int .i64 ((bestF G d x).2 : Int)] 100 (0, 0)) :: (R ++ R'))) ((l, _) :: (d0, _) :: (b.gm, mobj gkV Y.es Y.ck) :: (gsn, mobj gkV Y.ses Y.sc) :: (g4, .cells #[Y.r.val Y.ps.length] 48 (0, 0)) :: (Y.r.hp (flatP Y.ps) 100 ++ (Y.HI ++ R))) List.perm_middle ⟨Y, hY.1, hY.2, rfl⟩ rfl ?_
    simp only [List.cons_append, List.append_assoc]
    (repeat (first|exact HKeep.refl|apply HKeep.keep|(apply HKeep.app;(·(repeat (first|exact Split.here|apply Split.cons))))|(apply HKeep.pick;(·(repeat (first|exact Rem.here|apply Rem.there|apply Rem.app))))|apply HKeep.drop (by first|assumption|omega)))
end Go.Proofs.Ytoogicafefennaa
/-
  Contracts: the closure of game.Plan, walked.
-/
namespace Go.Proofs.Ytoogicafefennaa
set_option linter.unusedVariables false
open Go.RowKit Go.Sy
set_option linter.unusedVariables false
set_option linter.unusedSimpArgs false
theorem markX_one_n {P : Program} {Be : Nat} {e : Env} {w0 : World} {H : Heap} {fn : Func} {rs : Array ResultVar} {v : Value} {d0 : Nat} {H' : Heap} {X : Type} {V : X → Value} {HH : X → Heap} {I : X → Prop} (hr : fn.results = rs) (hu : Upd H d0 (.deferred (some [])) (.deferred none) H') (h : Res rs P Be e w0 H' v) (hv : ∃ x, v = V x ∧ I x ∧ HKeep w0 (HH x) H') : markQ P fn Be (RetX Be w0 V HH I) [{ target := .collected d0, args := #[] }] .normal e w0 H :=
  (markX_one hr hu h hv : markQ P fn Be (RetX Be w0 V HH I) [{ target := .collected d0, args := #[] }] .ret e w0 H)
attribute [local irreducible] Calls thenQ blockQ retQ jumpQ Spc Spl Spq Ex Ev Evs Gd Upd ESub HKeep Res Res1 wlk effQ Rem SrcAt Split GS.C SplI SpcM YieldAt movesL mobj worstF bestF markQ rndQ asgQ posC PosR.C flatP followF stepO stepsO CellsAt
set_option maxRecDepth 100000 in
set_option maxHeartbeats 4000000 in
theorem follow_zero {w0 : World} {g : GaR} {G : GP} {b : BR} {g1 g2 g3 g4 g5 gsn : Nat} (hG : G.Ok) (hgn : g.dl.n = G.deps.length) : FW w0 g G b g1 g2 g3 g4 g5 gsn 0 := by
  intro s X R w hs ht hE hX hlen hh
  have hs0 : s.C[0]? = some (.int .i64 (s.turn : Int)) := GS.c0
  have hz : s.C.size = 14 := GS.size hs.ok
  have heq : (s.turn : Int) = (g.dl.n : Int) := by omega
  haveI : InH R g1 (.cells g.C 47 (0, 0)) := ⟨hE.m1⟩
  refine sp_enterDM (vs := [_, _, _, _, _, _]) Try.func65 rfl Try.ntmps65 rfl hh ?_
  repeat (first|apply spm_seq|apply spm_region rfl|apply spm_ret|((apply spm_cond_t);(·exact eT rfl);(·(rfl)))|apply then_n|apply spl_nil|apply then_r|((apply spl_pure rfl);(·(first|(apply ex_eqlT heq;(·exact eT rfl);(·exact eT rfl))|((first|apply ex_fieldAddr'|apply ex_len)<;>(exact eT rfl))|(apply ex_loadown<;>(first|exact eT rfl|exact Bk.own InH.mem|rfl|assumption)))))|(apply spl_box;(·exact eT rfl);(·rfl);intro _ _))
  refine markX_none rfl (by (exact Res.none_)) ?_
  exact ⟨X, rfl, ⟨hX, by unfold followF; rfl⟩, by (repeat (first|exact HKeep.refl|(apply HKeep.app;(·(repeat (first|exact Split.here|apply Split.cons))))|(apply HKeep.pick;(·(repeat (first|exact Rem.here|apply Rem.there))))|apply HKeep.drop (by first|assumption|omega)))⟩
set_option maxRecDepth 100000 in
set_option maxHeartbeats 8000000 in
theorem follow_next {w0 : World} {g : GaR} {G : GP} {b : BR} {g1 g2 g3 g4 g5 gsn : Nat} {d : Nat} (hG : G.Ok) (hgn : g.dl.n = G.deps.length) (hm0 : 0 < G.m) (hgm : g.sl.n = G.m) (hbm : b.sl.n = G.m) (hB : BC w0 G b d) (hF : FW w0 g G b g1 g2 g3 g4 g5 gsn d) : FW w0 g G b g1 g2 g3 g4 g5 gsn (d + 1) := by
  intro s X R w hs ht hE hX hlen hh
  have hs0 : s.C[0]? = some (.int .i64 (s.turn : Int)) := GS.c0
  have hz : s.C.size = 14 := GS.size hs.ok
  have hneq : (s.turn : Int) ≠ (g.dl.n : Int) := by omega
  rw [follow_succ] at hlen
  haveI : InH R g1 (.cells g.C 47 (0, 0)) := ⟨hE.m1⟩
  haveI : InH R g2 (.cells b.C 78 (0, 0)) := ⟨hE.m2⟩
  refine sp_enterDM (vs := [_, _, _, _, _, _]) Try.func65 rfl Try.ntmps65 rfl hh ?_
  repeat (first|apply spm_skip|apply spm_seq|apply spm_region rfl|apply spm_block|(apply spm_cond_f;(·exact eT rfl);(·(rfl)))|(apply spl_callh rfl;(·(repeat (first|exact eN|(apply eS;(·exact eT rfl)))));(·exact fun w' hh => moves_c);(rintro ⟨y1, y2⟩ - hfr;simp only [List.cons_append, List.nil_append]))|apply then_n|apply spl_nil|((apply spl_pure rfl);(·(first|(apply ex_eqlF hneq;(·exact eT rfl);(·exact eT rfl))|((first|apply ex_fieldAddr'|apply ex_len)<;>(exact eT rfl))|(apply ex_loadown<;>(first|exact eT rfl|exact Bk.own InH.mem|rfl|assumption))|(apply ex_loadowns<;>(first|exact eT rfl|exact Bk.own InH.mem|(first|rfl|assumption))))))|(apply spl_box;(·exact eT rfl);(·rfl);intro _ _))
  rename_i g6 hg6
  have hy1 : w0.heap.size ≤ y1 := hfr (y1, .cells s.C 82 (0, 0)) (.head _)
  have hy2 : w0.heap.size ≤ y2 := hfr (y2, .cells b.C 78 (0, 0)) (.tail _ (.head _))
  refine SpcM.sub (e := (18, true, .func (.func 93) #[] #[.pointer (some ⟨y1, 0, none⟩), .pointer (some ⟨y2, 0, none⟩)]) :: [(1, true, .pointer (some ⟨g1, 0, none⟩)), (2, true, .pointer (some ⟨g2, 0, none⟩)), (3, true, .pointer (some ⟨g3, 0, none⟩)), (4, true, .pointer (some ⟨g4, 0, none⟩)), (5, true, .pointer (some ⟨g5, 0, none⟩))])
    (H := (b.gm, mobj gkV X.es X.ck) :: (gsn, mobj gkV X.ses X.sc) :: (g4, .cells #[X.r.val X.ps.length] 48 (0, 0)) :: (X.r.hp (flatP X.ps) 100 ++ (X.HI ++ (R ++ [(y1, .cells s.C 82 (0, 0)), (y2, .cells b.C 78 (0, 0))])))) ?_ (by (repeat (first|exact ESub.nil|apply ESub.cons rfl))) (by (repeat (first|exact HKeep.refl|apply HKeep.keep|(apply HKeep.app;(·(repeat (first|exact Split.here|exact Split.all|apply Split.cons))))|(apply HKeep.pick;(·(repeat (first|exact Rem.here|apply Rem.there))))|apply HKeep.drop (by first|assumption|omega))))
  refine spm_rangeFunc (gf := 93) (caps := [.pointer (some ⟨y1, 0, none⟩), .pointer (some ⟨y2, 0, none⟩)]) (X := PSt × GS) (V := fun _ => .tuple #[]) (st := fun _ => .ready) (pend := fun _ => none)
    (HX := fun x => (b.gm, mobj gkV x.1.es x.1.ck) :: (gsn, mobj gkV x.1.ses x.1.sc) :: (g4, .cells #[x.1.r.val x.1.ps.length] 48 (0, 0)) :: (x.1.r.hp (flatP x.1.ps) 100 ++ (x.1.HI ++ (R ++ [(y1, .cells x.2.C 82 (0, 0)), (y2, .cells b.C 78 (0, 0))])))) (I := fun x => PInv G w0.heap.size x.1 ∧ x.1.out = followF G (d + 1) s X.out) (by (exact eT rfl)) ?_ ?_
  · intro fn tmps l d0 hfr2 hl hd0 w1 hw1
    have hfr' : Fr 57 [(1, true, .pointer (some ⟨g1, 0, none⟩)), (2, true, .pointer (some ⟨g2, 0, none⟩)), (3, true, .pointer (some ⟨g3, 0, none⟩)), (4, true, .pointer (some ⟨g4, 0, none⟩)), (5, true, .pointer (some ⟨g5, 0, none⟩))] { tmps := tmps, defers := [] } := hfr2.sub (by (repeat (first|exact ESub.nil|apply ESub.cons rfl)))
    obtain ⟨rec, hrec⟩ : ∃ rec : Loop, rec = { state := .ready, pending := none, fn, tmps, params := #[19], assign := (rangeFo Try.f65).1, body := (rangeFo Try.f65).2, defers := d0 } := ⟨_, rfl⟩
    have hst : rec.state = .ready := by rw [hrec]
    have hps : rec.params = #[19] := by rw [hrec]
    have htm : rec.tmps = tmps := by rw [hrec]
    have has : rec.assign = (rangeFo Try.f65).1 := by rw [hrec]
    obtain ⟨J, hJd⟩ : ∃ J : Nat → Heap → Prop, J = fun i y => ∃ Y, PInv G w0.heap.size Y ∧ Y.out = stepsO G d (movesL G.m s) i X.out ∧ y = (l, .loop rec) :: (d0, .deferred (some [])) :: (b.gm, mobj gkV Y.es Y.ck) :: (gsn, mobj gkV Y.ses Y.sc) :: (g4, .cells #[Y.r.val Y.ps.length] 48 (0, 0)) :: (Y.r.hp (flatP Y.ps) 100 ++ (Y.HI ++ R)) := ⟨_, rfl⟩
    have hY : ∀ i x H R', J i H → (movesL G.m s)[i]? = some x → ∀ w', Hp w0.heap.size w0 (H ++ R') w' → YieldAt Fence.wide 0 Try.prog l #[.agg x.C] w' (RetX w0.heap.size w0 (fun _ : Heap => .bool true) (fun y => y ++ R') (fun y => J (i + 1) y)) := by
      intro i x H R' hJ hx w' hw'
      rw [hJd] at hJ ⊢
      obtain ⟨Y, hYI, hYo, rfl⟩ := hJ
      obtain ⟨hx1, hx2⟩ := moves_in hs (List.mem_of_getElem? hx)
      have hsu := stepsO_succ (G := G) (d := d) (o := X.out) hx
      have hle := stepsO_len (G := G) (d := d) (i := i + 1) (l := movesL G.m s) (o := X.out)
      have h1 := follow_round (l := l) (X := Y) (R := R) (R' := R') hG hm0 hgm hB hF hx1 (by omega) hYI (by rw [hYo, ← hsu]; exact Nat.le_trans hle hlen) hE hrec
      rw [← has, hYo, ← hsu] at h1
      exact yield_round hst hps (by rw [htm]; exact hfr') rfl h1 w' (by simpa only [List.cons_append, List.append_assoc] using hw')
    have hc := iter_c (gs := y1) (gb := y2) hG hs hbm hY (H := (l, .loop rec) :: (d0, .deferred (some [])) :: (b.gm, mobj gkV X.es X.ck) :: (gsn, mobj gkV X.ses X.sc) :: (g4, .cells #[X.r.val X.ps.length] 48 (0, 0)) :: (X.r.hp (flatP X.ps) 100 ++ (X.HI ++ R))) (by rw [hJd]; exact ⟨X, hX, by unfold stepsO; rfl, rfl⟩) (w := w1) (by rw [hrec]; simp only [List.cons_append, List.append_assoc]; exact hw1)
    refine hc.mono ?_
    rintro en w2 ⟨⟨s', H'⟩, rfl, hJ2, hp⟩
    rw [hJd] at hJ2
    obtain ⟨Y, hYI, hYo, hH'⟩ := hJ2
    dsimp only at hH' hp
    subst hH'
    rw [hrec] at hp
    exact ⟨(Y, s'), rfl, ⟨hYI, by rw [follow_succ]; exact hYo⟩, by have hp' := hp; simp only [List.cons_append, List.append_assoc] at hp'; exact hp'⟩
  · rintro d0 ⟨Y, s'⟩ hI hd0
    refine ⟨by simp, ?_⟩
    dsimp only at hI ⊢
    repeat (apply block_n)
    refine markX_one_n rfl Upd.here (by (exact Res.none_)) ?_
    exact ⟨Y, rfl, hI, HKeep.drop hd0 (HKeep.keep (HKeep.keep (HKeep.keep (HKeep.app Split.here (HKeep.app Split.here (hkeep_tail fun p hp => by
      rcases List.mem_cons.1 hp with rfl | hp
      · exact hy1
      · rw [List.mem_singleton.1 hp]; exact hy2))))))⟩
theorem follow_all {w0 : World} {g : GaR} {G : GP} {b : BR} {g1 g2 g3 g4 g5 gsn : Nat} {ds : List (Sl × List Nat)} (hG : G.Ok) (hgn : g.dl.n = G.deps.length) (hm0 : 0 < G.m) (hgm : g.sl.n = G.m) (hbm : b.sl.n = G.m) (hg : RdGame w0 w0.heap.size G b ds) (hgmm : w0.heap.size ≤ b.gm) : ∀ d, FW w0 g G b g1 g2 g3 g4 g5 gsn d
  | 0 => follow_zero hG hgn
  | d + 1 => follow_next hG hgn hm0 hgm hbm (best_succ hG hg hgmm (worst_all hG hg hgmm d)) (follow_all hG hgn hm0 hgm hbm hg hgmm d)
end Go.Proofs.Ytoogicafefennaa
/-
  Contracts: game.Plan.
-/
namespace Go.Proofs.Ytoogicafefennaa
set_option linter.unusedVariables false
open Go.RowKit Go.Sy
set_option linter.unusedVariables false
set_option linter.unusedSimpArgs false
instance zf_follow : TZero Try.prog 115 .nilFunc := ⟨by kernel_rfl⟩
structure PlR where
  gr : Nat
  cap : Nat
  tail : List Value
  ps : List PosR
  ps0 : List PosR
  HI : Heap
theorem pst0 {G : GP} {b : Nat} : PInv G b ⟨[], 0, [], 0, RowS.start, [], [], []⟩ := ⟨KI.nil, SeenM.nil, RowS.ok_start, RowS.fresh_start, fun p hp => (by cases hp), rfl, fun i x p h => by simp at h⟩
theorem PInv.row_some {G : GP} {b : Nat} {X : PSt} (h : PInv G b X) (hn : 0 < X.out.length) : ∃ g cap tl, X.r = ⟨some g, cap, tl⟩ := by
  obtain ⟨g, cap, tl, he⟩ := RowS.some_of h.row (by rw [h.len]; exact hn)
  exact ⟨g, cap, tl, he⟩
attribute [local irreducible] Calls thenQ blockQ retQ jumpQ Spc Spl Spq Ex Ev Evs Gd Upd ESub HKeep Res Res1 wlk effQ Rem SrcAt Split GS.C movesL mobj worstF bestF posC PosR.C flatP followF stepO stepsO CellsAt
set_option maxRecDepth 100000 in
set_option maxHeartbeats 16000000 in
theorem plan_c {w0 : World} {g : GaR} {ns : List Nat} {ds : List (Sl × List Nat)} {B : Nat} (h : RdGa w0 w0.heap.size g) (hv : validG g = true) (hsm : sizeN g g.sl.n ≤ 200000) (hp : Plain g ns ds B) (hm0 : 0 < ns.length) (hlen : (followF (gpOf ns ds) ds.length (gs0 ns B) []).length ≤ 12) (hpos : 0 < (followF (gpOf ns ds) ds.length (gs0 ns B) []).length) :
    Calls Try.prog 39 #[.agg g.C] w0 (RetH w0 (fun x : PlR => .tuple #[.slice (some ⟨x.gr, 0, none⟩) x.ps.length x.cap, .int .i64 0]) (fun x => (x.gr, .cells (flatP x.ps ++ x.tail).toArray 100 (0, 0)) :: x.HI)
      (fun x => x.ps.Perm x.ps0 ∧ x.ps0.length = (followF (gpOf ns ds) ds.length (gs0 ns B) []).length ∧ ∀ (i : Nat) (y : GS) (p : PosR), (followF (gpOf ns ds) ds.length (gs0 ns B) [])[i]? = some y → x.ps0[i]? = some p → PosFor (gpOf ns ds) x.HI y p)) := by
  have hk := gaOk_of hv
  have hG := hp.ok hk h
  have hs0 := hp.start hk h
  have hml : ns.length = g.sl.n := by
    have := h.st.len
    rw [hp.ns, List.length_map] at this
    exact this
  have hdl : ds.length = g.dl.n := by
    have := h.rows.len
    rw [hp.ds, List.length_map] at this
    exact this
  have hN : (gpOf ns ds).deps.length = ds.length := by show (ds.map Prod.snd).length = _; rw [List.length_map]
  have hz14 : (gs0 ns B).C.size = 14 := GS.size hs0.ok
  have hz4 : ∀ gm : Nat, (BR.C (⟨g.sl, g.dl, g.bd, gm⟩ : BR)).size = 4 := fun gm => rfl
  have hmk : mobj gkV [] 0 = Obj.map #[] 0 := by unfold mobj; rfl
  have hne : ¬ ((0 : Int) ≠ 0) := fun h => h rfl
  have h00 : (0 : Int) = 0 := rfl
  have hset := fun (H : Heap) (w' : World) (hh : Hp w0.heap.size w0 H w') => set_c (h.hp hh) hv hsm hp.ns hp.bd
  refine sp_enter (vs := [_]) Try.func39 rfl Try.ntmps39 rfl ?_
  repeat (first|(apply spl_callh rfl;(·(repeat (first|exact eN|(apply eS;(·exact eT rfl)))));(·exact fun w' hh => hset _ w' hh);(rintro gm htr hfm;have hgm : w0.heap.size ≤ gm := hfm _ (.head _);simp only [List.cons_append, List.nil_append]))|(apply sp_cond_f;(·exact eT rfl);(·rfl))|(apply spl_makeMap rfl;intro gsn hgsn)|apply then_n|apply sp_seq|apply sp_region|apply spl_nil|apply sp_skip|((apply spl_pure rfl);(·(first|(apply ex_neqF h00;(·exact eT rfl);(·exact eC))|((first|apply ex_move|apply ex_assign)<;>(first|exact eT rfl|exact eC))|((first|apply ex_loadown|apply ex_extract)<;>(first|exact eT rfl|exact Bk.own InH.mem|rfl))|(apply ex_loadowns<;>(first|exact eT rfl|exact Bk.own InH.mem|(first|rfl|assumption)))|(apply ex_makeFunc<;>(((repeat (first|exact eN|(apply eS;(·exact eT rfl))));done))))))|(apply spl_box;(·exact eT rfl);(·rfl);intro _ _)|(apply spl_alloc rfl;intro _ _)|(apply spl_store1;(·exact eT rfl);(·exact eT rfl);(·rfl);(·(repeat (exact Upd.here)));(·rfl))|(apply spl_stores;(·exact eT rfl);(·exact eT rfl);(·(repeat (first|exact Upd.here|apply Upd.there)));(·(rfl));(·(first|rfl|assumption));(·exact Ones.one)))
  rename_i g1 hg1 g2 hg2 gst hgst g4 hg4 g3 hg3 g5 hg5
  rw [← hmk]
  have hE : PEnv g (⟨g.sl, g.dl, g.bd, gm⟩ : BR) g1 g2 g3 g4 g5 gsn ([(g1, .cells g.C 47 (0, 0)), (g2, .cells (BR.C ⟨g.sl, g.dl, g.bd, gm⟩) 78 (0, 0)), (g3, .cells #[.map (some gsn)] 114 (0, 0)), (g5, .cells #[.func (.func 65) #[] #[.pointer (some ⟨g1, 0, none⟩), .pointer (some ⟨g2, 0, none⟩), .pointer (some ⟨g3, 0, none⟩), .pointer (some ⟨g4, 0, none⟩), .pointer (some ⟨g5, 0, none⟩)]] 115 (0, 0))]) := ⟨.head _, .tail _ (.head _), .tail _ (.tail _ (.head _)), .tail _ (.tail _ (.tail _ (.head _)))⟩
  have hfol := fun (w2 : World) (hh2 : Hp w0.heap.size w0 ((gm, mobj gkV [] 0) :: (gsn, mobj gkV [] 0) :: (g4, .cells #[.slice none 0 0] 48 (0, 0)) :: [(g1, .cells g.C 47 (0, 0)), (g2, .cells (BR.C ⟨g.sl, g.dl, g.bd, gm⟩) 78 (0, 0)), (g3, .cells #[.map (some gsn)] 114 (0, 0)), (g5, .cells #[.func (.func 65) #[] #[.pointer (some ⟨g1, 0, none⟩), .pointer (some ⟨g2, 0, none⟩), .pointer (some ⟨g3, 0, none⟩), .pointer (some ⟨g4, 0, none⟩), .pointer (some ⟨g5, 0, none⟩)]] 115 (0, 0))]) w2) => (follow_all (g1 := g1) (g2 := g2) (g3 := g3) (g4 := g4) (g5 := g5) (gsn := gsn) (b := (⟨g.sl, g.dl, g.bd, gm⟩ : BR)) hG (by rw [hN, hdl]) hm0 hml.symm hml.symm (hp.rd (gm := gm) h) hgm ds.length (gs0 ns B) ⟨[], 0, [], 0, RowS.start, [], [], []⟩ [(g1, .cells g.C 47 (0, 0)), (g2, .cells (BR.C ⟨g.sl, g.dl, g.bd, gm⟩) 78 (0, 0)), (g3, .cells #[.map (some gsn)] 114 (0, 0)), (g5, .cells #[.func (.func 65) #[] #[.pointer (some ⟨g1, 0, none⟩), .pointer (some ⟨g2, 0, none⟩), .pointer (some ⟨g3, 0, none⟩), .pointer (some ⟨g4, 0, none⟩), .pointer (some ⟨g5, 0, none⟩)]] 115 (0, 0))] w2 hs0 (by rw [hN]; exact Nat.zero_add _) hE pst0 (Nat.le_trans hlen (by decide)) hh2).mono (R' := RetX w0.heap.size w0 (fun _ : PSt => .tuple #[]) (fun Y => ((gm, mobj gkV Y.es Y.ck) :: (gsn, mobj gkV Y.ses Y.sc) :: (g4, .cells #[Y.r.val Y.ps.length] 48 (0, 0)) :: (Y.r.hp (flatP Y.ps) 100 ++ Y.HI)) ++ [(g1, .cells g.C 47 (0, 0)), (g2, .cells (BR.C ⟨g.sl, g.dl, g.bd, gm⟩) 78 (0, 0)), (g3, .cells #[.map (some gsn)] 114 (0, 0)), (g5, .cells #[.func (.func 65) #[] #[.pointer (some ⟨g1, 0, none⟩), .pointer (some ⟨g2, 0, none⟩), .pointer (some ⟨g3, 0, none⟩), .pointer (some ⟨g4, 0, none⟩), .pointer (some ⟨g5, 0, none⟩)]] 115 (0, 0))]) (fun Y => PInv (gpOf ns ds) w0.heap.size Y ∧ Y.out = followF (gpOf ns ds) ds.length (gs0 ns B) [])) (by
    rintro en w' ⟨Y, rfl, hI, hp⟩
    exact ⟨Y, rfl, hI, by simpa only [List.cons_append, List.append_assoc] using hp⟩)
  refine Spl.keep (H' := (gm, mobj gkV [] 0) :: (gsn, mobj gkV [] 0) :: (g4, .cells #[.slice none 0 0] 48 (0, 0)) :: [(g1, .cells g.C 47 (0, 0)), (g2, .cells (BR.C ⟨g.sl, g.dl, g.bd, gm⟩) 78 (0, 0)), (g3, .cells #[.map (some gsn)] 114 (0, 0)), (g5, .cells #[.func (.func 65) #[] #[.pointer (some ⟨g1, 0, none⟩), .pointer (some ⟨g2, 0, none⟩), .pointer (some ⟨g3, 0, none⟩), .pointer (some ⟨g4, 0, none⟩), .pointer (some ⟨g5, 0, none⟩)]] 115 (0, 0))]) (by (repeat (first|exact HKeep.refl|apply HKeep.keep|(apply HKeep.pick;(·(repeat (first|exact Rem.here|apply Rem.there))))|apply HKeep.drop (by first|assumption|omega)))) ?_
  apply spl_callMw (f:=65) (first:=[]) (cap:=[.pointer (some ⟨g1, 0, none⟩), .pointer (some ⟨g2, 0, none⟩), .pointer (some ⟨g3, 0, none⟩), .pointer (some ⟨g4, 0, none⟩), .pointer (some ⟨g5, 0, none⟩)]) (X:=PSt) (V:=fun _ => .tuple #[]) (A:=(gm, mobj gkV [] 0) :: (gsn, mobj gkV [] 0) :: (g4, .cells #[.slice none 0 0] 48 (0, 0)) :: []) (AA:=fun Y => (gm, mobj gkV Y.es Y.ck) :: (gsn, mobj gkV Y.ses Y.sc) :: (g4, .cells #[Y.r.val Y.ps.length] 48 (0, 0)) :: (Y.r.hp (flatP Y.ps) 100 ++ Y.HI)) (I:=fun Y => PInv (gpOf ns ds) w0.heap.size Y ∧ Y.out = followF (gpOf ns ds) ds.length (gs0 ns B) []) (R:=[(g1, .cells g.C 47 (0, 0)), (g2, .cells (BR.C ⟨g.sl, g.dl, g.bd, gm⟩) 78 (0, 0)), (g3, .cells #[.map (some gsn)] 114 (0, 0)), (g5, .cells #[.func (.func 65) #[] #[.pointer (some ⟨g1, 0, none⟩), .pointer (some ⟨g2, 0, none⟩), .pointer (some ⟨g3, 0, none⟩), .pointer (some ⟨g4, 0, none⟩), .pointer (some ⟨g5, 0, none⟩)]] 115 (0, 0))]) rfl
  · (exact eT rfl)
  · (repeat (first|exact eN|(apply eS;(·exact eT rfl))))
  · exact Split.here (A := (gm, mobj gkV [] 0) :: (gsn, mobj gkV [] 0) :: (g4, .cells #[.slice none 0 0] 48 (0, 0)) :: [])
  · exact fun w2 hh2 => hfol w2 hh2
  rintro ⟨es, ck, ses, sc, r, ps, HI, out⟩ ⟨hI, hout⟩
  dsimp only at hout
  subst hout
  obtain ⟨gr, cap, tl, hr⟩ := hI.row_some hpos
  dsimp only at hr
  subst hr
  have hpl : ps.length = (followF (gpOf ns ds) ds.length (gs0 ns B) []).length := hI.len
  have hgr : w0.heap.size ≤ gr := hI.fr gr rfl
  have hhi : ∀ p ∈ HI, w0.heap.size ≤ p.1 := hI.hi
  have hP : ∀ p ∈ ps, PosIn HI p := fun p hp => by
    obtain ⟨i, hi⟩ := List.getElem?_of_mem hp
    have hlt : i < (followF (gpOf ns ds) ds.length (gs0 ns B) []).length := by rw [← hpl]; exact (List.getElem?_eq_some_iff.1 hi).1
    exact (hI.pos i _ p (List.getElem?_eq_getElem hlt) hi).inn
  refine Spl.keep (H' := (gr, .cells (flatP ps ++ tl).toArray 100 (0, 0)) :: (g4, .cells #[.slice (some ⟨gr, 0, none⟩) ps.length cap] 48 (0, 0)) :: (HI ++ [(g1, .cells g.C 47 (0, 0))])) (by
    show HKeep w0 _ (((gm, mobj gkV es ck) :: (gsn, mobj gkV ses sc) :: (g4, .cells #[.slice (some ⟨gr, 0, none⟩) ps.length cap] 48 (0, 0)) :: ((gr, .cells (flatP ps ++ tl).toArray 100 (0, 0)) :: HI)) ++ [(g1, .cells g.C 47 (0, 0)), (g2, .cells (BR.C ⟨g.sl, g.dl, g.bd, gm⟩) 78 (0, 0)), (g3, .cells #[.map (some gsn)] 114 (0, 0)), (g5, .cells #[.func (.func 65) #[] #[.pointer (some ⟨g1, 0, none⟩), .pointer (some ⟨g2, 0, none⟩), .pointer (some ⟨g3, 0, none⟩), .pointer (some ⟨g4, 0, none⟩), .pointer (some ⟨g5, 0, none⟩)]] 115 (0, 0))])
    simp only [List.cons_append, List.append_assoc]
    (repeat (first|exact HKeep.refl|(apply HKeep.app;(·(repeat (first|exact Split.here|apply Split.cons))))|(apply HKeep.pick;(·(repeat (first|exact Rem.here|apply Rem.there))))|apply HKeep.drop (by first|assumption|omega)))) ?_
  repeat (first|(apply spl_callM (f:=71) (X:=List PosR) (V:=fun _ => .tuple #[]) (A:=[(gr, .cells (flatP ps ++ tl).toArray 100 (0, 0))]) (AA:=fun xs => [(gr, .cells (flatP xs ++ tl).toArray 100 (0, 0))]) (I:=fun xs => xs.Perm ps) (R:=(g4, .cells #[.slice (some ⟨gr, 0, none⟩) ps.length cap] 48 (0, 0)) :: (HI ++ [(g1, .cells g.C 47 (0, 0))])) rfl;(·(repeat (first|exact eN|(apply eS;(·(first|exact eT rfl|exact eF))))));(·exact Split.one);(·exact fun w' hh => sort_c (cap := cap) rfl (by omega) hgr (fun p hp => (hP p hp).mono fun q hq => .tail _ (List.mem_append.2 (.inl hq))) hh);(rintro xs hxs;simp only [List.cons_append, List.nil_append]))|apply then_n|apply sp_seq|apply sp_region|apply spl_nil|apply sp_ret|((apply spl_pure rfl);(·(first|((apply ex_assign)<;>(first|exact eT rfl|exact eC))|((apply ex_loadown)<;>(first|exact eT rfl|exact Bk.own InH.mem|rfl))))))
  (apply retH_ok rfl;(·((apply Res.ofTwo<;>((apply Res1.tmp;(·rfl)))))))
  refine ⟨⟨gr, cap, tl, xs, ps, HI⟩, by rw [← hxs.length_eq]; rfl, ⟨hxs, hpl, hI.pos⟩, HKeep.keep (HKeep.drop hg4 (hkeep_tail fun p hp => by rw [List.mem_singleton.1 hp]; exact hg1))⟩
end Go.Proofs.Ytoogicafefennaa
/-
  The plan of the small game: facts that are computed.
-/
namespace Go.Proofs.Ytoogicafefennaa
set_option linter.unusedVariables false
open Go.RowKit Go.Sy
set_option linter.unusedVariables false
set_option linter.unusedSimpArgs false
def GZ : GP := ⟨2, [[0, 1], [0, 1], [0, 1]]⟩
def sZ : GS := gs0 [1, 2] 1
def planZ : List GS := followF GZ 3 sZ []
def okZ (x : GS) : Bool := decide (x.turn < 3) && (decide (x.budget ≤ 1) && (decide (x.starts.length = 6) && (decide (x.failed.length = 6) && (x.starts.all (fun n => decide (n ≤ 2)) && (decide (x.starts.drop 2 = [0, 0, 0, 0]) && decide (x.failed.drop 2 = [false, false, false, false]))))))
def oneZ (c : Option Nat) : Nat := match c with | none => 1 | some _ => 0
def chkZ (x : GS) : Bool :=
  let p := bestF GZ (2 - x.turn) x
  if (choS x p.1).turn = 3 then decide (oneZ p.1 ≤ p.2) else (movesL 2 (choS x p.1)).all fun y => decide (y ∈ planZ) && decide ((bestF GZ (2 - y.turn) y).2 + oneZ p.1 ≤ p.2)
set_option maxRecDepth 100000 in
theorem planZ_len : planZ.length = 12 := by kernel_rfl
set_option maxRecDepth 100000 in
theorem planZ_ok : planZ.all okZ = true := by kernel_rfl
set_option maxRecDepth 100000 in
theorem planZ_chk : planZ.all chkZ = true := by kernel_rfl
set_option maxRecDepth 100000 in
theorem planZ_0 : (movesL 2 sZ).all (fun y => decide (y ∈ planZ) && decide ((bestF GZ (2 - y.turn) y).2 ≤ 2)) = true := by kernel_rfl
set_option maxRecDepth 100000 in
theorem valueZ : worstF GZ 3 sZ = 2 := by kernel_rfl
theorem planZ_mem {x : GS} (h : x ∈ planZ) : x.Ok ∧ x.turn < 3 ∧ x.starts.drop 2 = [0, 0, 0, 0] ∧ x.failed.drop 2 = [false, false, false, false] := by
  have h1 := List.all_eq_true.1 planZ_ok x h
  unfold okZ at h1
  simp only [Bool.and_eq_true, decide_eq_true_eq] at h1
  obtain ⟨q1, q2, q3, q4, q5, q6, q7⟩ := h1
  refine ⟨⟨by omega, by omega, q3, q4, fun n hn => ?_⟩, q1, q6, q7⟩
  have := of_decide_eq_true (List.all_eq_true.1 q5 n hn)
  omega
end Go.Proofs.Ytoogicafefennaa
/-
  The plan of the small game: it is accepted for two, and for no less; it loses two.
-/
namespace Go.Proofs.Ytoogicafefennaa
set_option linter.unusedVariables false
open Go.RowKit Go.Sy
set_option linter.unusedVariables false
set_option linter.unusedSimpArgs false
theorem shape6 {α : Type} {l : List α} {z : α} (h : l.length = 6) (hd : l.drop 2 = [z, z, z, z]) : ∃ a b, l = [a, b, z, z, z, z] := by
  match l, h with
  | [a, b, c, d, e, f], _ =>
    have hd' : [c, d, e, f] = [z, z, z, z] := hd
    injection hd' with h1 h2
    injection h2 with h2 h3
    injection h3 with h3 h4
    injection h4 with h4 _
    subst h1 h2 h3 h4
    exact ⟨a, b, rfl⟩
theorem mask2 : ∀ a b : Bool, maskN [a, b] 2 = maskN [a, b, false, false, false, false] 6 := of_decide_eq_true (by kernel_rfl)
theorem for_sit {R : Heap} {x : GS} {p : PosR} (h : PosFor GZ R x p) (hx : x ∈ planZ) : sitOk p = true ∧ sitJ p = jOf 2 x ∧ sitP p = pOf 2 x := by
  obtain ⟨hok, -, h2, h3⟩ := planZ_mem hx
  obtain ⟨a, b, hs⟩ := shape6 hok.l1 h2
  obtain ⟨c, d, hf⟩ := shape6 hok.l2 h3
  have hsn : p.sl.n = 2 := h.sn
  have hfn : p.fl.n = 2 := h.fn
  have hst : p.starts = [(a : Int), (b : Int)] := by rw [h.st, hs]; rfl
  have hfl : p.failed = [c, d] := by rw [h.fl, hf]; rfl
  have h1 : sitOk p = true := by unfold sitOk; rw [hsn, hfn]; rfl
  refine ⟨h1, ?_, ?_⟩
  · unfold sitJ
    rw [if_pos h1, h.t, h.b, hsn, hfn, hst, hfl, mask2]
    unfold jOf j0
    rw [hs, hf]
    all_goals rfl
  · unfold sitP
    rw [if_pos h1, h.t, h.b, hsn, hst, hfl]
    unfold pOf q0
    rw [hs, hf]
    all_goals rfl
/-- A list of positions that stands for the plan. -/
structure PlanOf (ps : List PosR) : Prop where
  all : ∀ p ∈ ps, ∃ R y, y ∈ planZ ∧ PosFor GZ R y p
  has : ∀ y ∈ planZ, ∃ R, ∃ p ∈ ps, PosFor GZ R y p
theorem planOf {ps ps0 : List PosR} {R : Heap} (hperm : ps.Perm ps0) (hl : ps0.length = planZ.length) (hpos : ∀ (i : Nat) (y : GS) (p : PosR), planZ[i]? = some y → ps0[i]? = some p → PosFor GZ R y p) : PlanOf ps := by
  refine ⟨fun p hp => ?_, fun y hy => ?_⟩
  · obtain ⟨i, hi⟩ := List.getElem?_of_mem (hperm.mem_iff.1 hp)
    have hlt : i < planZ.length := by rw [← hl]; exact (List.getElem?_eq_some_iff.1 hi).1
    exact ⟨R, planZ[i], List.getElem_mem hlt, hpos i _ p (List.getElem?_eq_getElem hlt) hi⟩
  · obtain ⟨i, hi⟩ := List.getElem?_of_mem hy
    have hlt : i < ps0.length := by rw [hl]; exact (List.getElem?_eq_some_iff.1 hi).1
    exact ⟨R, ps0[i], hperm.mem_iff.2 (List.getElem_mem hlt), hpos i y _ hi (List.getElem?_eq_getElem hlt)⟩
theorem look_J {ps : List PosR} (h : PlanOf ps) {x : GS} (hx : x ∈ planZ) : ∃ p, lookG ps 2 x = some p ∧ p.choice = chV (bestF GZ (2 - x.turn) x).1 ∧ p.bound = ((bestF GZ (2 - x.turn) x).2 : Int) := by
  obtain ⟨R, p, hp, hf⟩ := h.has x hx
  obtain ⟨q1, q2, -⟩ := for_sit hf hx
  have hs : (ps.find? fun p => sitOk p && decide (sitJ p = jOf 2 x)).isSome = true := List.find?_isSome.2 ⟨p, hp, by rw [q1, decide_eq_true q2]; rfl⟩
  obtain ⟨q, hq⟩ := Option.isSome_iff_exists.1 hs
  have hqm := List.mem_of_find?_eq_some hq
  have hqs := List.find?_some hq
  obtain ⟨R2, y, hy, hyf⟩ := h.all q hqm
  obtain ⟨r1, r2, -⟩ := for_sit hyf hy
  rw [Bool.and_eq_true, decide_eq_true_iff, r2] at hqs
  have hxy := jOf_inj (planZ_mem hy).1 (planZ_mem hx).1 hqs.2
  subst hxy
  exact ⟨q, hq, hyf.ch, hyf.bd⟩
theorem look_Q {ps : List PosR} (h : PlanOf ps) {x : GS} (hx : x ∈ planZ) : lookQ ps 2 x = some (chV (bestF GZ (2 - x.turn) x).1) := by
  obtain ⟨R, p, hp, hf⟩ := h.has x hx
  obtain ⟨q1, -, q2⟩ := for_sit hf hx
  have hs : (ps.find? (isAt (pOf 2 x))).isSome = true := List.find?_isSome.2 ⟨p, hp, by unfold isAt; rw [q1, decide_eq_true q2]; rfl⟩
  obtain ⟨q, hq⟩ := Option.isSome_iff_exists.1 hs
  have hqm := List.mem_of_find?_eq_some hq
  have hqs := List.find?_some hq
  obtain ⟨R2, y, hy, hyf⟩ := h.all q hqm
  obtain ⟨r1, -, r2⟩ := for_sit hyf hy
  unfold isAt at hqs
  rw [Bool.and_eq_true, decide_eq_true_iff, r2] at hqs
  have hxy : y = x := by
    have h1 := hqs.2
    obtain ⟨t, st, fl, b⟩ := y
    obtain ⟨t', st', fl', b'⟩ := x
    unfold pOf at h1
    injection h1 with h1 h2 h3 h4 h5
    dsimp only at h1 h3 h4 h5
    have e1 : t = t' := by omega
    have e2 : b = b' := by omega
    rw [e1, e2, cast_inj h4, h5]
  subst hxy
  unfold lookQ lookC
  rw [hq]
  show some q.choice = _
  rw [hyf.ch]
  all_goals rfl
theorem next_cho {x : GS} {p : PosR} {c : Option Nat} (h : p.choice = chV c) : nextS x p = choS x c ∧ lostN p = (oneZ c : Nat) := by
  cases c with
  | none =>
    have h' : p.choice = -1 := h
    unfold nextS lostN
    rw [if_pos h', if_pos h']
    exact ⟨rfl, rfl⟩
  | some v =>
    have h' : p.choice = (v : Int) := h
    have hne : ¬ p.choice = -1 := by omega
    unfold nextS lostN
    rw [if_neg hne, if_neg hne, h', Int.toNat_natCast]
    exact ⟨rfl, rfl⟩
theorem okCh_best {x : GS} {p : PosR} {d : Nat} {G : GP} (h : p.choice = chV (bestF G d x).1) : okCh G x p := by
  cases hc : (bestF G d x).1 with
  | none => rw [hc] at h; exact .inl h
  | some v =>
    rw [hc] at h
    obtain ⟨q1, q2⟩ := best_choice hc
    exact .inr ⟨v, h, q1, q2⟩
theorem acceptZ {ps : List PosR} (h : PlanOf ps) : acceptP GZ (lookG ps 2) 2 sZ := by
  have h0 : ∀ y ∈ movesL 2 sZ, y ∈ planZ ∧ (bestF GZ (2 - y.turn) y).2 ≤ 2 := fun y hy => by
    have := List.all_eq_true.1 planZ_0 y hy
    rw [Bool.and_eq_true, decide_eq_true_iff, decide_eq_true_iff] at this
    exact this
  have hstep : ∀ x ∈ planZ, (choS x (bestF GZ (2 - x.turn) x).1).turn = x.turn + 1 ∧ (if (choS x (bestF GZ (2 - x.turn) x).1).turn = 3 then oneZ (bestF GZ (2 - x.turn) x).1 ≤ (bestF GZ (2 - x.turn) x).2 else ∀ y ∈ movesL 2 (choS x (bestF GZ (2 - x.turn) x).1), y ∈ planZ ∧ (bestF GZ (2 - y.turn) y).2 + oneZ (bestF GZ (2 - x.turn) x).1 ≤ (bestF GZ (2 - x.turn) x).2) := fun x hx => by
    have h1 := List.all_eq_true.1 planZ_chk x hx
    unfold chkZ at h1
    dsimp only at h1
    refine ⟨by cases (bestF GZ (2 - x.turn) x).1 <;> rfl, ?_⟩
    split
    · rename_i hq
      rw [if_pos hq] at h1
      exact of_decide_eq_true h1
    · rename_i hq
      rw [if_neg hq] at h1
      intro y hy
      have := List.all_eq_true.1 h1 y hy
      rw [Bool.and_eq_true, decide_eq_true_iff, decide_eq_true_iff] at this
      exact this
  have key : ∀ s, Reach GZ (lookG ps 2) sZ s → s ∈ planZ := by
    intro s hs
    induction hs with
    | base hx => exact (h0 _ hx).1
    | @step s x p hr hl ht hx ih =>
      obtain ⟨q, hq, hc, -⟩ := look_J h ih
      rw [hl] at hq
      cases hq
      rw [(next_cho hc).1] at ht hx
      have h2 := (hstep s ih).2
      rw [if_neg (by have : (choS s (bestF GZ (2 - s.turn) s).1).turn < 3 := ht; omega)] at h2
      exact (h2 x hx).1
  refine ⟨fun x hx => ?_, fun s hs => ?_⟩
  · obtain ⟨h1, h2⟩ := h0 x hx
    obtain ⟨q, hq, -, hb⟩ := look_J h h1
    exact ⟨q, hq, by omega, by omega⟩
  · have hsm := key s hs
    obtain ⟨q, hq, hc, hb⟩ := look_J h hsm
    obtain ⟨n1, n2⟩ := next_cho (x := s) hc
    have h2 := (hstep s hsm).2
    refine ⟨q, hq, okCh_best hc, ?_⟩
    rw [n1, n2]
    show if (choS s (bestF GZ (2 - s.turn) s).1).turn = 3 then _ else _
    split
    · rename_i hq3
      rw [if_pos hq3] at h2
      omega
    · rename_i hq3
      rw [if_neg hq3] at h2
      intro y hy
      obtain ⟨h3, h4⟩ := h2 y hy
      obtain ⟨r, hr, -, hrb⟩ := look_J h h3
      exact ⟨r, hr, by omega, by omega⟩
theorem rejectZ {look : GS → Option PosR} : ¬ acceptP GZ look 1 sZ := by
  rintro ⟨h1, h2⟩
  have := sound_all (G := GZ) (d := 2) (s0 := sZ) (by rfl) h1 h2
  rw [valueZ] at this
  omega
/-! The plan, played. -/
theorem turn_best {look : GS → Option Int} {x : GS} {d : Nat} {G : GP} (h : look x = some (chV (bestF G d x).1)) : turnF G look x = some (choS x (bestF G d x).1, oneZ (bestF G d x).1) := by
  unfold turnF
  rw [h]
  cases hc : (bestF G d x).1 with
  | none => rfl
  | some v =>
    obtain ⟨q1, q2⟩ := best_choice hc
    show (if (v : Int) = -1 then _ else _) = _
    rw [show chV (some v) = (v : Int) from rfl, if_neg (by omega), Int.toNat_natCast, if_pos ⟨any_nat.2 ⟨v, rfl, q1⟩, q2⟩]
    all_goals rfl
def goZ (x : GS) : GS := choS x (bestF GZ (2 - x.turn) x).1
def payZ (x : GS) : Nat := oneZ (bestF GZ (2 - x.turn) x).1
def xZ : GS := failS sZ 1
def SZ : Nat → GS
  | 0 => sZ
  | 1 => goZ xZ
  | 2 => goZ (goZ xZ)
  | _ => goZ (goZ (goZ xZ))
def TZ : Nat → Nat
  | 0 => 0
  | 1 => payZ xZ
  | 2 => payZ xZ + payZ (goZ xZ)
  | _ => payZ xZ + payZ (goZ xZ) + payZ (goZ (goZ xZ))
def FZ : Nat → List Bool
  | 0 => List.replicate 6 false
  | _ + 1 => (List.replicate 6 false).set 1 true
def CZ : Nat → Nat
  | 0 => 0
  | _ + 1 => 1
set_option maxRecDepth 100000 in
theorem memZ : xZ ∈ planZ ∧ goZ xZ ∈ planZ ∧ goZ (goZ xZ) ∈ planZ := of_decide_eq_true (by kernel_rfl)
set_option maxRecDepth 100000 in
theorem payTZ : TZ 3 = 2 := by kernel_rfl
theorem lostZ {ps : List PosR} (h : PlanOf ps) : LostH GZ (lookQ ps 2) [some 1, none, none] 1 sZ FZ CZ SZ TZ := by
  obtain ⟨m0, m1, m2⟩ := memZ
  have t0 := turn_best (look_Q h m0)
  have t1 := turn_best (look_Q h m1)
  have t2 := turn_best (look_Q h m2)
  refine ⟨rfl, rfl, rfl, rfl, fun i hi => ?_, fun i k hi => ?_, Nat.le_refl _, fun i k hi => ?_⟩
  · match i, hi with
    | 1, _ => exact ⟨rfl, rfl⟩
    | 2, _ => exact ⟨rfl, rfl⟩
    | 0, hi => cases hi
    | n + 3, hi => simp at hi
  · match i, hi with
    | 0, hi => cases hi; exact ⟨by decide, rfl, rfl, rfl⟩
    | 1, hi => cases hi
    | 2, hi => cases hi
    | n + 3, hi => simp at hi
  · match i, hi with
    | 0, hi =>
      cases hi
      exact ⟨fun j hj => (by cases hj; exact ⟨by decide, by decide, rfl⟩), _, t0, (Nat.zero_add _).symm⟩
    | 1, hi =>
      cases hi
      exact ⟨fun j hj => (by cases hj), _, t1, rfl⟩
    | 2, hi =>
      cases hi
      exact ⟨fun j hj => (by cases hj), _, t2, rfl⟩
    | n + 3, hi => simp at hi
end Go.Proofs.Ytoogicafefennaa
/-
  Contracts: w09Game, w09Planned.
-/
namespace Go.Proofs.Ytoogicafefennaa
set_option linter.unusedVariables false
open Go.RowKit Go.Sy
set_option linter.unusedVariables false
set_option linter.unusedSimpArgs false
def slW (gb : Nat) : Sl := ⟨some ⟨gb, 0, none⟩, 2, 2⟩
def gaW (gb ga gd : Nat) : GaR := ⟨⟨some ⟨ga, 0, none⟩, 2, 2⟩, [1, 2], ⟨some ⟨gd, 0, none⟩, 3, 3⟩, [(slW gb, [0, 1]), (slW gb, [0, 1]), (slW gb, [0, 1])], 1⟩
def dsW (gb : Nat) : List (Sl × List Nat) := [(slW gb, [0, 1]), (slW gb, [0, 1]), (slW gb, [0, 1])]
theorem gaW_plain {gb ga gd : Nat} : Plain (gaW gb ga gd) [1, 2] (dsW gb) 1 := ⟨rfl, rfl, rfl⟩
theorem gaW_valid {gb ga gd : Nat} : validG (gaW gb ga gd) = true := by
  unfold validG headG gaW
  rfl
theorem gaW_small {gb ga gd : Nat} : sizeN (gaW gb ga gd) (gaW gb ga gd).sl.n ≤ 200000 := by
  unfold gaW
  exact of_decide_eq_true rfl
theorem gpW {gb : Nat} : gpOf [1, 2] (dsW gb) = GZ := rfl
theorem gaW_rd {Be : Nat} {w0 w : World} {H : Heap} {gb ga gd : Nat} (hs : ∀ p ∈ ((gd, .cells #[.slice (some ⟨gb, 0, none⟩) 2 2, .slice (some ⟨gb, 0, none⟩) 2 2, .slice (some ⟨gb, 0, none⟩) 2 2] 25 (0, 0)) :: (ga, .cells #[.int .i64 1, .int .i64 2] 3 (0, 0)) :: [(gb, .cells #[.int .i64 0, .int .i64 1] 3 (0, 0))]), p ∈ H) (hh : Hp Be w0 H w) : RdGa w w.heap.size (gaW gb ga gd) := by
  have hb := rd_own (C := intC) (f := zv) (fun x => rfl) (n := 2) (xs := [0, 1]) (tl := []) (hs _ (.tail _ (.tail _ (.head _)))) hh rfl (by decide)
  refine ⟨rd_own (C := intC) (f := zv) (fun x => rfl) (n := 2) (xs := [1, 2]) (tl := []) (hs _ (.tail _ (.head _))) hh rfl (by decide), rd_own (C := slI) (f := fun x => .slice x.1.a x.1.n x.1.c) (fun x => rfl) (n := 3) (xs := [(slW gb, [0, 1]), (slW gb, [0, 1]), (slW gb, [0, 1])]) (tl := []) (hs _ (.head _)) hh rfl (by decide), fun x hx => ?_⟩
  have hx' : x = (slW gb, [0, 1]) := by
    have h1 : x ∈ [(slW gb, [(0 : Int), 1]), (slW gb, [0, 1]), (slW gb, [0, 1])] := hx
    simpa using h1
  rw [hx']
  exact hb
theorem posW_of {R : Heap} {y : GS} {p : PosR} (h : PosFor GZ R y p) (hy : y ∈ planZ) : PosW p := by
  obtain ⟨hok, ht, -, -⟩ := planZ_mem hy
  have hb := hok.b
  have hsn : p.sl.n = 2 := h.sn
  have hfn : p.fl.n = 2 := h.fn
  have l1 := hok.l1
  have l2 := hok.l2
  refine ⟨by rw [h.t]; exact W64.of (by omega) (by omega), by rw [h.b]; exact W64.of (by omega) (by omega), fun x hx => ?_, ?_, ?_, ?_⟩
  · rw [h.st] at hx
    obtain ⟨n, hn, rfl⟩ := List.mem_map.1 hx
    have := hok.sb n (List.mem_of_mem_take hn)
    exact W64.of (by omega) (by omega)
  · rw [hsn, h.st, List.length_map, List.length_take, l1]; rfl
  · rw [h.bd]
    have := best_le GZ (GZ.deps.length - 1 - y.turn) y
    have h3 : GZ.deps.length = 3 := rfl
    exact W64.of (by omega) (by omega)
  · rw [hfn, h.fl, List.length_take, l2]; rfl
theorem planRd {Be : Nat} {w0 w : World} {H HI : Heap} {gr : Nat} {ps : List PosR} {tail : List Value} (hn : ps.length ≤ 1000) (hm : (gr, .cells (flatP ps ++ tail).toArray 100 (0, 0)) ∈ H) (hs : ∀ p ∈ HI, p ∈ H) (hP : ∀ p ∈ ps, PosIn HI p) (hh : Hp Be w0 H w) : RdPlan w w.heap.size (some ⟨gr, 0, none⟩) ps.length ps :=
  ⟨RdS.ofRow (hh.own _ hm) (hh.lt hm) rfl (by omega) (fun x _ => PosR.size x), fun p hp => hP p hp _ _ _ _ hs hh⟩
theorem planZ_eq {gb : Nat} : followF (gpOf [1, 2] (dsW gb)) (dsW gb).length (gs0 [1, 2] 1) [] = planZ := rfl
theorem plan_in {gb : Nat} {ps ps0 : List PosR} {HI : Heap} (hperm : ps.Perm ps0) (hl : ps0.length = (followF (gpOf [1, 2] (dsW gb)) (dsW gb).length (gs0 [1, 2] 1) []).length) (hpos : ∀ (i : Nat) (y : GS) (p : PosR), (followF (gpOf [1, 2] (dsW gb)) (dsW gb).length (gs0 [1, 2] 1) [])[i]? = some y → ps0[i]? = some p → PosFor (gpOf [1, 2] (dsW gb)) HI y p) : PlanOf ps ∧ (∀ p ∈ ps, PosIn HI p) ∧ ps.length ≤ 1000 := by
  rw [planZ_eq] at hl hpos
  refine ⟨planOf (R := HI) hperm hl hpos, fun p hp => ?_, by rw [hperm.length_eq, hl, planZ_len]; decide⟩
  obtain ⟨i, hi⟩ := List.getElem?_of_mem (hperm.mem_iff.1 hp)
  have hlt : i < planZ.length := by rw [← hl]; exact (List.getElem?_eq_some_iff.1 hi).1
  exact (hpos i _ p (List.getElem?_eq_getElem hlt) hi).inn
theorem PlanOf.w {ps : List PosR} (h : PlanOf ps) : ∀ p ∈ ps, PosW p := fun p hp => by
  obtain ⟨R, y, hy, hf⟩ := h.all p hp
  exact posW_of hf hy
theorem accW {w : World} {gb ga gd gr cap : Nat} {ps : List PosR} (hrd : RdGa w w.heap.size (gaW gb ga gd)) (hpl : RdPlan w w.heap.size (some ⟨gr, 0, none⟩) ps.length ps) (hpo : PlanOf ps) :
    Calls Try.prog 20 #[.agg (gaW gb ga gd).C, .slice (some ⟨gr, 0, none⟩) ps.length cap, .int .i64 2] w (Ret w (.bool true)) :=
  (accept_c hrd gaW_valid gaW_plain hpl hpo.w).mono (by
    rintro en w' ⟨b, rfl, hI, hp⟩
    have : b = true := hI.2 ((acc_P (fun h => (by cases h))).2 (acceptZ hpo))
    rw [this]
    exact ⟨rfl, hp.belowBe⟩)
theorem rejW {w : World} {gb ga gd gr cap : Nat} {ps : List PosR} (hrd : RdGa w w.heap.size (gaW gb ga gd)) (hpl : RdPlan w w.heap.size (some ⟨gr, 0, none⟩) ps.length ps) (hpo : PlanOf ps) :
    Calls Try.prog 20 #[.agg (gaW gb ga gd).C, .slice (some ⟨gr, 0, none⟩) ps.length cap, .int .i64 1] w (Ret w (.bool false)) :=
  (accept_c hrd gaW_valid gaW_plain hpl hpo.w).mono (by
    rintro en w' ⟨b, rfl, hI, hp⟩
    have : b = false := by
      cases b with
      | false => rfl
      | true => exact absurd ((acc_P (fun h => (by cases h))).1 (hI.1 rfl)) rejectZ
    rw [this]
    exact ⟨rfl, hp.belowBe⟩)
theorem lostW {w : World} {gb ga gd gr cap gf cf : Nat} {ps : List PosR} (hrd : RdGa w w.heap.size (gaW gb ga gd)) (hpl : RdPlan w w.heap.size (some ⟨gr, 0, none⟩) ps.length ps) (hpo : PlanOf ps) {Be : Nat} {w0 : World} {H : Heap} (hm : (gf, Obj.cells #[.int .i64 1, .int .i64 (-1), .int .i64 (-1)] 3 (0, 0)) ∈ H) (hh : Hp Be w0 H w) :
    Calls Try.prog 40 #[.agg (gaW gb ga gd).C, .slice (some ⟨gr, 0, none⟩) ps.length cap, .slice (some ⟨gf, 0, none⟩) 3 cf] w (Ret w (.tuple #[.int .i64 2, .int .i64 0])) :=
  (lost_c (ks := [some 1, none, none]) hrd gaW_valid gaW_plain hpl hpo.w (rd_own (C := fun k : Option Nat => intC (chV k)) (f := fun k => .int .i64 (chV k)) (fun x => rfl) (n := 3) (xs := [some 1, none, none]) (tl := []) hm hh rfl (by decide)) rfl (lostZ hpo)).mono (by
    rintro en w' ⟨x, rfl, hI, hp⟩
    refine ⟨?_, hp.belowBe⟩
    rw [show TZ [some 1, none, none].length = 2 from payTZ]
    rfl)
attribute [local irreducible] Calls thenQ blockQ retQ jumpQ Spc Spl Spq Ex Ev Evs Gd Upd ESub HKeep Res Res1 wlk effQ Rem SrcAt Split PosR.C flatP followF planZ
set_option maxRecDepth 100000 in
set_option maxHeartbeats 4000000 in
theorem gameW_c {w : World} : Calls Try.prog 38 #[.int .i64 1] w (RetH w (fun x : Nat × Nat × Nat => .agg (gaW x.1 x.2.1 x.2.2).C) (fun x => ((x.2.2, .cells #[.slice (some ⟨x.1, 0, none⟩) 2 2, .slice (some ⟨x.1, 0, none⟩) 2 2, .slice (some ⟨x.1, 0, none⟩) 2 2] 25 (0, 0)) :: (x.2.1, .cells #[.int .i64 1, .int .i64 2] 3 (0, 0)) :: [(x.1, .cells #[.int .i64 0, .int .i64 1] 3 (0, 0))])) (fun _ => True)) := by
  refine sp_enter (vs := [_]) Try.func38 rfl Try.ntmps38 rfl ?_
  repeat (first|(apply spl_buildSlice (d := 4) rfl;(·rfl);(·(repeat (first|exact eN|(apply eS;(·exact eC)))));(·rfl);(·rfl);(·rfl);intro gb hgb)|(apply spl_buildSlice (d := 5) rfl;(·rfl);(·(repeat (first|exact eN|(apply eS;(·exact eC)))));(·rfl);(·rfl);(·rfl);intro ga hga)|(apply spl_buildSlice (d := 9) rfl;(·rfl);(·(repeat (first|exact eN|(apply eS;(·exact eT rfl)))));(·rfl);(·rfl);(·rfl);intro gd hgd)|apply then_n|apply sp_seq|apply sp_region|apply spl_nil|apply sp_ret|((apply spl_pure rfl);(·(first|(apply ex_buildE (r:=(gaW gb ga gd).C);(·(repeat (first|exact eN|(apply eS;(·exact eT rfl)))));(·rfl);(·rfl))|((first|apply ex_move|apply ex_assign)<;>(exact eT rfl)))))|(apply spl_alloc rfl;intro _ _)|(apply spl_stores;(·exact eT rfl);(·exact eT rfl);(·(repeat (first|exact Upd.here|apply Upd.there)));(·(rfl));(·(rfl));(·exact Ones.one)))
  rename_i g2 hg2
  (apply retH_ok rfl;(·((apply Res.ofOne;((apply Res1.cell;(·rfl);(·exact InH.mem);(·(rfl))))))))
  exact ⟨(gb, ga, gd), rfl, trivial, by (repeat (first|exact HKeep.refl|apply HKeep.keep|apply HKeep.drop (by first|assumption|omega)))⟩
set_option maxRecDepth 100000 in
set_option maxHeartbeats 8000000 in
theorem planned_c {w : World} : Calls Try.prog 16 #[] w (Ret w (.bool true)) := by
  have h00 : (0 : Int) = 0 := rfl
  have h22 : (2 : Int) = 2 := rfl
  refine sp_enter (vs := []) Try.func16 rfl Try.ntmps16 rfl ?_
  repeat (first|(apply spl_callh rfl;(·(repeat (first|exact eN|(apply eS;(·(first|exact eT rfl|exact eC))))));(·exact fun w' hh => gameW_c);(rintro ⟨gb, ga, gd⟩ - hfg;simp only [List.cons_append, List.nil_append]))|(apply spl_callh rfl;(·(repeat (first|exact eN|(apply eS;(·exact eT rfl)))));(·exact fun w' hh => plan_c (gaW_rd InSub.sub hh) gaW_valid gaW_small gaW_plain (by decide) (by rw [planZ_eq, planZ_len]; decide) (by rw [planZ_eq, planZ_len]; decide));(rintro ⟨gr, cap, tl, ps, ps0, HI⟩ ⟨hperm, hl0, hposf⟩ hfp;obtain ⟨hpo, hPI, hpn⟩ := plan_in hperm hl0 hposf;simp only [List.cons_append, List.nil_append]))|(apply spl_buildSlice (d := 15) rfl;(·rfl);(·(repeat (first|exact eN|(apply eS;(·exact eC)))));(·rfl);(·rfl);(·rfl);intro gf hgf)|(apply spl_callp rfl;(·(repeat (first|exact eN|(apply eS;(·exact eT rfl)))));(·exact fun w' hh => lostW (gaW_rd InSub.sub hh) (planRd hpn InH.mem InSub.sub hPI hh) hpo InH.mem hh))|(apply spl_callp_g rfl;(·exact Gd.tt rfl rfl);(·(repeat (first|exact eN|(apply eS;(·(first|exact eT rfl|exact eC))))));(·exact fun _ w' hh => accW (gaW_rd InSub.sub hh) (planRd hpn InH.mem InSub.sub hPI hh) hpo))|(apply spl_callp_g rfl;(·exact Gd.tt rfl rfl);(·(repeat (first|exact eN|(apply eS;(·(first|exact eT rfl|exact eC))))));(·exact fun _ w' hh => rejW (gaW_rd InSub.sub hh) (planRd hpn InH.mem InSub.sub hPI hh) hpo))|apply then_n|apply sp_seq|apply sp_region|apply spl_nil|apply sp_ret|((first|apply spl_pure rfl|(apply spl_pure_g rfl;(·exact Gd.tt rfl rfl)));(·(first|(apply ex_eqlT h00;(·exact eT rfl);(·exact eC))|(apply ex_eqlT h22;(·exact eT rfl);(·exact eC))|((first|apply ex_move|apply ex_assign|apply ex_not|apply ex_andT)<;>(first|exact eT rfl|exact eC))|((apply ex_extract)<;>(first|exact eT rfl|rfl))|(apply ex_loadowns<;>(first|exact eT rfl|exact Bk.own InH.mem|(rfl))))))|(apply spl_alloc rfl;intro _ _)|(apply spl_stores;(·exact eT rfl);(·exact eT rfl);(·(repeat (exact Upd.here)));(·(rfl));(·(rfl));(·exact Ones.one)))
  (apply ret_ok rfl;(·((apply Res.ofOne;((apply Res1.tmp;(·rfl))))))); rfl
end Go.Proofs.Ytoogicafefennaa
/-
  The law TopNoBetter, walked: for whatever game, plan and bound, it answers true and writes nothing old.
-/
namespace Go.Proofs.Ytoogicafefennaa
set_option linter.unusedVariables false
open Go.RowKit Go.Sy
set_option linter.unusedVariables false
set_option linter.unusedSimpArgs false
theorem no_under {ns : List Nat} {ds : List (Sl × List Nat)} {B : Nat} {ps : List PosR} {m : Nat} : ¬ acc ns ds B ps (((valueN ns ds B : Nat) : Int) - 1 - (m : Int)) := by
  intro h
  unfold acc at h
  cases ds with
  | nil =>
    rw [if_pos rfl] at h
    have : valueN ns [] B = 0 := rfl
    omega
  | cons d r =>
    rw [if_neg (List.cons_ne_nil _ _)] at h
    have hl : (gs0 ns B).turn + (r.length + 1) = (gpOf ns (d :: r)).deps.length := by
      show 0 + (r.length + 1) = ((d :: r).map Prod.snd).length
      rw [List.length_map, List.length_cons]
      omega
    have := sound_all (d := r.length) hl h.1 h.2
    have hv : valueN ns (d :: r) B = worstF (gpOf ns (d :: r)) (r.length + 1) (gs0 ns B) := rfl
    omega
theorem under_c {w : World} {g : GaR} {ns : List Nat} {ds : List (Sl × List Nat)} {B n c m : Nat} {A : Option Addr} {ps : List PosR} (h : RdGa w w.heap.size g) (hv : validG g = true) (hp : Plain g ns ds B) (hps : RdPlan w w.heap.size A n ps) (hpw : ∀ p ∈ ps, PosW p) :
    Calls Try.prog 20 #[.agg g.C, .slice A n c, .int .i64 (((valueN ns ds B : Nat) : Int) - 1 - (m : Int))] w (Ret w (.bool false)) :=
  (accept_c h hv hp hps hpw).mono (by
    rintro en w' ⟨b, rfl, hI, hp⟩
    have : b = false := by
      cases b with
      | false => rfl
      | true => exact absurd (hI.1 rfl) no_under
    rw [this]
    exact ⟨rfl, hp.belowBe⟩)
attribute [local irreducible] Calls thenQ blockQ retQ jumpQ Spc Spl Spq Ex Ev Evs Gd Upd ESub HKeep Res Res1 wlk effQ Rem SrcAt Split sizeN base validG fewG valueN
set_option maxRecDepth 100000 in
set_option maxHeartbeats 8000000 in
theorem nobetter_w {w : World} {g : GaR} {A : Option Addr} {n c : Nat} {ps : List PosR} {m : Nat} (hg : RdGa w w.heap.size g) (hps : RdPlan w w.heap.size A n ps) (hpw : ∀ p ∈ ps, PosW p) (hm : m < 256) : Calls Try.prog 5 #[.agg g.C, .slice A n c, .int .u8 (m : Int)] w (Ret w (.bool true)) := by
  have hfew := fun (H : Heap) (w' : World) (hh : Hp w.heap.size w H w') => few_c (hg.hp hh)
  refine sp_enter (vs := [_, _, _]) Try.func5 rfl Try.ntmps5 rfl ?_
  cases hf : fewG g with
  | false =>
    rw [hf] at hfew
    repeat (first|(apply sp_cond_t;(·exact eT rfl);(·rfl))|(apply spl_callp rfl;(·(repeat (first|exact eN|(apply eS;(·exact eT rfl)))));(·exact fun w' hh => planned_c))|(apply spl_callp rfl;(·(repeat (first|exact eN|(apply eS;(·exact eT rfl)))));(·exact fun w' hh => hfew _ w' hh))|apply then_n|apply sp_seq|apply sp_region|apply spl_nil|apply then_r|apply sp_ret|((first|apply spl_pure rfl|(apply spl_pure_g rfl;(·exact Gd.tf rfl rfl)));(·(first|(exact ex_off rfl)|((first|apply ex_move|apply ex_assign|apply ex_not)<;>(first|exact eT rfl|exact eC))|((apply ex_orT)<;>(first|exact eT rfl|exact eG rfl))|(apply ex_loadowns<;>(first|exact eT rfl|exact Bk.own InH.mem|(rfl))))))|(apply spl_box;(·exact eT rfl);(·rfl);intro _ _))
    (apply ret_ok rfl;(·((apply Res.ofOne;((apply Res1.tmp;(·rfl))))))); rfl
  | true =>
    rw [hf] at hfew
    by_cases hbg : (300 : Int) < (n : Int)
    · have h3 := hfew
      repeat (first|(apply sp_cond_t;(·exact eT rfl);(·rfl))|(apply spl_callp rfl;(·(repeat (first|exact eN|(apply eS;(·exact eT rfl)))));(·exact fun w' hh => planned_c))|(apply spl_callp rfl;(·(repeat (first|exact eN|(apply eS;(·exact eT rfl)))));(·exact fun w' hh => hfew _ w' hh))|apply then_n|apply sp_seq|apply sp_region|apply spl_nil|apply then_r|apply sp_ret|((first|apply spl_pure rfl|(apply spl_pure_g rfl;(·exact Gd.tf rfl rfl)));(·(first|(apply ex_gtrT hbg;(·exact eT rfl);(·exact eC))|((first|apply ex_move|apply ex_assign|apply ex_not|apply ex_len)<;>(first|exact eT rfl|exact eC))|((apply ex_orT)<;>(exact eT rfl))|(apply ex_loadowns<;>(first|exact eT rfl|exact Bk.own InH.mem|(rfl))))))|(apply spl_box;(·exact eT rfl);(·rfl);intro _ _))
      (apply ret_ok rfl;(·((apply Res.ofOne;((apply Res1.tmp;(·rfl))))))); rfl
    · obtain ⟨hv, hsm, hd5, -⟩ := fewG_t hf
      obtain ⟨ns, ds, B, hp⟩ := plain_of (gaOk_of hv)
      have hval := fun (H : Heap) (w' : World) (hh : Hp w.heap.size w H w') => value_c (hg.hp hh) hv hsm hp
      have hwor := fun (H : Heap) (w' : World) (hh : Hp w.heap.size w H w') => worst_c (c := c) (hg.hp hh) hv hp (hps.hp hh) hpw
      have hund := fun (H : Heap) (w' : World) (hh : Hp w.heap.size w H w') => under_c (c := c) (m := m) (hg.hp hh) hv hp (hps.hp hh) hpw
      have hle : valueN ns ds B ≤ 5 := by
        have h1 : valueN ns ds B ≤ ds.length := by unfold valueN; exact worst_le _ _ _
        have h2 := hg.rows.len
        rw [hp.ds, List.length_map] at h2
        omega
      have hw : IntKind.i64.wrap (m : Int) = (m : Int) := wrap64_in (by constructor <;> omega)
      have h00 : (0 : Int) = 0 := rfl
      have hs1 : ((valueN ns ds B : Nat) : Int) - 1 = ((valueN ns ds B : Nat) : Int) - 1 := rfl
      have hs2 : ((valueN ns ds B : Nat) : Int) - 1 - (m : Int) = ((valueN ns ds B : Nat) : Int) - 1 - (m : Int) := rfl
      generalize hV : ((valueN ns ds B : Nat) : Int) = V at *
      have hV0 : 0 ≤ V ∧ V ≤ 5 := by omega
      repeat (first|(apply sp_cond_f;(·exact eT rfl);(·rfl))|(apply spl_callp rfl;(·(repeat (first|exact eN|(apply eS;(·exact eT rfl)))));(·exact fun w' hh => planned_c))|(apply spl_callp rfl;(·(repeat (first|exact eN|(apply eS;(·exact eT rfl)))));(·exact fun w' hh => hfew _ w' hh))|(apply spl_callp rfl;(·(repeat (first|exact eN|(apply eS;(·exact eT rfl)))));(·exact fun w' hh => hval _ w' hh))|(apply spl_callh rfl;(·(repeat (first|exact eN|(apply eS;(·exact eT rfl)))));(·exact fun w' hh => hwor _ w' hh);(rintro ⟨xA, xk, xc, xM, xe⟩ hx -;simp only [List.nil_append]))|(apply spl_callp_g rfl;(·exact Gd.tt rfl rfl);(·(repeat (first|exact eN|(apply eS;(·exact eT rfl)))));(·exact fun _ w' hh => hund _ w' hh))|apply then_n|apply sp_seq|apply sp_region|apply spl_nil|apply sp_skip|apply sp_ret|((first|apply spl_pure rfl|(apply spl_pure_g rfl;(·(first|exact Gd.tt rfl rfl|exact Gd.tf rfl rfl))));(·(first|(apply ex_gtrF hbg;(·exact eT rfl);(·exact eC))|(apply ex_eqlT h00;(·exact eT rfl);(·exact eC))|(apply ex_subE hs1;(·exact eT rfl);(·exact eC);(·(constructor<;>omega)))|(apply ex_subE hs2;(·exact eT rfl);(·exact eT rfl);(·(constructor<;>omega)))|(apply ex_convin (n:=(m:Int)) (k':=.i64);(·exact eT rfl);(·exact hw))|((first|apply ex_move|apply ex_assign|apply ex_not|apply ex_geq|apply ex_sneq|apply ex_len|apply ex_andT)<;>(first|exact eT rfl|exact eC|exact eG rfl))|((first|apply ex_neq|apply ex_orT)<;>(first|exact eT rfl|exact eC|exact eG rfl))|((apply ex_extract)<;>(first|exact eT rfl|rfl))|(apply ex_loadowns<;>(first|exact eT rfl|exact Bk.own InH.mem|(rfl))))))|(apply spl_box;(·exact eT rfl);(·rfl);intro _ _))
      (apply ret_ok rfl;(·((apply Res.ofOne;((apply Res1.tmp;(·rfl)))))))
      by_cases he : xe = 0
      · have hVM : V ≤ xM := hx he
        rw [decide_eq_true he, decide_eq_true hVM]; rfl
      · rw [decide_eq_false he]; rfl
end Go.Proofs.Ytoogicafefennaa
