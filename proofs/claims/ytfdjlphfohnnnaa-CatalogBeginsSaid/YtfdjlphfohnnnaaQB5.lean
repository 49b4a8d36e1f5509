/-
  CatalogBegins, walked.
-/
import Derived.Test.YtfdjlphfohnnnaaQB4
namespace Go.Proofs.Ytfdjlphfohnnnaa
open Go.RowKit Go.Sy
set_option linter.unusedVariables false
set_option linter.unusedSimpArgs false
theorem ex_slice_hE {P : Program} {Be : Nat} {w0 : World} {H : Heap} {G : Bool} {e : Env} {ty : TypeId} {t el : TypeId} {x y : Operand} {A : Option Addr} {n c sz m : Nat} {k : IntKind} (h1 : Ev G e x (.slice A n c)) (h2 : Ev G e y (.int k (m : Int))) (hb : m ≤ c) [ht : TSlice P t el] [hs : TSize P el sz] :
    Ex P Be w0 H G e (.slice t x none (some y) none) ty (.slice A m c) := by
  have := ex_slice_h (P := P) (Be := Be) (w0 := w0) (H := H) (ty := ty) h1 h2 ⟨by omega, by omega⟩ (ht := ht) (hs := hs)
  rwa [Int.toNat_natCast] at this
theorem ex_remL {P : Program} {Be : Nat} {w0 : World} {H : Heap} {G : Bool} {e : Env} {ty t t' : TypeId} {x y : Operand} {k : IntKind} {m n q : Nat} (hq : m % n = q) (hn : n ≠ 0) (h1 : Ev G e x (.int k (m : Int))) (h2 : Ev G e y (.int k (n : Int))) : Ex P Be w0 H G e (.binOp .rem t x y t') ty (.int k (q : Int)) := by
  have := ex_rem (P := P) (Be := Be) (w0 := w0) (H := H) (ty := ty) (t := t) (t' := t') h1 h2 (by omega)
  rwa [show (m : Int).tmod (n : Int) = (q : Int) from by rw [← hq]; rfl] at this
theorem RdKinds.take {w : World} {Be n c m : Nat} {A : Option Addr} {ks : List KindR} (h : RdKinds w Be ⟨A, n, c⟩ ks) (hm : m ≤ n) : RdKinds w Be ⟨A, m, c⟩ (ks.take m) := ⟨h.1.take hm, fun x hx => h.2 x (List.mem_of_mem_take hx)⟩
attribute [local irreducible] Calls thenQ blockQ retQ retFQ Spc Spl Spq Ex Ev Evs Gd Upd ESub HKeep Res Res1 wlk effQ Rem SrcAt Split fewB validB takesB normalB
set_option maxRecDepth 100000 in
set_option maxHeartbeats 8000000 in
theorem lawBegins {w : World} {A : Option Addr} {n c raw : Nat} {ks : List KindR} {kind slot other : ByteArray} (hraw : raw < 256) (hK : RdKinds w w.heap.size ⟨A, n, c⟩ ks) (hnc : n ≤ c) :
    Calls Try.prog 6 #[.agg #[.slice A n c], .int .u8 (raw : Int), .string kind, .string slot, .string other] w (Ret w (.bool true)) := by
  have hbd : n ≤ 9223372036854775807 := hK.1.bound
  refine sp_enter (vs := [_, _, _, _, _]) Try.func6 rfl Try.ntmps6 rfl ?_
  repeat (first|(apply spl_callp rfl;(·(repeat (first|exact eN|(apply eS;(·exact eT rfl)))));(·exact fun w' hh => head_c))|(apply spl_callp rfl;(·(repeat (first|exact eN|(apply eS;(·exact eT rfl)))));(·exact fun w' hh => few1_c (hK.hp hh) hh.ownI))|(apply spl_callp_g rfl;(·exact Gd.tf rfl rfl);(·(repeat (first|exact eN|(apply eS;(·exact eG rfl)))));(·exact fun hG w' hh => valid_c (hK.hp hh) (few_sized (by simpa using hG)).2))|apply then_n|apply sp_seq|apply sp_region|apply spl_nil|((first|apply spl_pure rfl|(apply spl_pure_g rfl;(·exact Gd.tf rfl rfl)));(·(first|(apply ex_loadpartE (cs':=#[.slice A n c]);(·exact eT rfl);(·exact Bk.own InH.mem);(·rfl);(·rfl))|((first|apply ex_move|apply ex_assign|apply ex_not|apply ex_gtr)<;>(first|exact eT rfl|exact eC|exact eG rfl))|((first|apply ex_slen|apply ex_orT)<;>(first|exact eT rfl|exact eG rfl))|(apply ex_add<;>(exact eG rfl)))))|(apply spl_box;(·exact eT rfl);(·rfl);intro _ _)|(apply spl_buildSlice rfl;(·rfl);(·(repeat (first|exact eN|(apply eS;(·exact eT rfl)))));(·rfl);(·rfl);(·rfl);intro _ _))
  rename_i g4 hg4 gS hgS
  refine sp_cond (eT rfl) (fun hp => ?_) (fun hp => ?_)
  ·
    repeat (first|apply then_n|apply sp_seq|apply sp_region|apply spl_nil|apply then_r|apply sp_ret|((apply spl_pure rfl);(·(((first|apply ex_move|apply ex_assign)<;>(exact eT rfl))))))
    (apply ret_ok rfl;(·((apply Res.ofOne;((apply Res1.tmp;(·rfl))))))); rfl
  · have hfew : fewB ks = true := by
      cases hf : fewB ks with
      | true => rfl
      | false => rw [hf] at hp; simp at hp
    have hval : validB ks = true := by
      cases hf : validB ks with
      | true => rfl
      | false => rw [hf] at hp; simp at hp
    clear hp
    refine spc_know (X := ∀ k ∈ ks, LensK k) (fun w' hh => (hK.hp hh).lens) fun hl => ?_
    have hcv := (valid_iff hl).1 hval
    have hsz := (few_sized hfew).2
    have h65 : n ≤ 65 := by have := (few_sized hfew).1; rw [hK.1.len] at this; exact this
    obtain ⟨m, hm⟩ : ∃ m, raw % (n + 1) = m := ⟨_, rfl⟩
    have hmn : m ≤ n := by have := Nat.mod_lt raw (show 0 < n + 1 by omega); omega
    have hw8 : IntKind.i64.wrap (raw : Int) = (raw : Int) := wrap64_in (by omega)
    have hKm := hK.take hmn
    have hlm : ∀ k ∈ ks.take m, LensK k := fun k hk => hl k (List.mem_of_mem_take hk)
    have hvm : validB (ks.take m) = true := (valid_iff hlm).2 (by rw [List.map_take]; exact catV_take hcv m)
    have hszm : ∀ k ∈ ks.take m, k.name.size < 9223372036854775808 ∧ ∀ s ∈ k.slots, s.name.size < 9223372036854775808 := fun k hk => hsz k (List.mem_of_mem_take hk)
    have hV := fun (w' : World) (h' : RdKinds w' w'.heap.size ⟨A, m, c⟩ (ks.take m)) => valid_c (c := c) h' hszm
    rw [hvm] at hV
    obtain ⟨b0, hb0⟩ : ∃ b, (findK (ks.take m) kind).isSome = b := ⟨_, rfl⟩
    have heq : b0 = true → takesB (ks.take m) kind slot other = takesB ks kind slot other ∧ normalB (ks.take m) kind slot other = normalB ks kind slot other := fun hb => by
      have hi : (findN ((ks.map KindR.pure).take m) kind).isSome = true := by
        rw [← List.map_take]
        unfold findN
        rw [find_pure, Option.isSome_map, hb0, hb]
      rw [takes_pure, takes_pure, normal_pure, normal_pure, List.map_take]
      exact takes_take hi
    have hF := fun (w' : World) (h' : RdKinds w' w'.heap.size ⟨A, m, c⟩ (ks.take m)) => find_e (c := c) rfl hb0 h'.1
    have hT1 := fun (w' : World) (h' : RdKinds w' w'.heap.size ⟨A, m, c⟩ (ks.take m)) => takes_c (s := kind) (t := slot) (o := other) h'
    have hT2 := fun (w' : World) (h' : RdKinds w' w'.heap.size ⟨A, n, c⟩ ks) => takes_c (s := kind) (t := slot) (o := other) h'
    have hN1 := fun (w' : World) (h' : RdKinds w' w'.heap.size ⟨A, m, c⟩ (ks.take m)) => normal_c (s := kind) (t := slot) (o := other) h'
    have hN2 := fun (w' : World) (h' : RdKinds w' w'.heap.size ⟨A, n, c⟩ ks) => normal_c (s := kind) (t := slot) (o := other) h'
    generalize takesB (ks.take m) kind slot other = t1 at *
    generalize takesB ks kind slot other = t2 at *
    generalize normalB (ks.take m) kind slot other = n1 at *
    generalize normalB ks kind slot other = n2 at *
    repeat (first|apply then_n|apply sp_seq|apply sp_skip)
    refine sp_drawn [(0, true), (1, true), (2, true), (3, true), (4, true), (5, true), (6, true), (7, true), (8, true), (9, true), (10, true), (11, false), (12, false)] 13 _ mixed (by kernel_rfl) HKeep.refl ?_
    repeat (first|apply then_n|apply sp_seq|apply sp_region|apply spl_nil|((first|apply spl_pure rfl|apply wlk_read rfl rfl);(·(first|(apply ex_convin;(·exact eT rfl);(·exact hw8))|(apply ex_remL (m:=raw) (n:=n+1) hm (by omega);(·exact eT rfl);(·exact eT rfl))|(apply ex_addE2 (r:=((n + 1 : Nat) : Int));(·exact eT rfl);(·exact eC);(·omega);(·(constructor<;>omega)))|(apply ex_slice_hE (m:=m);(·exact eT rfl);(·exact eT rfl);(·omega))|(apply ex_buildE (r:=#[.slice A m c]);(·(repeat (first|exact eN|(apply eS;(·exact eT rfl)))));(·rfl);(·rfl))|((first|apply ex_move|apply ex_fieldAddr'|apply ex_len)<;>(exact eT rfl))|((apply ex_loadown)<;>(first|exact eT rfl|exact Bk.own InH.mem|rfl))|(apply ex_loadowns<;>(first|exact eT rfl|exact Bk.own InH.mem|(rfl))))))|(apply spl_alloc rfl;intro _ _)|(apply spl_stores;(·exact eT rfl);(·exact eT rfl);(·(repeat (exact Upd.here)));(·(rfl));(·(rfl));(·exact ones_of_all rfl))|(apply effq;(·(intro h_;((repeat (first|exact HKeep.refl|(apply HKeep.pick;(·(repeat (first|exact Rem.here|apply Rem.there))))|apply HKeep.drop (by first|assumption|omega)))))))|apply wlk_nil|apply wlk_eff rfl)
    rename_i g12 hg12
    repeat (first|(apply sp_cond_f;(·exact eT rfl);(·rfl))|(apply spl_callp rfl;(·(repeat (first|exact eN|(apply eS;(·exact eT rfl)))));(·exact fun w' hh => hV w' (hKm.hp hh)))|(apply spl_callp rfl;(·(repeat (first|exact eN|(apply eS;(·exact eT rfl)))));(·exact fun w' hh => hF w' (hKm.hp hh)))|(apply spq_callp_g rfl;(·(first|exact Gd.tf rfl rfl|exact Gd.gt rfl rfl));(·(repeat (first|exact eN|(apply eS;(·exact eG rfl)))));(·exact fun _ w' hh => hT1 w' (hKm.hp hh)))|(apply spq_callp_g rfl;(·(first|exact Gd.tf rfl rfl|exact Gd.gt rfl rfl));(·(repeat (first|exact eN|(apply eS;(·exact eG rfl)))));(·exact fun _ w' hh => hT2 w' (hK.hp hh)))|(apply spq_callp_g rfl;(·exact Gd.gt rfl rfl);(·(repeat (first|exact eN|(apply eS;(·exact eG rfl)))));(·exact fun _ w' hh => hN1 w' (hKm.hp hh)))|(apply spq_callp_g rfl;(·exact Gd.gt rfl rfl);(·(repeat (first|exact eN|(apply eS;(·exact eG rfl)))));(·exact fun _ w' hh => hN2 w' (hK.hp hh)))|apply then_n|apply sp_seq|apply sp_region|apply spl_nil|apply sp_skip|apply sp_ret|((first|apply spl_pure rfl|apply spq_pure rfl|(apply spq_pure_g rfl;(·(first|exact Gd.tt rfl rfl|exact Gd.tf rfl rfl|exact Gd.gt rfl rfl))));(·(first|(apply ex_loadpartE (cs':=#[.slice A m c]);(·exact eT rfl);(·exact Bk.own InH.mem);(·rfl);(·rfl))|(apply ex_loadpartE (cs':=#[.slice A n c]);(·exact eT rfl);(·exact Bk.own InH.mem);(·rfl);(·rfl))|((first|apply ex_move|apply ex_assign|apply ex_not|apply ex_seql|apply ex_andT)<;>(first|exact eT rfl|exact eG rfl))|((first|apply ex_eql|apply ex_orT)<;>(first|exact eT rfl|exact eG rfl))|((first|apply ex_beql|apply ex_and)<;>(exact eG rfl))|((apply ex_extract)<;>(first|exact eT rfl|rfl)))))|(apply spl_alloc rfl;intro _ _)|(apply spl_stores;(·exact eT rfl);(·exact eT rfl);(·(repeat (exact Upd.here)));(·(rfl));(·(rfl));(·exact Ones.one))|apply spq_nil|apply sp_draw mixed (by kernel_rfl))
    (apply ret_ok rfl;(·((apply Res.ofOne;((apply Res1.tmp;(·rfl)))))))
    cases b0 with
    | false => rfl
    | true =>
      obtain ⟨rfl, rfl⟩ := heq rfl
      simp
end Go.Proofs.Ytfdjlphfohnnnaa
