/-
  Contracts: fleet.of, its get, fleet.Valid.
-/
import Derived.Test.YtffbhbinnjpgnaaK2
import Derived.WideKeyRuns
namespace Go.Proofs.Ytffbhbinnjpgnaa
open Go.RowKit Go.Sy
set_option linter.unusedVariables false
set_option linter.unusedSimpArgs false
/-! Seats are keys. -/
def seatV (s : ByteArray × ByteArray) : Value := .agg #[.string s.1, .string s.2]
theorem part_str (cs : Array Value) (v : Value) (off : Nat) (w : World) (h : cs[off]? = some v) : (part 9 cs off).run Try.prog w = .ok v w := by
  simp [part, TCell.run w (P := Try.prog) (t := 9), h]
theorem seat_equal (s t : ByteArray × ByteArray) (w : World) : (Op.equal 77 (seatV s) (seatV t)).run Try.prog w = .ok (decide (s = t)) w := by
  show (Op.equalIn (9999 + 1) _ _ _).run _ w = _
  rw [seatV, seatV, run_equalIn_struct w 9999 77 _ _ (by kernel_rfl) (by kernel_rfl)]
  simp only [Program.fieldsOf, Try.underlying77]
  rw [eqFields_str (t := 9) (a := s.1) (b := t.1) (by decide) rfl rfl rfl, eqFields_str (t := 9) (a := s.2) (b := t.2) (by decide) rfl rfl rfl, eqFields_nil]
  by_cases h1 : s.1 = t.1 <;> by_cases h2 : s.2 = t.2 <;> simp [h1, h2, Prod.ext_iff]
instance seatKey : TKey Try.prog 77 (K := ByteArray × ByteArray) seatV where
  check b k w := by
    have h9 : ∀ (n : Nat) (s : ByteArray), (Instr.checkKey b (n + 1) 9 (.string s)).run Try.prog w = .ok () w := fun n s => MapKept.run_checkKey Try.underlying9 (k := .string s) (by simp [MapKept.IsKey]) b n
    have p0 := part_str #[.string k.1, .string k.2] _ 0 w rfl
    have p1 := part_str #[.string k.1, .string k.2] _ 1 w rfl
    show (Instr.checkKey b (9998 + 1 + 1) 77 (seatV k)).run Try.prog w = _
    unfold Instr.checkKey seatV
    simp [run_underlying Try.underlying77, Result.andThen_ok, h9, p0, p1]
  find k es w := by
    rw [Go.run_findKey_eq (P := Try.prog) (w := w) (k := 77) (by rw [Try.underlying77]) (seatV k) _]
    have : ∀ i, (Instr.findAsking 77 (seatV k) (es.map (ent seatV)) i).run Try.prog w = .ok (findL k es i) w := by
      induction es with
      | nil => intro i; rfl
      | cons e es ih =>
        intro i
        simp only [List.map_cons, Instr.findAsking, ent, findL, Sem.run_bind, seat_equal, Result.andThen_ok]
        by_cases h : k = e.1
        · simp [h]
        · simp only [h, decide_false, if_false]
          exact ih (i + 1)
    exact this 0
  same k := by
    have hb : ∀ x : ByteArray, (x == x) = true := fun x => (MapKept.bytes_beq x x).2 rfl
    simp [Instr.sameBits, seatV, hb]
/-! The parts by their names. -/
def YM (es : List (ByteArray × Value × Nat)) (ps : List Part) : Prop := ∀ s, getL s es = (ps.findIdx? fun p => decide (p.name = s)).map fun i => Value.int .i64 (i : Int)
theorem YM.nil : YM [] [] := fun _ => rfl
theorem YM.step {es : List (ByteArray × Value × Nat)} {ps : List Part} {i : Nat} {x : Part} {c : Nat} (h : YM es (ps.take i)) (hx : ps[i]? = some x) :
    ((getL x.name es).isSome = true → YM es (ps.take (i + 1))) ∧ ((getL x.name es).isSome = false → YM (putL x.name (.int .i64 (i : Int)) c es) (ps.take (i + 1))) := by
  have hl : (ps.take i).length = i := by
    have := (List.getElem?_eq_some_iff.1 hx).1
    rw [List.length_take]; omega
  constructor
  · intro hs s
    rw [take_succ hx, List.findIdx?_append]
    have h1 := h x.name
    rw [h1] at hs
    rw [h s]
    by_cases he : x.name = s
    · rw [← he]
      cases hq : (ps.take i).findIdx? fun p => decide (p.name = x.name) with
      | none => rw [hq] at hs; cases hs
      | some k => rfl
    · simp [he]
  · intro hs s
    rw [take_succ hx, List.findIdx?_append, getL_put, h s, hl]
    have h1 := h x.name
    rw [h1] at hs
    by_cases he : s = x.name
    · rw [if_pos he, he]
      cases hq : (ps.take i).findIdx? fun p => decide (p.name = x.name) with
      | none => simp
      | some k => rw [hq] at hs; cases hs
    · rw [if_neg he]
      have : ¬ x.name = s := fun q => he q.symm
      simp [this]
theorem YM.find {es : List (ByteArray × Value × Nat)} {ps : List Part} (h : YM es ps) (s : ByteArray) : (findP ps s = none ∧ getL s es = none) ∨ ∃ (i : Nat) (x : Part), findP ps s = some x ∧ getL s es = some (.int .i64 (i : Int)) ∧ ps[i]? = some x := by
  have hs := h s
  cases hq : ps.findIdx? fun p => decide (p.name = s) with
  | none =>
    rw [hq] at hs
    refine .inl ⟨?_, hs⟩
    rw [List.findIdx?_eq_none_iff] at hq
    unfold findP
    rw [List.find?_eq_none]
    intro x hx
    simp [hq x hx]
  | some i =>
    rw [hq] at hs
    obtain ⟨hi, hp, hno⟩ := List.findIdx?_eq_some_iff_getElem.1 hq
    refine .inr ⟨i, ps[i], ?_, hs, List.getElem?_eq_getElem hi⟩
    unfold findP
    rw [List.find?_eq_some_iff_getElem]
    exact ⟨hp, i, hi, rfl, fun j hj => by simpa using hno j hj⟩
/-! The seats that are taken. -/
def fittedAt (ps : List Part) (s : ByteArray × ByteArray) : Bool := ps.any fun p => !decide (p.into = emp) && decide ((p.into, p.slot) = s)
def TM (es : List ((ByteArray × ByteArray) × Value × Nat)) (ps : List Part) : Prop := ∀ s, getL s es = if fittedAt ps s = true then some (Value.bool true) else none
theorem TM.nil : TM [] [] := fun _ => rfl
theorem TM.get {es : List ((ByteArray × ByteArray) × Value × Nat)} {ps : List Part} (h : TM es ps) (s : ByteArray × ByteArray) : (getL s es).getD (.bool false) = .bool (fittedAt ps s) := by
  rw [h s]
  cases fittedAt ps s <;> rfl
theorem TM.skip {es : List ((ByteArray × ByteArray) × Value × Nat)} {ps : List Part} {x : Part} (h : TM es ps) (hx : x.into = emp) : TM es (ps ++ [x]) := by
  intro s
  rw [h s]
  unfold fittedAt
  rw [List.any_append]
  simp [hx]
theorem TM.put {es : List ((ByteArray × ByteArray) × Value × Nat)} {ps : List Part} {x : Part} {c : Nat} (h : TM es ps) (hx : x.into ≠ emp) : TM (putL (x.into, x.slot) (.bool true) c es) (ps ++ [x]) := by
  intro s
  rw [getL_put, h s]
  unfold fittedAt
  rw [List.any_append]
  by_cases hs : s = (x.into, x.slot)
  · simp [hs, hx]
  · have : ¬ (x.into, x.slot) = s := fun q => hs q.symm
    simp [hs, this]
theorem mobjS_nil : (Obj.map #[] 0) = mobj (K := ByteArray × ByteArray) seatV [] 0 := rfl
/-- What is known of the first parts. -/
structure FV (ps : List Part) (k : Nat) : Prop where
  name : ∀ x ∈ ps.take k, x.name ≠ emp
  both : ∀ x ∈ ps.take k, x.into = emp ↔ x.slot = emp
  host : ∀ x ∈ ps.take k, x.into ≠ emp → (findP ps x.into).isSome = true
  seat : ∀ (i j : Nat) (x y : Part), i < j → j < k → ps[i]? = some x → ps[j]? = some y → x.into ≠ emp → x.into = y.into → x.slot = y.slot → False
theorem FV.zero {ps : List Part} : FV ps 0 := ⟨fun x h => by simp at h, fun x h => by simp at h, fun x h => by simp at h, fun i j x y _ h => absurd h (Nat.not_lt_zero _)⟩
theorem FV.step {ps : List Part} {k : Nat} {x : Part} (h : FV ps k) (hx : ps[k]? = some x) (h1 : x.name ≠ emp) (h2 : x.into = emp ↔ x.slot = emp) (h3 : x.into ≠ emp → (findP ps x.into).isSome = true ∧ fittedAt (ps.take k) (x.into, x.slot) = false) : FV ps (k + 1) := by
  have hm : ∀ y ∈ ps.take (k + 1), y ∈ ps.take k ∨ y = x := fun y hy => by
    rw [take_succ hx, List.mem_append, List.mem_singleton] at hy; exact hy
  refine ⟨fun y hy => ?_, fun y hy => ?_, fun y hy => ?_, fun i j a b hij hj ha hb hae q1 q2 => ?_⟩
  · rcases hm y hy with hy | rfl
    · exact h.name y hy
    · exact h1
  · rcases hm y hy with hy | rfl
    · exact h.both y hy
    · exact h2
  · rcases hm y hy with hy | rfl
    · exact h.host y hy
    · exact fun q => (h3 q).1
  · rcases Nat.lt_or_ge j k with hjk | hjk
    · exact h.seat i j a b hij hjk ha hb hae q1 q2
    · have : j = k := by omega
      subst this
      rw [hx] at hb
      cases hb
      have hf := (h3 (by rw [← q1]; exact hae)).2
      have : fittedAt (ps.take j) (x.into, x.slot) = true := by
        unfold fittedAt
        rw [List.any_eq_true]
        refine ⟨a, ?_, by simp [hae, q1, q2] <;> (rw [← q1]; exact hae)⟩
        rw [List.mem_take_iff_getElem]
        obtain ⟨hi', he⟩ := List.getElem?_eq_some_iff.1 ha
        exact ⟨i, by omega, he⟩
      rw [hf] at this
      cases this
theorem FV.all {ps : List Part} (h : FV ps ps.length) (ho : ordB (ps.map (·.name)) = true) : FleetOk ps := by
  have hd : ∀ (i j : Nat) (x y : Part), ps[i]? = some x → ps[j]? = some y → x.name = y.name → i = j := fun i j x y hx hy he =>
    incr_dist (ordB_incr _ ho) (a := x.name) (by rw [List.getElem?_map, hx]; rfl) (by rw [List.getElem?_map, hy, he]; rfl)
  refine ⟨hd, fun x hx => h.name x (by rw [List.take_length]; exact hx), fun x hx => h.both x (by rw [List.take_length]; exact hx), fun x hx => h.host x (by rw [List.take_length]; exact hx), fun i j x y hx hy he q1 q2 => ?_⟩
  have hi := (List.getElem?_eq_some_iff.1 hx).1
  have hj := (List.getElem?_eq_some_iff.1 hy).1
  rcases Nat.lt_trichotomy i j with hlt | heq | hgt
  · exact (h.seat i j x y hlt hj hx hy he q1 q2).elim
  · exact heq
  · exact (h.seat j i y x hgt hi hy hx (by rw [← q1]; exact he) q1.symm q2.symm).elim
attribute [local irreducible] Calls thenQ blockQ retQ Spc Spl Spq Ex Ev Evs Gd Upd ESub HKeep Res Res1 wlk effQ Rem SrcAt Split mobj
set_option maxRecDepth 100000 in
set_option maxHeartbeats 2000000 in
theorem of_c {w : World} {A : Option Addr} {n c : Nat} {ps : List Part} (h : RdS w w.heap.size 14 Part.cells A n ps) :
    Calls Try.prog 33 #[.agg #[.slice A n c]] w (RetH w (fun x : Nat × List (ByteArray × Value × Nat) × Nat => .agg #[.slice A n c, .map (some x.1)]) (fun x => [(x.1, mobj Value.string x.2.1 x.2.2)]) (fun x => YM x.2.1 ps)) := by
  have hbd := h.bound
  have hlen := h.len
  refine sp_enter (vs := [_]) Try.func33 rfl Try.ntmps33 rfl ?_
  repeat (first
    | (apply spl_makeMap rfl;intro _ _)
    | apply then_n|apply block_n|apply sp_seq|apply sp_region|apply spl_nil|apply then_r|apply block_r|apply then_e|apply block_here|apply block_past rfl
    | ((first|apply sp_cond_t|apply sp_cond_f);(·(first|exact eT rfl|exact eC|exact eG rfl|exact eL rfl|exact eLL rfl|exact eLLL rfl|exact eF|exact eGl));(·(first|exact decide_eq_true (by omega)|exact decide_eq_false (by omega)|assumption|rfl)))
    | (apply sp_cond_f;(·(first|exact eT rfl|exact eC|exact eG rfl|exact eL rfl|exact eLL rfl|exact eLLL rfl|exact eF|exact eGl));(·(first|exact decide_eq_false (by omega)|assumption|rfl)))
    | apply sp_skip|apply sp_ret|apply sp_exit|apply sp_block
    | ((first|apply spl_pure rfl|(apply spl_pure_g rfl;(·(first|exact Gd.none|exact Gd.tt rfl rfl|exact Gd.tf rfl rfl|exact Gd.gt rfl rfl|exact Gd.gf rfl rfl))));(·(first|((first|apply ex_move|apply ex_assign|apply ex_fieldAddr'|apply ex_not|apply ex_lss|apply ex_len)<;>(first|exact eT rfl|exact eC|exact eG rfl|exact eL rfl|exact eLL rfl|exact eLLL rfl|exact eF|exact eGl))|((first|apply ex_fieldAddr|apply ex_slen|apply ex_slss)<;>(first|exact eT rfl|exact eC|exact eG rfl|exact eL rfl|exact eLL rfl|exact eLLL rfl|exact eF|exact eGl))|(apply ex_addn<;>(first|exact eT rfl|exact eC|exact eG rfl|exact eL rfl|exact eLL rfl|exact eLLL rfl|exact eF|exact eGl|(constructor<;>omega)))|(apply ex_add<;>(first|exact eT rfl|exact eC|exact eG rfl|exact eL rfl|exact eLL rfl|exact eLLL rfl|exact eF|exact eGl))|((first|apply ex_loadown|apply ex_extract|apply ex_indexAddr)<;>(first|exact eT rfl|exact eC|exact eG rfl|exact eL rfl|exact eLL rfl|exact eLLL rfl|exact eF|exact eGl|exact Bk.own InH.mem|exact Bk.old (by assumption) (Nat.le_refl _)|rfl|assumption|omega))|((first|apply ex_loadowns|apply ex_indexAddrI)<;>(first|exact eT rfl|exact eC|exact eG rfl|exact eL rfl|exact eLL rfl|exact eLLL rfl|exact eF|exact eGl|exact Bk.own InH.mem|exact Bk.old (by assumption) (Nat.le_refl _)|(first|rfl|assumption)|(constructor<;>omega)))|(apply ex_build<;>(first|((repeat (first|exact eN|(apply eS;(·(first|exact eT rfl|exact eC|exact eG rfl|exact eL rfl|exact eLL rfl|exact eLLL rfl|exact eF|exact eGl)))));done)|rfl)))))
    | (apply spl_box;(·(first|exact eT rfl|exact eC|exact eG rfl|exact eL rfl|exact eLL rfl|exact eLLL rfl|exact eF|exact eGl));(·rfl);intro _ _)
    | (apply spl_alloc rfl;intro _ _)
    | (apply spl_store1;(·(first|exact eT rfl|exact eC|exact eG rfl|exact eL rfl|exact eLL rfl|exact eLLL rfl|exact eF|exact eGl));(·(first|exact eT rfl|exact eC|exact eG rfl|exact eL rfl|exact eLL rfl|exact eLLL rfl|exact eF|exact eGl));(·rfl);(·(repeat (first|exact Upd.here|apply Upd.there|apply Upd.app)));(·rfl))
    | (apply spl_stores;(·(first|exact eT rfl|exact eC|exact eG rfl|exact eL rfl|exact eLL rfl|exact eLLL rfl|exact eF|exact eGl));(·(first|exact eT rfl|exact eC|exact eG rfl|exact eL rfl|exact eLL rfl|exact eLLL rfl|exact eF|exact eGl));(·(repeat (first|exact Upd.here|apply Upd.there|apply Upd.app)));(·(first|rfl|assumption));(·(first|rfl|assumption));(·(first|exact Ones.one|assumption|exact ones_of_all rfl|decide|(intro v hv;simp at hv;(repeat (rcases hv with rfl | hv <;> first | rfl | skip));try (subst hv;rfl))))))
  rename_i g1 h1 g2 h2 g3 h3 g4 h4
  rw [mobj_nil]
  refine sp_loop (X := Nat × List (ByteArray × Value × Nat) × Nat) (fun x => [(15, true, .int .i64 (x.1 : Int)), (14, true, .int .i64 (n : Int)), (13, true, .slice A n c), (3, true, .pointer (some ⟨g4, 0, none⟩)), (2, true, .pointer (some ⟨g2, 0, none⟩))]) (fun _ => w) (fun x => [(g4, .cells #[.slice A n c, .map (some g3)] 71 (0, 0)), (g3, mobj Value.string x.2.1 x.2.2), (g2, .cells #[.slice none 0 0, .map none] 71 (0, 0))])
    (fun x => x.1 ≤ n ∧ YM x.2.1 (ps.take x.1)) (fun x => n - x.1) (0, [], 0) ⟨Nat.zero_le _, YM.nil⟩ (by (repeat (first|exact ESub.nil|apply ESub.cons rfl))) rfl (by (repeat (first|exact HKeep.refl|apply HKeep.keep|(apply HKeep.app;(·(repeat (first|exact Split.here|exact Split.all|apply Split.cons|apply Split.app))))|(apply HKeep.pick;(·(repeat (first|exact Rem.here|apply Rem.there|apply Rem.app))))|apply HKeep.drop (by first|assumption|omega)|apply HKeep.dropA (by assumption)))) ?_
  rintro ⟨i, es, ck⟩ ⟨hi, hY⟩
  replace hi : i ≤ n := hi
  replace hY : YM es (ps.take i) := hY
  dsimp only
  by_cases hlt : i < n
  · obtain ⟨ad, x, rfl, hb, hx, hsz, hc⟩ := h.at_ hlt
    obtain ⟨hs1, hs2⟩ := hY.step (c := ck) hx
    cases hg : (getL x.name es).isSome with
    | true =>
      repeat (first
        | apply then_n|apply block_n|apply sp_seq|apply sp_region|apply spl_nil|apply then_r|apply block_r|apply then_e|apply block_here|apply block_past rfl
        | ((first|apply sp_cond_t|apply sp_cond_f);(·(first|exact eT rfl|exact eC|exact eG rfl|exact eL rfl|exact eLL rfl|exact eLLL rfl|exact eF|exact eGl));(·(first|exact decide_eq_true (by omega)|exact decide_eq_false (by omega)|assumption|rfl)))
        | (apply sp_cond_f;(·(first|exact eT rfl|exact eC|exact eG rfl|exact eL rfl|exact eLL rfl|exact eLLL rfl|exact eF|exact eGl));(·(first|exact decide_eq_false (by omega)|assumption|rfl)))
        | apply sp_skip|apply sp_ret|apply sp_exit|apply sp_block
        | ((first|apply spl_pure rfl|(apply spl_pure_g rfl;(·(first|exact Gd.none|exact Gd.tt rfl rfl|exact Gd.tf rfl rfl|exact Gd.gt rfl rfl|exact Gd.gf rfl rfl))));(·(first|(apply ex_lookupOk rfl hg;(·(first|exact eT rfl|exact eC|exact eG rfl|exact eL rfl|exact eLL rfl|exact eLLL rfl|exact eF|exact eGl));(·(first|exact eT rfl|exact eC|exact eG rfl|exact eL rfl|exact eLL rfl|exact eLLL rfl|exact eF|exact eGl));(·(first|exact Bk.own InH.mem|exact Bk.old (by assumption) (Nat.le_refl _))))|(apply ex_loadelem (i:=i) (y:=x);(·(first|exact eT rfl|exact eC|exact eG rfl|exact eL rfl|exact eLL rfl|exact eLLL rfl|exact eF|exact eGl));(·exact h);(·rfl);(·exact hx))|((first|apply ex_move|apply ex_assign|apply ex_fieldAddr'|apply ex_not|apply ex_lss|apply ex_len)<;>(first|exact eT rfl|exact eC|exact eG rfl|exact eL rfl|exact eLL rfl|exact eLLL rfl|exact eF|exact eGl))|((first|apply ex_fieldAddr|apply ex_slen|apply ex_slss)<;>(first|exact eT rfl|exact eC|exact eG rfl|exact eL rfl|exact eLL rfl|exact eLLL rfl|exact eF|exact eGl))|(apply ex_addn<;>(first|exact eT rfl|exact eC|exact eG rfl|exact eL rfl|exact eLL rfl|exact eLLL rfl|exact eF|exact eGl|(constructor<;>omega)))|(apply ex_add<;>(first|exact eT rfl|exact eC|exact eG rfl|exact eL rfl|exact eLL rfl|exact eLLL rfl|exact eF|exact eGl))|((first|apply ex_loadown|apply ex_extract|apply ex_indexAddr)<;>(first|exact eT rfl|exact eC|exact eG rfl|exact eL rfl|exact eLL rfl|exact eLLL rfl|exact eF|exact eGl|exact Bk.own InH.mem|exact Bk.old (by assumption) (Nat.le_refl _)|rfl|assumption|omega))|((first|apply ex_loadowns|apply ex_indexAddrI)<;>(first|exact eT rfl|exact eC|exact eG rfl|exact eL rfl|exact eLL rfl|exact eLLL rfl|exact eF|exact eGl|exact Bk.own InH.mem|exact Bk.old (by assumption) (Nat.le_refl _)|(first|rfl|assumption)|(constructor<;>omega)))|(apply ex_build<;>(first|((repeat (first|exact eN|(apply eS;(·(first|exact eT rfl|exact eC|exact eG rfl|exact eL rfl|exact eLL rfl|exact eLLL rfl|exact eF|exact eGl)))));done)|rfl)))))
        | (apply spl_box;(·(first|exact eT rfl|exact eC|exact eG rfl|exact eL rfl|exact eLL rfl|exact eLLL rfl|exact eF|exact eGl));(·rfl);intro _ _)
        | (apply spl_alloc rfl;intro _ _)
        | (apply spl_store1;(·(first|exact eT rfl|exact eC|exact eG rfl|exact eL rfl|exact eLL rfl|exact eLLL rfl|exact eF|exact eGl));(·(first|exact eT rfl|exact eC|exact eG rfl|exact eL rfl|exact eLL rfl|exact eLLL rfl|exact eF|exact eGl));(·rfl);(·(repeat (first|exact Upd.here|apply Upd.there|apply Upd.app)));(·rfl))
        | (apply spl_stores;(·(first|exact eT rfl|exact eC|exact eG rfl|exact eL rfl|exact eLL rfl|exact eLLL rfl|exact eF|exact eGl));(·(first|exact eT rfl|exact eC|exact eG rfl|exact eL rfl|exact eLL rfl|exact eLLL rfl|exact eF|exact eGl));(·(repeat (first|exact Upd.here|apply Upd.there|apply Upd.app)));(·(first|rfl|assumption));(·(first|rfl|assumption));(·(first|exact Ones.one|assumption|exact ones_of_all rfl|decide|(intro v hv;simp at hv;(repeat (rcases hv with rfl | hv <;> first | rfl | skip));try (subst hv;rfl))))))
      exact ⟨(i + 1, es, ck), ⟨hlt, hs1 hg⟩, by show n - (i + 1) < n - i; omega, (by (repeat (first|exact ESub.nil|apply ESub.cons rfl))), rfl, (by (repeat (first|exact HKeep.refl|apply HKeep.keep|(apply HKeep.app;(·(repeat (first|exact Split.here|exact Split.all|apply Split.cons|apply Split.app))))|(apply HKeep.pick;(·(repeat (first|exact Rem.here|apply Rem.there|apply Rem.app))))|apply HKeep.drop (by first|assumption|omega)|apply HKeep.dropA (by assumption))))⟩
    | false =>
      repeat (first
        | (apply spl_mapUpdate (K:=ByteArray);(·(first|exact eT rfl|exact eC|exact eG rfl|exact eL rfl|exact eLL rfl|exact eLLL rfl|exact eF|exact eGl));(·(first|exact eT rfl|exact eC|exact eG rfl|exact eL rfl|exact eLL rfl|exact eLLL rfl|exact eF|exact eGl));(·(first|exact eT rfl|exact eC|exact eG rfl|exact eL rfl|exact eLL rfl|exact eLLL rfl|exact eF|exact eGl));(·(repeat (first|exact Upd.here|apply Upd.there|apply Upd.app))))
        | apply then_n|apply block_n|apply sp_seq|apply sp_region|apply spl_nil|apply then_r|apply block_r|apply then_e|apply block_here|apply block_past rfl
        | ((first|apply sp_cond_t|apply sp_cond_f);(·(first|exact eT rfl|exact eC|exact eG rfl|exact eL rfl|exact eLL rfl|exact eLLL rfl|exact eF|exact eGl));(·(first|exact decide_eq_true (by omega)|exact decide_eq_false (by omega)|assumption|rfl)))
        | (apply sp_cond_f;(·(first|exact eT rfl|exact eC|exact eG rfl|exact eL rfl|exact eLL rfl|exact eLLL rfl|exact eF|exact eGl));(·(first|exact decide_eq_false (by omega)|assumption|rfl)))
        | apply sp_skip|apply sp_ret|apply sp_exit|apply sp_block
        | ((first|apply spl_pure rfl|(apply spl_pure_g rfl;(·(first|exact Gd.none|exact Gd.tt rfl rfl|exact Gd.tf rfl rfl|exact Gd.gt rfl rfl|exact Gd.gf rfl rfl))));(·(first|(apply ex_lookupOk rfl hg;(·(first|exact eT rfl|exact eC|exact eG rfl|exact eL rfl|exact eLL rfl|exact eLLL rfl|exact eF|exact eGl));(·(first|exact eT rfl|exact eC|exact eG rfl|exact eL rfl|exact eLL rfl|exact eLLL rfl|exact eF|exact eGl));(·(first|exact Bk.own InH.mem|exact Bk.old (by assumption) (Nat.le_refl _))))|(apply ex_loadelem (i:=i) (y:=x);(·(first|exact eT rfl|exact eC|exact eG rfl|exact eL rfl|exact eLL rfl|exact eLLL rfl|exact eF|exact eGl));(·exact h);(·rfl);(·exact hx))|((first|apply ex_move|apply ex_assign|apply ex_fieldAddr'|apply ex_not|apply ex_lss|apply ex_len)<;>(first|exact eT rfl|exact eC|exact eG rfl|exact eL rfl|exact eLL rfl|exact eLLL rfl|exact eF|exact eGl))|((first|apply ex_fieldAddr|apply ex_slen|apply ex_slss)<;>(first|exact eT rfl|exact eC|exact eG rfl|exact eL rfl|exact eLL rfl|exact eLLL rfl|exact eF|exact eGl))|(apply ex_addn<;>(first|exact eT rfl|exact eC|exact eG rfl|exact eL rfl|exact eLL rfl|exact eLLL rfl|exact eF|exact eGl|(constructor<;>omega)))|(apply ex_add<;>(first|exact eT rfl|exact eC|exact eG rfl|exact eL rfl|exact eLL rfl|exact eLLL rfl|exact eF|exact eGl))|((first|apply ex_loadown|apply ex_extract|apply ex_indexAddr)<;>(first|exact eT rfl|exact eC|exact eG rfl|exact eL rfl|exact eLL rfl|exact eLLL rfl|exact eF|exact eGl|exact Bk.own InH.mem|exact Bk.old (by assumption) (Nat.le_refl _)|rfl|assumption|omega))|((first|apply ex_loadowns|apply ex_indexAddrI)<;>(first|exact eT rfl|exact eC|exact eG rfl|exact eL rfl|exact eLL rfl|exact eLLL rfl|exact eF|exact eGl|exact Bk.own InH.mem|exact Bk.old (by assumption) (Nat.le_refl _)|(first|rfl|assumption)|(constructor<;>omega)))|(apply ex_build<;>(first|((repeat (first|exact eN|(apply eS;(·(first|exact eT rfl|exact eC|exact eG rfl|exact eL rfl|exact eLL rfl|exact eLLL rfl|exact eF|exact eGl)))));done)|rfl)))))
        | (apply spl_box;(·(first|exact eT rfl|exact eC|exact eG rfl|exact eL rfl|exact eLL rfl|exact eLLL rfl|exact eF|exact eGl));(·rfl);intro _ _)
        | (apply spl_alloc rfl;intro _ _)
        | (apply spl_store1;(·(first|exact eT rfl|exact eC|exact eG rfl|exact eL rfl|exact eLL rfl|exact eLLL rfl|exact eF|exact eGl));(·(first|exact eT rfl|exact eC|exact eG rfl|exact eL rfl|exact eLL rfl|exact eLLL rfl|exact eF|exact eGl));(·rfl);(·(repeat (first|exact Upd.here|apply Upd.there|apply Upd.app)));(·rfl))
        | (apply spl_stores;(·(first|exact eT rfl|exact eC|exact eG rfl|exact eL rfl|exact eLL rfl|exact eLLL rfl|exact eF|exact eGl));(·(first|exact eT rfl|exact eC|exact eG rfl|exact eL rfl|exact eLL rfl|exact eLLL rfl|exact eF|exact eGl));(·(repeat (first|exact Upd.here|apply Upd.there|apply Upd.app)));(·(first|rfl|assumption));(·(first|rfl|assumption));(·(first|exact Ones.one|assumption|exact ones_of_all rfl|decide|(intro v hv;simp at hv;(repeat (rcases hv with rfl | hv <;> first | rfl | skip));try (subst hv;rfl))))))
      exact ⟨(i + 1, putL x.name (.int .i64 (i : Int)) ck es, tick x.name ck es), ⟨hlt, hs2 hg⟩, by show n - (i + 1) < n - i; omega, (by (repeat (first|exact ESub.nil|apply ESub.cons rfl))), rfl, (by (repeat (first|exact HKeep.refl|apply HKeep.keep|(apply HKeep.app;(·(repeat (first|exact Split.here|exact Split.all|apply Split.cons|apply Split.app))))|(apply HKeep.pick;(·(repeat (first|exact Rem.here|apply Rem.there|apply Rem.app))))|apply HKeep.drop (by first|assumption|omega)|apply HKeep.dropA (by assumption))))⟩
  · have hall : ps.take i = ps := List.take_of_length_le (by omega)
    rw [hall] at hY
    repeat (first
      | apply then_n|apply block_n|apply sp_seq|apply sp_region|apply spl_nil|apply then_r|apply block_r|apply then_e|apply block_here|apply block_past rfl
      | ((first|apply sp_cond_t|apply sp_cond_f);(·(first|exact eT rfl|exact eC|exact eG rfl|exact eL rfl|exact eLL rfl|exact eLLL rfl|exact eF|exact eGl));(·(first|exact decide_eq_true (by omega)|exact decide_eq_false (by omega)|assumption|rfl)))
      | (apply sp_cond_f;(·(first|exact eT rfl|exact eC|exact eG rfl|exact eL rfl|exact eLL rfl|exact eLLL rfl|exact eF|exact eGl));(·(first|exact decide_eq_false (by omega)|assumption|rfl)))
      | apply sp_skip|apply sp_ret|apply sp_exit|apply sp_block
      | ((first|apply spl_pure rfl|(apply spl_pure_g rfl;(·(first|exact Gd.none|exact Gd.tt rfl rfl|exact Gd.tf rfl rfl|exact Gd.gt rfl rfl|exact Gd.gf rfl rfl))));(·(first|((first|apply ex_move|apply ex_assign|apply ex_fieldAddr'|apply ex_not|apply ex_lss|apply ex_len)<;>(first|exact eT rfl|exact eC|exact eG rfl|exact eL rfl|exact eLL rfl|exact eLLL rfl|exact eF|exact eGl))|((first|apply ex_fieldAddr|apply ex_slen|apply ex_slss)<;>(first|exact eT rfl|exact eC|exact eG rfl|exact eL rfl|exact eLL rfl|exact eLLL rfl|exact eF|exact eGl))|(apply ex_addn<;>(first|exact eT rfl|exact eC|exact eG rfl|exact eL rfl|exact eLL rfl|exact eLLL rfl|exact eF|exact eGl|(constructor<;>omega)))|(apply ex_add<;>(first|exact eT rfl|exact eC|exact eG rfl|exact eL rfl|exact eLL rfl|exact eLLL rfl|exact eF|exact eGl))|((first|apply ex_loadown|apply ex_extract|apply ex_indexAddr)<;>(first|exact eT rfl|exact eC|exact eG rfl|exact eL rfl|exact eLL rfl|exact eLLL rfl|exact eF|exact eGl|exact Bk.own InH.mem|exact Bk.old (by assumption) (Nat.le_refl _)|rfl|assumption|omega))|((first|apply ex_loadowns|apply ex_indexAddrI)<;>(first|exact eT rfl|exact eC|exact eG rfl|exact eL rfl|exact eLL rfl|exact eLLL rfl|exact eF|exact eGl|exact Bk.own InH.mem|exact Bk.old (by assumption) (Nat.le_refl _)|(first|rfl|assumption)|(constructor<;>omega)))|(apply ex_build<;>(first|((repeat (first|exact eN|(apply eS;(·(first|exact eT rfl|exact eC|exact eG rfl|exact eL rfl|exact eLL rfl|exact eLLL rfl|exact eF|exact eGl)))));done)|rfl)))))
      | (apply spl_box;(·(first|exact eT rfl|exact eC|exact eG rfl|exact eL rfl|exact eLL rfl|exact eLLL rfl|exact eF|exact eGl));(·rfl);intro _ _)
      | (apply spl_alloc rfl;intro _ _)
      | (apply spl_store1;(·(first|exact eT rfl|exact eC|exact eG rfl|exact eL rfl|exact eLL rfl|exact eLLL rfl|exact eF|exact eGl));(·(first|exact eT rfl|exact eC|exact eG rfl|exact eL rfl|exact eLL rfl|exact eLLL rfl|exact eF|exact eGl));(·rfl);(·(repeat (first|exact Upd.here|apply Upd.there|apply Upd.app)));(·rfl))
      | (apply spl_stores;(·(first|exact eT rfl|exact eC|exact eG rfl|exact eL rfl|exact eLL rfl|exact eLLL rfl|exact eF|exact eGl));(·(first|exact eT rfl|exact eC|exact eG rfl|exact eL rfl|exact eLL rfl|exact eLLL rfl|exact eF|exact eGl));(·(repeat (first|exact Upd.here|apply Upd.there|apply Upd.app)));(·(first|rfl|assumption));(·(first|rfl|assumption));(·(first|exact Ones.one|assumption|exact ones_of_all rfl|decide|(intro v hv;simp at hv;(repeat (rcases hv with rfl | hv <;> first | rfl | skip));try (subst hv;rfl))))))
    (apply retH_ok rfl;(·(first|(apply Res.ofOne;(first|(apply Res1.tmp;(·rfl))|(apply Res1.cell;(·rfl);(·exact InH.mem);(·(first|rfl|assumption)))|(apply Res1.cell1;(·rfl);(·exact InH.mem);(·rfl))))|(apply Res.ofTwo<;>(first|(apply Res1.tmp;(·rfl))|(apply Res1.cell;(·rfl);(·exact InH.mem);(·(first|rfl|assumption)))|(apply Res1.cell1;(·rfl);(·exact InH.mem);(·rfl))))|(apply Res.ofThree<;>(first|(apply Res1.tmp;(·rfl))|(apply Res1.cell;(·rfl);(·exact InH.mem);(·(first|rfl|assumption)))|(apply Res1.cell1;(·rfl);(·exact InH.mem);(·rfl))))|exact Res.none_)))
    exact ⟨(g3, es, ck), rfl, hY, by (repeat (first|exact HKeep.refl|apply HKeep.keep|(apply HKeep.app;(·(repeat (first|exact Split.here|exact Split.all|apply Split.cons|apply Split.app))))|(apply HKeep.pick;(·(repeat (first|exact Rem.here|apply Rem.there|apply Rem.app))))|apply HKeep.drop (by first|assumption|omega)|apply HKeep.dropA (by assumption)))⟩
set_option maxRecDepth 100000 in
set_option maxHeartbeats 2000000 in
theorem get_c {w : World} {A : Option Addr} {n c g ck : Nat} {ps : List Part} {es : List (ByteArray × Value × Nat)} {s : ByteArray} (h : RdS w w.heap.size 14 Part.cells A n ps) (hb : w.heap[g]? = some (mobj Value.string es ck)) (hY : YM es ps) :
    Calls Try.prog 35 #[.agg #[.slice A n c, .map (some g)], .string s] w (Ret w (.tuple #[.agg ((findP ps s).getD Part.zero).cells, .bool (findP ps s).isSome])) := by
  have hbd := h.bound
  have hlen := h.len
  refine sp_enter (vs := [_, _]) Try.func35 rfl Try.ntmps35 rfl ?_
  rcases hY.find s with ⟨hf, hg⟩ | ⟨i, x, hf, hg, hx⟩
  · have hg2 : (getL s es).isSome = false := by rw [hg]; rfl
    repeat (first
      | apply then_n|apply block_n|apply sp_seq|apply sp_region|apply spl_nil|apply then_r|apply block_r|apply then_e|apply block_here|apply block_past rfl
      | ((first|apply sp_cond_t|apply sp_cond_f);(·(first|exact eT rfl|exact eC|exact eG rfl|exact eL rfl|exact eLL rfl|exact eLLL rfl|exact eF|exact eGl));(·(first|exact decide_eq_true (by omega)|exact decide_eq_false (by omega)|assumption|rfl)))
      | (apply sp_cond_f;(·(first|exact eT rfl|exact eC|exact eG rfl|exact eL rfl|exact eLL rfl|exact eLLL rfl|exact eF|exact eGl));(·(first|exact decide_eq_false (by omega)|assumption|rfl)))
      | apply sp_skip|apply sp_ret|apply sp_exit|apply sp_block
      | ((first|apply spl_pure rfl|(apply spl_pure_g rfl;(·(first|exact Gd.none|exact Gd.tt rfl rfl|exact Gd.tf rfl rfl|exact Gd.gt rfl rfl|exact Gd.gf rfl rfl))));(·(first|(apply ex_lookupOk rfl hg2;(·(first|exact eT rfl|exact eC|exact eG rfl|exact eL rfl|exact eLL rfl|exact eLLL rfl|exact eF|exact eGl));(·(first|exact eT rfl|exact eC|exact eG rfl|exact eL rfl|exact eLL rfl|exact eLLL rfl|exact eF|exact eGl));(·(first|exact Bk.own InH.mem|exact Bk.old (by assumption) (Nat.le_refl _))))|(apply ex_buildE (r:=Part.zero.cells);(·(repeat (first|exact eN|(apply eS;(·(first|exact eT rfl|exact eC|exact eG rfl|exact eL rfl|exact eLL rfl|exact eLLL rfl|exact eF|exact eGl))))));(·rfl);(·rfl))|((first|apply ex_move|apply ex_assign|apply ex_fieldAddr'|apply ex_not)<;>(first|exact eT rfl|exact eC|exact eG rfl|exact eL rfl|exact eLL rfl|exact eLLL rfl|exact eF|exact eGl))|(apply ex_fieldAddr<;>(first|exact eT rfl|exact eC|exact eG rfl|exact eL rfl|exact eLL rfl|exact eLLL rfl|exact eF|exact eGl))|((first|apply ex_loadown|apply ex_extract|apply ex_indexAddr)<;>(first|exact eT rfl|exact eC|exact eG rfl|exact eL rfl|exact eLL rfl|exact eLLL rfl|exact eF|exact eGl|exact Bk.own InH.mem|exact Bk.old (by assumption) (Nat.le_refl _)|rfl|assumption|omega))|((first|apply ex_loadowns|apply ex_indexAddrI)<;>(first|exact eT rfl|exact eC|exact eG rfl|exact eL rfl|exact eLL rfl|exact eLLL rfl|exact eF|exact eGl|exact Bk.own InH.mem|exact Bk.old (by assumption) (Nat.le_refl _)|(first|rfl|assumption)|(constructor<;>omega)))|(apply ex_build<;>(first|((repeat (first|exact eN|(apply eS;(·(first|exact eT rfl|exact eC|exact eG rfl|exact eL rfl|exact eLL rfl|exact eLLL rfl|exact eF|exact eGl)))));done)|rfl)))))
      | (apply spl_box;(·(first|exact eT rfl|exact eC|exact eG rfl|exact eL rfl|exact eLL rfl|exact eLLL rfl|exact eF|exact eGl));(·rfl);intro _ _)
      | (apply spl_alloc rfl;intro _ _)
      | (apply spl_store1;(·(first|exact eT rfl|exact eC|exact eG rfl|exact eL rfl|exact eLL rfl|exact eLLL rfl|exact eF|exact eGl));(·(first|exact eT rfl|exact eC|exact eG rfl|exact eL rfl|exact eLL rfl|exact eLLL rfl|exact eF|exact eGl));(·rfl);(·(repeat (first|exact Upd.here|apply Upd.there|apply Upd.app)));(·rfl))
      | (apply spl_stores;(·(first|exact eT rfl|exact eC|exact eG rfl|exact eL rfl|exact eLL rfl|exact eLLL rfl|exact eF|exact eGl));(·(first|exact eT rfl|exact eC|exact eG rfl|exact eL rfl|exact eLL rfl|exact eLLL rfl|exact eF|exact eGl));(·(repeat (first|exact Upd.here|apply Upd.there|apply Upd.app)));(·(first|rfl|assumption));(·(first|rfl|assumption));(·(first|exact Ones.one|assumption|exact ones_of_all rfl|decide|(intro v hv;simp at hv;(repeat (rcases hv with rfl | hv <;> first | rfl | skip));try (subst hv;rfl))))))
    (apply ret_ok rfl;(·(first|(apply Res.ofOne;(first|(apply Res1.tmp;(·rfl))|(apply Res1.cell;(·rfl);(·exact InH.mem);(·(first|rfl|assumption)))|(apply Res1.cell1;(·rfl);(·exact InH.mem);(·rfl))))|(apply Res.ofTwo<;>(first|(apply Res1.tmp;(·rfl))|(apply Res1.cell;(·rfl);(·exact InH.mem);(·(first|rfl|assumption)))|(apply Res1.cell1;(·rfl);(·exact InH.mem);(·rfl))))|(apply Res.ofThree<;>(first|(apply Res1.tmp;(·rfl))|(apply Res1.cell;(·rfl);(·exact InH.mem);(·(first|rfl|assumption)))|(apply Res1.cell1;(·rfl);(·exact InH.mem);(·rfl))))|exact Res.none_))); rw [hf]; rfl
  · have hg2 : (getL s es).isSome = true := by rw [hg]; rfl
    have hg3 : (getL s es).getD (.int .i64 0) = .int .i64 (i : Int) := by rw [hg]; rfl
    have hi : i < n := by have := (List.getElem?_eq_some_iff.1 hx).1; omega
    obtain ⟨ad, x', rfl, hb', hx', hsz, hc⟩ := h.at_ hi
    rw [hx] at hx'; cases hx'
    repeat (first
      | apply then_n|apply block_n|apply sp_seq|apply sp_region|apply spl_nil|apply then_r|apply block_r|apply then_e|apply block_here|apply block_past rfl
      | ((first|apply sp_cond_t|apply sp_cond_f);(·(first|exact eT rfl|exact eC|exact eG rfl|exact eL rfl|exact eLL rfl|exact eLLL rfl|exact eF|exact eGl));(·(first|exact decide_eq_true (by omega)|exact decide_eq_false (by omega)|assumption|rfl)))
      | (apply sp_cond_f;(·(first|exact eT rfl|exact eC|exact eG rfl|exact eL rfl|exact eLL rfl|exact eLLL rfl|exact eF|exact eGl));(·(first|exact decide_eq_false (by omega)|assumption|rfl)))
      | apply sp_skip|apply sp_ret|apply sp_exit|apply sp_block
      | ((first|apply spl_pure rfl|(apply spl_pure_g rfl;(·(first|exact Gd.none|exact Gd.tt rfl rfl|exact Gd.tf rfl rfl|exact Gd.gt rfl rfl|exact Gd.gf rfl rfl))));(·(first|(apply ex_lookupOk hg3 hg2;(·(first|exact eT rfl|exact eC|exact eG rfl|exact eL rfl|exact eLL rfl|exact eLLL rfl|exact eF|exact eGl));(·(first|exact eT rfl|exact eC|exact eG rfl|exact eL rfl|exact eLL rfl|exact eLLL rfl|exact eF|exact eGl));(·(first|exact Bk.own InH.mem|exact Bk.old (by assumption) (Nat.le_refl _))))|(apply ex_loadelem (i:=i) (y:=x);(·(first|exact eT rfl|exact eC|exact eG rfl|exact eL rfl|exact eLL rfl|exact eLLL rfl|exact eF|exact eGl));(·exact h);(·rfl);(·exact hx))|((first|apply ex_move|apply ex_assign|apply ex_fieldAddr'|apply ex_not)<;>(first|exact eT rfl|exact eC|exact eG rfl|exact eL rfl|exact eLL rfl|exact eLLL rfl|exact eF|exact eGl))|(apply ex_fieldAddr<;>(first|exact eT rfl|exact eC|exact eG rfl|exact eL rfl|exact eLL rfl|exact eLLL rfl|exact eF|exact eGl))|((first|apply ex_loadown|apply ex_extract|apply ex_indexAddr)<;>(first|exact eT rfl|exact eC|exact eG rfl|exact eL rfl|exact eLL rfl|exact eLLL rfl|exact eF|exact eGl|exact Bk.own InH.mem|exact Bk.old (by assumption) (Nat.le_refl _)|rfl|assumption|omega))|((first|apply ex_loadowns|apply ex_indexAddrI)<;>(first|exact eT rfl|exact eC|exact eG rfl|exact eL rfl|exact eLL rfl|exact eLLL rfl|exact eF|exact eGl|exact Bk.own InH.mem|exact Bk.old (by assumption) (Nat.le_refl _)|(first|rfl|assumption)|(constructor<;>omega)))|(apply ex_build<;>(first|((repeat (first|exact eN|(apply eS;(·(first|exact eT rfl|exact eC|exact eG rfl|exact eL rfl|exact eLL rfl|exact eLLL rfl|exact eF|exact eGl)))));done)|rfl)))))
      | (apply spl_box;(·(first|exact eT rfl|exact eC|exact eG rfl|exact eL rfl|exact eLL rfl|exact eLLL rfl|exact eF|exact eGl));(·rfl);intro _ _)
      | (apply spl_alloc rfl;intro _ _)
      | (apply spl_store1;(·(first|exact eT rfl|exact eC|exact eG rfl|exact eL rfl|exact eLL rfl|exact eLLL rfl|exact eF|exact eGl));(·(first|exact eT rfl|exact eC|exact eG rfl|exact eL rfl|exact eLL rfl|exact eLLL rfl|exact eF|exact eGl));(·rfl);(·(repeat (first|exact Upd.here|apply Upd.there|apply Upd.app)));(·rfl))
      | (apply spl_stores;(·(first|exact eT rfl|exact eC|exact eG rfl|exact eL rfl|exact eLL rfl|exact eLLL rfl|exact eF|exact eGl));(·(first|exact eT rfl|exact eC|exact eG rfl|exact eL rfl|exact eLL rfl|exact eLLL rfl|exact eF|exact eGl));(·(repeat (first|exact Upd.here|apply Upd.there|apply Upd.app)));(·(first|rfl|assumption));(·(first|rfl|assumption));(·(first|exact Ones.one|assumption|exact ones_of_all rfl|decide|(intro v hv;simp at hv;(repeat (rcases hv with rfl | hv <;> first | rfl | skip));try (subst hv;rfl))))))
    (apply ret_ok rfl;(·(first|(apply Res.ofOne;(first|(apply Res1.tmp;(·rfl))|(apply Res1.cell;(·rfl);(·exact InH.mem);(·(first|rfl|assumption)))|(apply Res1.cell1;(·rfl);(·exact InH.mem);(·rfl))))|(apply Res.ofTwo<;>(first|(apply Res1.tmp;(·rfl))|(apply Res1.cell;(·rfl);(·exact InH.mem);(·(first|rfl|assumption)))|(apply Res1.cell1;(·rfl);(·exact InH.mem);(·rfl))))|(apply Res.ofThree<;>(first|(apply Res1.tmp;(·rfl))|(apply Res1.cell;(·rfl);(·exact InH.mem);(·(first|rfl|assumption)))|(apply Res1.cell1;(·rfl);(·exact InH.mem);(·rfl))))|exact Res.none_))); rw [hf]; rfl
set_option maxRecDepth 100000 in
set_option maxHeartbeats 4000000 in
theorem fleetValid_c {w : World} {A A2 : Option Addr} {n c n2 c2 : Nat} {ks : List KindR} {ps : List Part} (hK : RdKinds w w.heap.size ⟨A, n, c⟩ ks) (hsm : ∀ k ∈ ks, k.name.size < 9223372036854775808 ∧ ∀ s ∈ k.slots, s.name.size < 9223372036854775808)
    (hP : RdParts w w.heap.size ⟨A2, n2, c2⟩ ps) (hsp : ∀ p ∈ ps, p.name.size < 9223372036854775808 ∧ ∀ x ∈ p.plist, x.key.size < 9223372036854775808) :
    Calls Try.prog 17 #[.agg #[.slice A n c], .agg #[.slice A2 n2 c2]] w (RetP w Value.bool (fun b => b = true → FleetOk ps)) := by
  have hbd : n2 ≤ 9223372036854775807 := hP.1.bound
  have hlen : ps.length = n2 := hP.1.len
  refine sp_enter (vs := [_, _]) Try.func17 rfl Try.ntmps17 rfl ?_
  repeat (first
    | (apply spl_callp rfl;(·(repeat (first|exact eN|(apply eS;(·(first|exact eT rfl|exact eC|exact eG rfl|exact eL rfl|exact eLL rfl|exact eLLL rfl|exact eF|exact eGl))))));(·exact fun w' hh => valid_c (hK.hp hh) hsm))
    | (apply spl_callp_g rfl;(·(first|exact Gd.none|exact Gd.tt rfl rfl|exact Gd.tf rfl rfl|exact Gd.gt rfl rfl|exact Gd.gf rfl rfl));(·(repeat (first|exact eN|(apply eS;(·(first|exact eT rfl|exact eC|exact eG rfl|exact eL rfl|exact eLL rfl|exact eLLL rfl|exact eF|exact eGl))))));(·exact fun _ w' hh => ordered_part (hP.1.hp' hh)))
    | apply then_n|apply block_n|apply sp_seq|apply sp_region|apply spl_nil|apply then_r|apply block_r|apply then_e|apply block_here|apply block_past rfl
    | ((first|apply sp_cond_t|apply sp_cond_f);(·(first|exact eT rfl|exact eC|exact eG rfl|exact eL rfl|exact eLL rfl|exact eLLL rfl|exact eF|exact eGl));(·(first|exact decide_eq_true (by omega)|exact decide_eq_false (by omega)|assumption|rfl)))
    | (apply sp_cond_f;(·(first|exact eT rfl|exact eC|exact eG rfl|exact eL rfl|exact eLL rfl|exact eLLL rfl|exact eF|exact eGl));(·(first|exact decide_eq_false (by omega)|assumption|rfl)))
    | apply sp_skip|apply sp_ret|apply sp_exit|apply sp_block
    | ((first|apply spl_pure rfl|(apply spl_pure_g rfl;(·(first|exact Gd.none|exact Gd.tt rfl rfl|exact Gd.tf rfl rfl|exact Gd.gt rfl rfl|exact Gd.gf rfl rfl))));(·(first|((first|apply ex_move|apply ex_assign|apply ex_fieldAddr'|apply ex_not|apply ex_lss|apply ex_gtr|apply ex_seql|apply ex_sneq|apply ex_len|apply ex_andT)<;>(first|exact eT rfl|exact eC|exact eG rfl|exact eL rfl|exact eLL rfl|exact eLLL rfl|exact eF|exact eGl))|((first|apply ex_fieldAddr|apply ex_eql|apply ex_neq|apply ex_slen|apply ex_orT|apply ex_slss)<;>(first|exact eT rfl|exact eC|exact eG rfl|exact eL rfl|exact eLL rfl|exact eLLL rfl|exact eF|exact eGl))|((first|apply ex_beql|apply ex_bneq|apply ex_and)<;>(first|exact eT rfl|exact eC|exact eG rfl|exact eL rfl|exact eLL rfl|exact eLLL rfl|exact eF|exact eGl))|((first|apply ex_or|apply ex_peql|apply ex_pneq)<;>(first|exact eT rfl|exact eC|exact eG rfl|exact eL rfl|exact eLL rfl|exact eLLL rfl|exact eF|exact eGl))|(apply ex_addn<;>(first|exact eT rfl|exact eC|exact eG rfl|exact eL rfl|exact eLL rfl|exact eLLL rfl|exact eF|exact eGl|(constructor<;>omega)))|(apply ex_add<;>(first|exact eT rfl|exact eC|exact eG rfl|exact eL rfl|exact eLL rfl|exact eLLL rfl|exact eF|exact eGl))|((first|apply ex_loadown|apply ex_extract|apply ex_indexAddr)<;>(first|exact eT rfl|exact eC|exact eG rfl|exact eL rfl|exact eLL rfl|exact eLLL rfl|exact eF|exact eGl|exact Bk.own InH.mem|exact Bk.old (by assumption) (Nat.le_refl _)|rfl|assumption|omega))|((first|apply ex_loadowns|apply ex_indexAddrI)<;>(first|exact eT rfl|exact eC|exact eG rfl|exact eL rfl|exact eLL rfl|exact eLLL rfl|exact eF|exact eGl|exact Bk.own InH.mem|exact Bk.old (by assumption) (Nat.le_refl _)|(first|rfl|assumption)|(constructor<;>omega)))|(apply ex_build<;>(first|((repeat (first|exact eN|(apply eS;(·(first|exact eT rfl|exact eC|exact eG rfl|exact eL rfl|exact eLL rfl|exact eLLL rfl|exact eF|exact eGl)))));done)|rfl)))))
    | (apply spl_box;(·(first|exact eT rfl|exact eC|exact eG rfl|exact eL rfl|exact eLL rfl|exact eLLL rfl|exact eF|exact eGl));(·rfl);intro _ _)
    | (apply spl_alloc rfl;intro _ _)
    | (apply spl_store1;(·(first|exact eT rfl|exact eC|exact eG rfl|exact eL rfl|exact eLL rfl|exact eLLL rfl|exact eF|exact eGl));(·(first|exact eT rfl|exact eC|exact eG rfl|exact eL rfl|exact eLL rfl|exact eLLL rfl|exact eF|exact eGl));(·rfl);(·(repeat (first|exact Upd.here|apply Upd.there|apply Upd.app)));(·rfl))
    | (apply spl_stores;(·(first|exact eT rfl|exact eC|exact eG rfl|exact eL rfl|exact eLL rfl|exact eLLL rfl|exact eF|exact eGl));(·(first|exact eT rfl|exact eC|exact eG rfl|exact eL rfl|exact eLL rfl|exact eLLL rfl|exact eF|exact eGl));(·(repeat (first|exact Upd.here|apply Upd.there|apply Upd.app)));(·(first|rfl|assumption));(·(first|rfl|assumption));(·(first|exact Ones.one|assumption|exact ones_of_all rfl|decide|(intro v hv;simp at hv;(repeat (rcases hv with rfl | hv <;> first | rfl | skip));try (subst hv;rfl)))))
    | (apply spl_guard_t;(·(first|exact Gd.none|exact Gd.tt rfl rfl|exact Gd.tf rfl rfl|exact Gd.gt rfl rfl|exact Gd.gf rfl rfl));(·rfl))|(apply spl_guard_f;(·(first|exact Gd.none|exact Gd.tt rfl rfl|exact Gd.tf rfl rfl|exact Gd.gt rfl rfl|exact Gd.gf rfl rfl));(·rfl);(·rfl)))
  refine sp_cond (eT rfl) (fun hc => ?_) (fun hc => ?_)
  · repeat (first
      | apply then_n|apply block_n|apply sp_seq|apply sp_region|apply spl_nil|apply then_r|apply block_r|apply then_e|apply block_here|apply block_past rfl
      | ((first|apply sp_cond_t|apply sp_cond_f);(·(first|exact eT rfl|exact eC|exact eG rfl|exact eL rfl|exact eLL rfl|exact eLLL rfl|exact eF|exact eGl));(·(first|exact decide_eq_true (by omega)|exact decide_eq_false (by omega)|assumption|rfl)))
      | (apply sp_cond_f;(·(first|exact eT rfl|exact eC|exact eG rfl|exact eL rfl|exact eLL rfl|exact eLLL rfl|exact eF|exact eGl));(·(first|exact decide_eq_false (by omega)|assumption|rfl)))
      | apply sp_skip|apply sp_ret|apply sp_exit|apply sp_block
      | ((first|apply spl_pure rfl|(apply spl_pure_g rfl;(·(first|exact Gd.none|exact Gd.tt rfl rfl|exact Gd.tf rfl rfl|exact Gd.gt rfl rfl|exact Gd.gf rfl rfl))));(·(first|((first|apply ex_move|apply ex_assign|apply ex_fieldAddr'|apply ex_not|apply ex_lss|apply ex_gtr|apply ex_seql|apply ex_sneq|apply ex_len|apply ex_andT)<;>(first|exact eT rfl|exact eC|exact eG rfl|exact eL rfl|exact eLL rfl|exact eLLL rfl|exact eF|exact eGl))|((first|apply ex_fieldAddr|apply ex_eql|apply ex_neq|apply ex_slen|apply ex_orT|apply ex_slss)<;>(first|exact eT rfl|exact eC|exact eG rfl|exact eL rfl|exact eLL rfl|exact eLLL rfl|exact eF|exact eGl))|((first|apply ex_beql|apply ex_bneq|apply ex_and)<;>(first|exact eT rfl|exact eC|exact eG rfl|exact eL rfl|exact eLL rfl|exact eLLL rfl|exact eF|exact eGl))|((first|apply ex_or|apply ex_peql|apply ex_pneq)<;>(first|exact eT rfl|exact eC|exact eG rfl|exact eL rfl|exact eLL rfl|exact eLLL rfl|exact eF|exact eGl))|(apply ex_addn<;>(first|exact eT rfl|exact eC|exact eG rfl|exact eL rfl|exact eLL rfl|exact eLLL rfl|exact eF|exact eGl|(constructor<;>omega)))|(apply ex_add<;>(first|exact eT rfl|exact eC|exact eG rfl|exact eL rfl|exact eLL rfl|exact eLLL rfl|exact eF|exact eGl))|((first|apply ex_loadown|apply ex_extract|apply ex_indexAddr)<;>(first|exact eT rfl|exact eC|exact eG rfl|exact eL rfl|exact eLL rfl|exact eLLL rfl|exact eF|exact eGl|exact Bk.own InH.mem|exact Bk.old (by assumption) (Nat.le_refl _)|rfl|assumption|omega))|((first|apply ex_loadowns|apply ex_indexAddrI)<;>(first|exact eT rfl|exact eC|exact eG rfl|exact eL rfl|exact eLL rfl|exact eLLL rfl|exact eF|exact eGl|exact Bk.own InH.mem|exact Bk.old (by assumption) (Nat.le_refl _)|(first|rfl|assumption)|(constructor<;>omega)))|(apply ex_build<;>(first|((repeat (first|exact eN|(apply eS;(·(first|exact eT rfl|exact eC|exact eG rfl|exact eL rfl|exact eLL rfl|exact eLLL rfl|exact eF|exact eGl)))));done)|rfl)))))
      | (apply spl_box;(·(first|exact eT rfl|exact eC|exact eG rfl|exact eL rfl|exact eLL rfl|exact eLLL rfl|exact eF|exact eGl));(·rfl);intro _ _)
      | (apply spl_alloc rfl;intro _ _)
      | (apply spl_store1;(·(first|exact eT rfl|exact eC|exact eG rfl|exact eL rfl|exact eLL rfl|exact eLLL rfl|exact eF|exact eGl));(·(first|exact eT rfl|exact eC|exact eG rfl|exact eL rfl|exact eLL rfl|exact eLLL rfl|exact eF|exact eGl));(·rfl);(·(repeat (first|exact Upd.here|apply Upd.there|apply Upd.app)));(·rfl))
      | (apply spl_stores;(·(first|exact eT rfl|exact eC|exact eG rfl|exact eL rfl|exact eLL rfl|exact eLLL rfl|exact eF|exact eGl));(·(first|exact eT rfl|exact eC|exact eG rfl|exact eL rfl|exact eLL rfl|exact eLLL rfl|exact eF|exact eGl));(·(repeat (first|exact Upd.here|apply Upd.there|apply Upd.app)));(·(first|rfl|assumption));(·(first|rfl|assumption));(·(first|exact Ones.one|assumption|exact ones_of_all rfl|decide|(intro v hv;simp at hv;(repeat (rcases hv with rfl | hv <;> first | rfl | skip));try (subst hv;rfl)))))
      | (apply spl_guard_t;(·(first|exact Gd.none|exact Gd.tt rfl rfl|exact Gd.tf rfl rfl|exact Gd.gt rfl rfl|exact Gd.gf rfl rfl));(·rfl))|(apply spl_guard_f;(·(first|exact Gd.none|exact Gd.tt rfl rfl|exact Gd.tf rfl rfl|exact Gd.gt rfl rfl|exact Gd.gf rfl rfl));(·rfl);(·rfl)))
    (apply retP_ok rfl;(·(first|(apply Res.ofOne;(first|(apply Res1.tmp;(·rfl))|(apply Res1.cell;(·rfl);(·exact InH.mem);(·(first|rfl|assumption)))|(apply Res1.cell1;(·rfl);(·exact InH.mem);(·rfl))))|(apply Res.ofTwo<;>(first|(apply Res1.tmp;(·rfl))|(apply Res1.cell;(·rfl);(·exact InH.mem);(·(first|rfl|assumption)))|(apply Res1.cell1;(·rfl);(·exact InH.mem);(·rfl))))|(apply Res.ofThree<;>(first|(apply Res1.tmp;(·rfl))|(apply Res1.cell;(·rfl);(·exact InH.mem);(·(first|rfl|assumption)))|(apply Res1.cell1;(·rfl);(·exact InH.mem);(·rfl))))|exact Res.none_))); exact ⟨false, rfl, fun h => by cases h⟩
  · have hord : ordB (ps.map (·.name)) = true := by
      revert hc
      cases ordB (ps.map (·.name)) <;> simp
    repeat (first
      | (apply spl_makeMap rfl;intro _ _)
      | (apply spl_callh rfl;(·(repeat (first|exact eN|(apply eS;(·(first|exact eT rfl|exact eC|exact eG rfl|exact eL rfl|exact eLL rfl|exact eLLL rfl|exact eF|exact eGl))))));(·exact fun w' hh => of_c (hP.1.hp' hh));(rintro ⟨gy, ye, yc⟩ hY hfr))
      | apply then_n|apply block_n|apply sp_seq|apply sp_region|apply spl_nil|apply then_r|apply block_r|apply then_e|apply block_here|apply block_past rfl
      | ((first|apply sp_cond_t|apply sp_cond_f);(·(first|exact eT rfl|exact eC|exact eG rfl|exact eL rfl|exact eLL rfl|exact eLLL rfl|exact eF|exact eGl));(·(first|exact decide_eq_true (by omega)|exact decide_eq_false (by omega)|assumption|rfl)))
      | (apply sp_cond_f;(·(first|exact eT rfl|exact eC|exact eG rfl|exact eL rfl|exact eLL rfl|exact eLLL rfl|exact eF|exact eGl));(·(first|exact decide_eq_false (by omega)|assumption|rfl)))
      | apply sp_skip|apply sp_ret|apply sp_exit|apply sp_block
      | ((first|apply spl_pure rfl|(apply spl_pure_g rfl;(·(first|exact Gd.none|exact Gd.tt rfl rfl|exact Gd.tf rfl rfl|exact Gd.gt rfl rfl|exact Gd.gf rfl rfl))));(·(first|((first|apply ex_move|apply ex_assign|apply ex_fieldAddr'|apply ex_not|apply ex_lss|apply ex_gtr|apply ex_seql|apply ex_sneq|apply ex_len|apply ex_andT)<;>(first|exact eT rfl|exact eC|exact eG rfl|exact eL rfl|exact eLL rfl|exact eLLL rfl|exact eF|exact eGl))|((first|apply ex_fieldAddr|apply ex_eql|apply ex_neq|apply ex_slen|apply ex_orT|apply ex_slss)<;>(first|exact eT rfl|exact eC|exact eG rfl|exact eL rfl|exact eLL rfl|exact eLLL rfl|exact eF|exact eGl))|((first|apply ex_beql|apply ex_bneq|apply ex_and)<;>(first|exact eT rfl|exact eC|exact eG rfl|exact eL rfl|exact eLL rfl|exact eLLL rfl|exact eF|exact eGl))|((first|apply ex_or|apply ex_peql|apply ex_pneq)<;>(first|exact eT rfl|exact eC|exact eG rfl|exact eL rfl|exact eLL rfl|exact eLLL rfl|exact eF|exact eGl))|(apply ex_addn<;>(first|exact eT rfl|exact eC|exact eG rfl|exact eL rfl|exact eLL rfl|exact eLLL rfl|exact eF|exact eGl|(constructor<;>omega)))|(apply ex_add<;>(first|exact eT rfl|exact eC|exact eG rfl|exact eL rfl|exact eLL rfl|exact eLLL rfl|exact eF|exact eGl))|((first|apply ex_loadown|apply ex_extract|apply ex_indexAddr)<;>(first|exact eT rfl|exact eC|exact eG rfl|exact eL rfl|exact eLL rfl|exact eLLL rfl|exact eF|exact eGl|exact Bk.own InH.mem|exact Bk.old (by assumption) (Nat.le_refl _)|rfl|assumption|omega))|((first|apply ex_loadowns|apply ex_indexAddrI)<;>(first|exact eT rfl|exact eC|exact eG rfl|exact eL rfl|exact eLL rfl|exact eLLL rfl|exact eF|exact eGl|exact Bk.own InH.mem|exact Bk.old (by assumption) (Nat.le_refl _)|(first|rfl|assumption)|(constructor<;>omega)))|(apply ex_build<;>(first|((repeat (first|exact eN|(apply eS;(·(first|exact eT rfl|exact eC|exact eG rfl|exact eL rfl|exact eLL rfl|exact eLLL rfl|exact eF|exact eGl)))));done)|rfl)))))
      | (apply spl_box;(·(first|exact eT rfl|exact eC|exact eG rfl|exact eL rfl|exact eLL rfl|exact eLLL rfl|exact eF|exact eGl));(·rfl);intro _ _)
      | (apply spl_alloc rfl;intro _ _)
      | (apply spl_store1;(·(first|exact eT rfl|exact eC|exact eG rfl|exact eL rfl|exact eLL rfl|exact eLLL rfl|exact eF|exact eGl));(·(first|exact eT rfl|exact eC|exact eG rfl|exact eL rfl|exact eLL rfl|exact eLLL rfl|exact eF|exact eGl));(·rfl);(·(repeat (first|exact Upd.here|apply Upd.there|apply Upd.app)));(·rfl))
      | (apply spl_stores;(·(first|exact eT rfl|exact eC|exact eG rfl|exact eL rfl|exact eLL rfl|exact eLLL rfl|exact eF|exact eGl));(·(first|exact eT rfl|exact eC|exact eG rfl|exact eL rfl|exact eLL rfl|exact eLLL rfl|exact eF|exact eGl));(·(repeat (first|exact Upd.here|apply Upd.there|apply Upd.app)));(·(first|rfl|assumption));(·(first|rfl|assumption));(·(first|exact Ones.one|assumption|exact ones_of_all rfl|decide|(intro v hv;simp at hv;(repeat (rcases hv with rfl | hv <;> first | rfl | skip));try (subst hv;rfl)))))
      | (apply spl_guard_t;(·(first|exact Gd.none|exact Gd.tt rfl rfl|exact Gd.tf rfl rfl|exact Gd.gt rfl rfl|exact Gd.gf rfl rfl));(·rfl))|(apply spl_guard_f;(·(first|exact Gd.none|exact Gd.tt rfl rfl|exact Gd.tf rfl rfl|exact Gd.gt rfl rfl|exact Gd.gf rfl rfl));(·rfl);(·rfl)))
    rename_i g1 h1 g2 h2 g5 h5 g6 h6
    replace hY : YM ye ps := hY
    have hgy : w.heap.size ≤ gy := hfr _ (.head _)
    rw [mobjS_nil]
    refine sp_loop (X := Nat × List ((ByteArray × ByteArray) × Value × Nat) × Nat) (fun x => [(33, true, .int .i64 (x.1 : Int)), (32, true, .int .i64 (n2 : Int)), (31, true, .slice A2 n2 c2), (6, true, .map (some g6)), (5, true, .pointer (some ⟨g5, 0, none⟩)), (2, true, .pointer (some ⟨g1, 0, none⟩))]) (fun _ => w)
      (fun x => [(g6, mobj seatV x.2.1 x.2.2), (g5, .cells #[.slice A2 n2 c2, .map (some gy)] 71 (0, 0)), (gy, mobj Value.string ye yc), (g1, .cells #[.slice A n c] 24 (0, 0))])
      (fun x => x.1 ≤ n2 ∧ TM x.2.1 (ps.take x.1) ∧ FV ps x.1) (fun x => n2 - x.1) (0, [], 0) ⟨Nat.zero_le _, TM.nil, FV.zero⟩ (by (repeat (first|exact ESub.nil|apply ESub.cons rfl))) rfl (by (repeat (first|exact HKeep.refl|apply HKeep.keep|(apply HKeep.app;(·(repeat (first|exact Split.here|exact Split.all|apply Split.cons|apply Split.app))))|(apply HKeep.pick;(·(repeat (first|exact Rem.here|apply Rem.there|apply Rem.app))))|apply HKeep.drop (by first|assumption|omega)|apply HKeep.dropA (by assumption)))) ?_
    rintro ⟨i, es, ck⟩ ⟨hi, hT, hF⟩
    replace hi : i ≤ n2 := hi
    replace hT : TM es (ps.take i) := hT
    replace hF : FV ps i := hF
    dsimp only
    by_cases hlt : i < n2
    · obtain ⟨ad, x, hA, hb, hx, hsz, hcc⟩ := hP.1.at_ hlt
      have hmem := List.mem_of_getElem? hx
      have hpr := hP.2 x hmem
      obtain ⟨hs1, hs2⟩ := hsp x hmem
      repeat (first
        | (apply spl_callb rfl;(·(repeat (first|exact eN|(apply eS;(·(first|exact eT rfl|exact eC|exact eG rfl|exact eL rfl|exact eLL rfl|exact eLLL rfl|exact eF|exact eGl))))));(·exact fun w' hh => right_c (hK.1.hp' hh) (hpr.hp' hh) hs1 hs2);(intro b1 hb1))
        | apply then_n|apply block_n|apply sp_seq|apply sp_region|apply spl_nil|apply then_r|apply block_r|apply then_e|apply block_here|apply block_past rfl
        | ((first|apply sp_cond_t|apply sp_cond_f);(·(first|exact eT rfl|exact eC|exact eG rfl|exact eL rfl|exact eLL rfl|exact eLLL rfl|exact eF|exact eGl));(·(first|exact decide_eq_true (by omega)|exact decide_eq_false (by omega)|assumption|rfl)))
        | (apply sp_cond_f;(·(first|exact eT rfl|exact eC|exact eG rfl|exact eL rfl|exact eLL rfl|exact eLLL rfl|exact eF|exact eGl));(·(first|exact decide_eq_false (by omega)|assumption|rfl)))
        | apply sp_skip|apply sp_ret|apply sp_exit|apply sp_block
        | ((first|apply spl_pure rfl|(apply spl_pure_g rfl;(·(first|exact Gd.none|exact Gd.tt rfl rfl|exact Gd.tf rfl rfl|exact Gd.gt rfl rfl|exact Gd.gf rfl rfl))));(·(first|(apply ex_loadelem (i:=i) (y:=x);(·(first|exact eT rfl|exact eC|exact eG rfl|exact eL rfl|exact eLL rfl|exact eLLL rfl|exact eF|exact eGl));(·exact hP.1);(·exact hA);(·exact hx))|((first|apply ex_move|apply ex_assign|apply ex_fieldAddr'|apply ex_not|apply ex_lss|apply ex_gtr|apply ex_seql|apply ex_sneq|apply ex_len|apply ex_andT)<;>(first|exact eT rfl|exact eC|exact eG rfl|exact eL rfl|exact eLL rfl|exact eLLL rfl|exact eF|exact eGl))|((first|apply ex_fieldAddr|apply ex_eql|apply ex_neq|apply ex_slen|apply ex_orT|apply ex_slss)<;>(first|exact eT rfl|exact eC|exact eG rfl|exact eL rfl|exact eLL rfl|exact eLLL rfl|exact eF|exact eGl))|((first|apply ex_beql|apply ex_bneq|apply ex_and)<;>(first|exact eT rfl|exact eC|exact eG rfl|exact eL rfl|exact eLL rfl|exact eLLL rfl|exact eF|exact eGl))|((first|apply ex_or|apply ex_peql|apply ex_pneq)<;>(first|exact eT rfl|exact eC|exact eG rfl|exact eL rfl|exact eLL rfl|exact eLLL rfl|exact eF|exact eGl))|(apply ex_addn<;>(first|exact eT rfl|exact eC|exact eG rfl|exact eL rfl|exact eLL rfl|exact eLLL rfl|exact eF|exact eGl|(constructor<;>omega)))|(apply ex_add<;>(first|exact eT rfl|exact eC|exact eG rfl|exact eL rfl|exact eLL rfl|exact eLLL rfl|exact eF|exact eGl))|((first|apply ex_loadown|apply ex_extract|apply ex_indexAddr)<;>(first|exact eT rfl|exact eC|exact eG rfl|exact eL rfl|exact eLL rfl|exact eLLL rfl|exact eF|exact eGl|exact Bk.own InH.mem|exact Bk.old (by assumption) (Nat.le_refl _)|rfl|assumption|omega))|((first|apply ex_loadowns|apply ex_indexAddrI)<;>(first|exact eT rfl|exact eC|exact eG rfl|exact eL rfl|exact eLL rfl|exact eLLL rfl|exact eF|exact eGl|exact Bk.own InH.mem|exact Bk.old (by assumption) (Nat.le_refl _)|(first|rfl|assumption)|(constructor<;>omega)))|(apply ex_build<;>(first|((repeat (first|exact eN|(apply eS;(·(first|exact eT rfl|exact eC|exact eG rfl|exact eL rfl|exact eLL rfl|exact eLLL rfl|exact eF|exact eGl)))));done)|rfl)))))
        | (apply spl_box;(·(first|exact eT rfl|exact eC|exact eG rfl|exact eL rfl|exact eLL rfl|exact eLLL rfl|exact eF|exact eGl));(·rfl);intro _ _)
        | (apply spl_alloc rfl;intro _ _)
        | (apply spl_store1;(·(first|exact eT rfl|exact eC|exact eG rfl|exact eL rfl|exact eLL rfl|exact eLLL rfl|exact eF|exact eGl));(·(first|exact eT rfl|exact eC|exact eG rfl|exact eL rfl|exact eLL rfl|exact eLLL rfl|exact eF|exact eGl));(·rfl);(·(repeat (first|exact Upd.here|apply Upd.there|apply Upd.app)));(·rfl))
        | (apply spl_stores;(·(first|exact eT rfl|exact eC|exact eG rfl|exact eL rfl|exact eLL rfl|exact eLLL rfl|exact eF|exact eGl));(·(first|exact eT rfl|exact eC|exact eG rfl|exact eL rfl|exact eLL rfl|exact eLLL rfl|exact eF|exact eGl));(·(repeat (first|exact Upd.here|apply Upd.there|apply Upd.app)));(·(first|rfl|assumption));(·(first|rfl|assumption));(·(first|exact Ones.one|assumption|exact ones_of_all rfl|decide|(intro v hv;simp at hv;(repeat (rcases hv with rfl | hv <;> first | rfl | skip));try (subst hv;rfl)))))
        | (apply spl_guard_t;(·(first|exact Gd.none|exact Gd.tt rfl rfl|exact Gd.tf rfl rfl|exact Gd.gt rfl rfl|exact Gd.gf rfl rfl));(·rfl))|(apply spl_guard_f;(·(first|exact Gd.none|exact Gd.tt rfl rfl|exact Gd.tf rfl rfl|exact Gd.gt rfl rfl|exact Gd.gf rfl rfl));(·rfl);(·rfl)))
      rename_i gp hgp
      refine sp_cond (eT rfl) (fun hc2 => ?_) (fun hc2 => ?_)
      · repeat (first
          | apply then_n|apply block_n|apply sp_seq|apply sp_region|apply spl_nil|apply then_r|apply block_r|apply then_e|apply block_here|apply block_past rfl
          | ((first|apply sp_cond_t|apply sp_cond_f);(·(first|exact eT rfl|exact eC|exact eG rfl|exact eL rfl|exact eLL rfl|exact eLLL rfl|exact eF|exact eGl));(·(first|exact decide_eq_true (by omega)|exact decide_eq_false (by omega)|assumption|rfl)))
          | (apply sp_cond_f;(·(first|exact eT rfl|exact eC|exact eG rfl|exact eL rfl|exact eLL rfl|exact eLLL rfl|exact eF|exact eGl));(·(first|exact decide_eq_false (by omega)|assumption|rfl)))
          | apply sp_skip|apply sp_ret|apply sp_exit|apply sp_block
          | ((first|apply spl_pure rfl|(apply spl_pure_g rfl;(·(first|exact Gd.none|exact Gd.tt rfl rfl|exact Gd.tf rfl rfl|exact Gd.gt rfl rfl|exact Gd.gf rfl rfl))));(·(first|((first|apply ex_move|apply ex_assign|apply ex_fieldAddr'|apply ex_not|apply ex_lss|apply ex_gtr|apply ex_seql|apply ex_sneq|apply ex_len|apply ex_andT)<;>(first|exact eT rfl|exact eC|exact eG rfl|exact eL rfl|exact eLL rfl|exact eLLL rfl|exact eF|exact eGl))|((first|apply ex_fieldAddr|apply ex_eql|apply ex_neq|apply ex_slen|apply ex_orT|apply ex_slss)<;>(first|exact eT rfl|exact eC|exact eG rfl|exact eL rfl|exact eLL rfl|exact eLLL rfl|exact eF|exact eGl))|((first|apply ex_beql|apply ex_bneq|apply ex_and)<;>(first|exact eT rfl|exact eC|exact eG rfl|exact eL rfl|exact eLL rfl|exact eLLL rfl|exact eF|exact eGl))|((first|apply ex_or|apply ex_peql|apply ex_pneq)<;>(first|exact eT rfl|exact eC|exact eG rfl|exact eL rfl|exact eLL rfl|exact eLLL rfl|exact eF|exact eGl))|(apply ex_addn<;>(first|exact eT rfl|exact eC|exact eG rfl|exact eL rfl|exact eLL rfl|exact eLLL rfl|exact eF|exact eGl|(constructor<;>omega)))|(apply ex_add<;>(first|exact eT rfl|exact eC|exact eG rfl|exact eL rfl|exact eLL rfl|exact eLLL rfl|exact eF|exact eGl))|((first|apply ex_loadown|apply ex_extract|apply ex_indexAddr)<;>(first|exact eT rfl|exact eC|exact eG rfl|exact eL rfl|exact eLL rfl|exact eLLL rfl|exact eF|exact eGl|exact Bk.own InH.mem|exact Bk.old (by assumption) (Nat.le_refl _)|rfl|assumption|omega))|((first|apply ex_loadowns|apply ex_indexAddrI)<;>(first|exact eT rfl|exact eC|exact eG rfl|exact eL rfl|exact eLL rfl|exact eLLL rfl|exact eF|exact eGl|exact Bk.own InH.mem|exact Bk.old (by assumption) (Nat.le_refl _)|(first|rfl|assumption)|(constructor<;>omega)))|(apply ex_build<;>(first|((repeat (first|exact eN|(apply eS;(·(first|exact eT rfl|exact eC|exact eG rfl|exact eL rfl|exact eLL rfl|exact eLLL rfl|exact eF|exact eGl)))));done)|rfl)))))
          | (apply spl_box;(·(first|exact eT rfl|exact eC|exact eG rfl|exact eL rfl|exact eLL rfl|exact eLLL rfl|exact eF|exact eGl));(·rfl);intro _ _)
          | (apply spl_alloc rfl;intro _ _)
          | (apply spl_store1;(·(first|exact eT rfl|exact eC|exact eG rfl|exact eL rfl|exact eLL rfl|exact eLLL rfl|exact eF|exact eGl));(·(first|exact eT rfl|exact eC|exact eG rfl|exact eL rfl|exact eLL rfl|exact eLLL rfl|exact eF|exact eGl));(·rfl);(·(repeat (first|exact Upd.here|apply Upd.there|apply Upd.app)));(·rfl))
          | (apply spl_stores;(·(first|exact eT rfl|exact eC|exact eG rfl|exact eL rfl|exact eLL rfl|exact eLLL rfl|exact eF|exact eGl));(·(first|exact eT rfl|exact eC|exact eG rfl|exact eL rfl|exact eLL rfl|exact eLLL rfl|exact eF|exact eGl));(·(repeat (first|exact Upd.here|apply Upd.there|apply Upd.app)));(·(first|rfl|assumption));(·(first|rfl|assumption));(·(first|exact Ones.one|assumption|exact ones_of_all rfl|decide|(intro v hv;simp at hv;(repeat (rcases hv with rfl | hv <;> first | rfl | skip));try (subst hv;rfl)))))
          | (apply spl_guard_t;(·(first|exact Gd.none|exact Gd.tt rfl rfl|exact Gd.tf rfl rfl|exact Gd.gt rfl rfl|exact Gd.gf rfl rfl));(·rfl))|(apply spl_guard_f;(·(first|exact Gd.none|exact Gd.tt rfl rfl|exact Gd.tf rfl rfl|exact Gd.gt rfl rfl|exact Gd.gf rfl rfl));(·rfl);(·rfl)))
        (apply retP_ok rfl;(·(first|(apply Res.ofOne;(first|(apply Res1.tmp;(·rfl))|(apply Res1.cell;(·rfl);(·exact InH.mem);(·(first|rfl|assumption)))|(apply Res1.cell1;(·rfl);(·exact InH.mem);(·rfl))))|(apply Res.ofTwo<;>(first|(apply Res1.tmp;(·rfl))|(apply Res1.cell;(·rfl);(·exact InH.mem);(·(first|rfl|assumption)))|(apply Res1.cell1;(·rfl);(·exact InH.mem);(·rfl))))|(apply Res.ofThree<;>(first|(apply Res1.tmp;(·rfl))|(apply Res1.cell;(·rfl);(·exact InH.mem);(·(first|rfl|assumption)))|(apply Res1.cell1;(·rfl);(·exact InH.mem);(·rfl))))|exact Res.none_))); exact ⟨false, rfl, fun h => by cases h⟩
      · have hname : x.name ≠ emp := by
          have hb : b1 = true := by
            revert hc2
            cases b1 <;> simp
          have hn := hb1 hb
          intro he
          rw [he] at hn
          cases hn
        have hboth : x.into = emp ↔ x.slot = emp := by
          have hb : b1 = true := by
            revert hc2
            cases b1 <;> simp
          rw [hb] at hc2
          have hq : decide (x.into = emp) = decide (x.slot = emp) := by
            have hc3 : (!true || !(decide (x.into = emp) == decide (x.slot = emp))) = false := hc2
            revert hc3
            cases decide (x.into = emp) <;> cases decide (x.slot = emp) <;> simp
          rw [decide_eq_decide] at hq
          exact hq
        by_cases hin : x.into = emp
        · repeat (first
            | (apply sp_cond_t;(·(first|exact eT rfl|exact eC|exact eG rfl|exact eL rfl|exact eLL rfl|exact eLLL rfl|exact eF|exact eGl));(·exact decide_eq_true hin))
            | apply then_n|apply block_n|apply sp_seq|apply sp_region|apply spl_nil|apply then_r|apply block_r|apply then_e|apply block_here|apply block_past rfl
            | ((first|apply sp_cond_t|apply sp_cond_f);(·(first|exact eT rfl|exact eC|exact eG rfl|exact eL rfl|exact eLL rfl|exact eLLL rfl|exact eF|exact eGl));(·(first|exact decide_eq_true (by omega)|exact decide_eq_false (by omega)|assumption|rfl)))
            | (apply sp_cond_f;(·(first|exact eT rfl|exact eC|exact eG rfl|exact eL rfl|exact eLL rfl|exact eLLL rfl|exact eF|exact eGl));(·(first|exact decide_eq_false (by omega)|assumption|rfl)))
            | apply sp_skip|apply sp_ret|apply sp_exit|apply sp_block
            | ((first|apply spl_pure rfl|(apply spl_pure_g rfl;(·(first|exact Gd.none|exact Gd.tt rfl rfl|exact Gd.tf rfl rfl|exact Gd.gt rfl rfl|exact Gd.gf rfl rfl))));(·(first|((first|apply ex_move|apply ex_assign|apply ex_fieldAddr'|apply ex_not|apply ex_lss|apply ex_gtr|apply ex_seql|apply ex_sneq|apply ex_len|apply ex_andT)<;>(first|exact eT rfl|exact eC|exact eG rfl|exact eL rfl|exact eLL rfl|exact eLLL rfl|exact eF|exact eGl))|((first|apply ex_fieldAddr|apply ex_eql|apply ex_neq|apply ex_slen|apply ex_orT|apply ex_slss)<;>(first|exact eT rfl|exact eC|exact eG rfl|exact eL rfl|exact eLL rfl|exact eLLL rfl|exact eF|exact eGl))|((first|apply ex_beql|apply ex_bneq|apply ex_and)<;>(first|exact eT rfl|exact eC|exact eG rfl|exact eL rfl|exact eLL rfl|exact eLLL rfl|exact eF|exact eGl))|((first|apply ex_or|apply ex_peql|apply ex_pneq)<;>(first|exact eT rfl|exact eC|exact eG rfl|exact eL rfl|exact eLL rfl|exact eLLL rfl|exact eF|exact eGl))|(apply ex_addn<;>(first|exact eT rfl|exact eC|exact eG rfl|exact eL rfl|exact eLL rfl|exact eLLL rfl|exact eF|exact eGl|(constructor<;>omega)))|(apply ex_add<;>(first|exact eT rfl|exact eC|exact eG rfl|exact eL rfl|exact eLL rfl|exact eLLL rfl|exact eF|exact eGl))|((first|apply ex_loadown|apply ex_extract|apply ex_indexAddr)<;>(first|exact eT rfl|exact eC|exact eG rfl|exact eL rfl|exact eLL rfl|exact eLLL rfl|exact eF|exact eGl|exact Bk.own InH.mem|exact Bk.old (by assumption) (Nat.le_refl _)|rfl|assumption|omega))|((first|apply ex_loadowns|apply ex_indexAddrI)<;>(first|exact eT rfl|exact eC|exact eG rfl|exact eL rfl|exact eLL rfl|exact eLLL rfl|exact eF|exact eGl|exact Bk.own InH.mem|exact Bk.old (by assumption) (Nat.le_refl _)|(first|rfl|assumption)|(constructor<;>omega)))|(apply ex_build<;>(first|((repeat (first|exact eN|(apply eS;(·(first|exact eT rfl|exact eC|exact eG rfl|exact eL rfl|exact eLL rfl|exact eLLL rfl|exact eF|exact eGl)))));done)|rfl)))))
            | (apply spl_box;(·(first|exact eT rfl|exact eC|exact eG rfl|exact eL rfl|exact eLL rfl|exact eLLL rfl|exact eF|exact eGl));(·rfl);intro _ _)
            | (apply spl_alloc rfl;intro _ _)
            | (apply spl_store1;(·(first|exact eT rfl|exact eC|exact eG rfl|exact eL rfl|exact eLL rfl|exact eLLL rfl|exact eF|exact eGl));(·(first|exact eT rfl|exact eC|exact eG rfl|exact eL rfl|exact eLL rfl|exact eLLL rfl|exact eF|exact eGl));(·rfl);(·(repeat (first|exact Upd.here|apply Upd.there|apply Upd.app)));(·rfl))
            | (apply spl_stores;(·(first|exact eT rfl|exact eC|exact eG rfl|exact eL rfl|exact eLL rfl|exact eLLL rfl|exact eF|exact eGl));(·(first|exact eT rfl|exact eC|exact eG rfl|exact eL rfl|exact eLL rfl|exact eLLL rfl|exact eF|exact eGl));(·(repeat (first|exact Upd.here|apply Upd.there|apply Upd.app)));(·(first|rfl|assumption));(·(first|rfl|assumption));(·(first|exact Ones.one|assumption|exact ones_of_all rfl|decide|(intro v hv;simp at hv;(repeat (rcases hv with rfl | hv <;> first | rfl | skip));try (subst hv;rfl)))))
            | (apply spl_guard_t;(·(first|exact Gd.none|exact Gd.tt rfl rfl|exact Gd.tf rfl rfl|exact Gd.gt rfl rfl|exact Gd.gf rfl rfl));(·rfl))|(apply spl_guard_f;(·(first|exact Gd.none|exact Gd.tt rfl rfl|exact Gd.tf rfl rfl|exact Gd.gt rfl rfl|exact Gd.gf rfl rfl));(·rfl);(·rfl)))
          exact ⟨(i + 1, es, ck), ⟨hlt, by rw [take_succ hx]; exact hT.skip hin, hF.step hx hname hboth (fun q => absurd hin q)⟩, by show n2 - (i + 1) < n2 - i; omega, (by (repeat (first|exact ESub.nil|apply ESub.cons rfl))), rfl, (by (repeat (first|exact HKeep.refl|apply HKeep.keep|(apply HKeep.app;(·(repeat (first|exact Split.here|exact Split.all|apply Split.cons|apply Split.app))))|(apply HKeep.pick;(·(repeat (first|exact Rem.here|apply Rem.there|apply Rem.app))))|apply HKeep.drop (by first|assumption|omega)|apply HKeep.dropA (by assumption))))⟩
        · have hgetc := fun (w' : World) (hh : RdS w' w'.heap.size 14 Part.cells A2 n2 ps) (hb : w'.heap[gy]? = some (mobj Value.string ye yc)) => get_c (c := c2) (s := x.into) hh hb hY
          obtain ⟨FH, hFH⟩ : ∃ FH, FH = findP ps x.into := ⟨_, rfl⟩
          rw [← hFH] at hgetc
          have hget := hT.get (x.into, x.slot)
          obtain ⟨tk, htk⟩ : ∃ tk, tk = takesB ks (FH.getD Part.zero).kind x.slot x.kind := ⟨_, rfl⟩
          have htc := fun (w' : World) (hh : RdKinds w' w'.heap.size ⟨A, n, c⟩ ks) => takes_c (s := (FH.getD Part.zero).kind) (t := x.slot) (o := x.kind) hh
          rw [← htk] at htc
          generalize hHost : FH.getD Part.zero = host at *
          repeat (first
            | (apply sp_cond_f;(·(first|exact eT rfl|exact eC|exact eG rfl|exact eL rfl|exact eLL rfl|exact eLLL rfl|exact eF|exact eGl));(·exact decide_eq_false hin))
            | (apply spl_callp rfl;(·(repeat (first|exact eN|(apply eS;(·(first|exact eT rfl|exact eC|exact eG rfl|exact eL rfl|exact eLL rfl|exact eLLL rfl|exact eF|exact eGl))))));(·exact fun w' hh => hgetc w' (hP.1.hp' hh) hh.ownI))
            | (apply spl_callp_g rfl;(·(first|exact Gd.none|exact Gd.tt rfl rfl|exact Gd.tf rfl rfl|exact Gd.gt rfl rfl|exact Gd.gf rfl rfl));(·(repeat (first|exact eN|(apply eS;(·(first|exact eT rfl|exact eC|exact eG rfl|exact eL rfl|exact eLL rfl|exact eLLL rfl|exact eF|exact eGl))))));(·exact fun _ w' hh => htc w' (hK.hp hh)))
            | apply then_n|apply block_n|apply sp_seq|apply sp_region|apply spl_nil|apply then_r|apply block_r|apply then_e|apply block_here|apply block_past rfl
            | ((first|apply sp_cond_t|apply sp_cond_f);(·(first|exact eT rfl|exact eC|exact eG rfl|exact eL rfl|exact eLL rfl|exact eLLL rfl|exact eF|exact eGl));(·(first|exact decide_eq_true (by omega)|exact decide_eq_false (by omega)|assumption|rfl)))
            | (apply sp_cond_f;(·(first|exact eT rfl|exact eC|exact eG rfl|exact eL rfl|exact eLL rfl|exact eLLL rfl|exact eF|exact eGl));(·(first|exact decide_eq_false (by omega)|assumption|rfl)))
            | apply sp_skip|apply sp_ret|apply sp_exit|apply sp_block
            | ((first|apply spl_pure rfl|(apply spl_pure_g rfl;(·(first|exact Gd.none|exact Gd.tt rfl rfl|exact Gd.tf rfl rfl|exact Gd.gt rfl rfl|exact Gd.gf rfl rfl))));(·(first|(apply ex_buildE (r:=#[.string x.into, .string x.slot]);(·(repeat (first|exact eN|(apply eS;(·(first|exact eT rfl|exact eC|exact eG rfl|exact eL rfl|exact eLL rfl|exact eLLL rfl|exact eF|exact eGl))))));(·rfl);(·rfl))|(apply ex_lookup (K:=ByteArray × ByteArray) hget;(·(first|exact eT rfl|exact eC|exact eG rfl|exact eL rfl|exact eLL rfl|exact eLLL rfl|exact eF|exact eGl));(·(first|exact eT rfl|exact eC|exact eG rfl|exact eL rfl|exact eLL rfl|exact eLLL rfl|exact eF|exact eGl));(·(first|exact Bk.own InH.mem|exact Bk.old (by assumption) (Nat.le_refl _))))|((first|apply ex_move|apply ex_assign|apply ex_fieldAddr'|apply ex_not|apply ex_lss|apply ex_gtr|apply ex_seql|apply ex_sneq|apply ex_len|apply ex_andT)<;>(first|exact eT rfl|exact eC|exact eG rfl|exact eL rfl|exact eLL rfl|exact eLLL rfl|exact eF|exact eGl))|((first|apply ex_fieldAddr|apply ex_eql|apply ex_neq|apply ex_slen|apply ex_orT|apply ex_slss)<;>(first|exact eT rfl|exact eC|exact eG rfl|exact eL rfl|exact eLL rfl|exact eLLL rfl|exact eF|exact eGl))|((first|apply ex_beql|apply ex_bneq|apply ex_and)<;>(first|exact eT rfl|exact eC|exact eG rfl|exact eL rfl|exact eLL rfl|exact eLLL rfl|exact eF|exact eGl))|((first|apply ex_or|apply ex_peql|apply ex_pneq)<;>(first|exact eT rfl|exact eC|exact eG rfl|exact eL rfl|exact eLL rfl|exact eLLL rfl|exact eF|exact eGl))|(apply ex_addn<;>(first|exact eT rfl|exact eC|exact eG rfl|exact eL rfl|exact eLL rfl|exact eLLL rfl|exact eF|exact eGl|(constructor<;>omega)))|(apply ex_add<;>(first|exact eT rfl|exact eC|exact eG rfl|exact eL rfl|exact eLL rfl|exact eLLL rfl|exact eF|exact eGl))|((first|apply ex_loadown|apply ex_extract|apply ex_indexAddr)<;>(first|exact eT rfl|exact eC|exact eG rfl|exact eL rfl|exact eLL rfl|exact eLLL rfl|exact eF|exact eGl|exact Bk.own InH.mem|exact Bk.old (by assumption) (Nat.le_refl _)|rfl|assumption|omega))|((first|apply ex_loadowns|apply ex_indexAddrI)<;>(first|exact eT rfl|exact eC|exact eG rfl|exact eL rfl|exact eLL rfl|exact eLLL rfl|exact eF|exact eGl|exact Bk.own InH.mem|exact Bk.old (by assumption) (Nat.le_refl _)|(first|rfl|assumption)|(constructor<;>omega)))|(apply ex_build<;>(first|((repeat (first|exact eN|(apply eS;(·(first|exact eT rfl|exact eC|exact eG rfl|exact eL rfl|exact eLL rfl|exact eLLL rfl|exact eF|exact eGl)))));done)|rfl)))))
            | (apply spl_box;(·(first|exact eT rfl|exact eC|exact eG rfl|exact eL rfl|exact eLL rfl|exact eLLL rfl|exact eF|exact eGl));(·rfl);intro _ _)
            | (apply spl_alloc rfl;intro _ _)
            | (apply spl_store1;(·(first|exact eT rfl|exact eC|exact eG rfl|exact eL rfl|exact eLL rfl|exact eLLL rfl|exact eF|exact eGl));(·(first|exact eT rfl|exact eC|exact eG rfl|exact eL rfl|exact eLL rfl|exact eLLL rfl|exact eF|exact eGl));(·rfl);(·(repeat (first|exact Upd.here|apply Upd.there|apply Upd.app)));(·rfl))
            | (apply spl_stores;(·(first|exact eT rfl|exact eC|exact eG rfl|exact eL rfl|exact eLL rfl|exact eLLL rfl|exact eF|exact eGl));(·(first|exact eT rfl|exact eC|exact eG rfl|exact eL rfl|exact eLL rfl|exact eLLL rfl|exact eF|exact eGl));(·(repeat (first|exact Upd.here|apply Upd.there|apply Upd.app)));(·(first|rfl|assumption));(·(first|rfl|assumption));(·(first|exact Ones.one|assumption|exact ones_of_all rfl|decide|(intro v hv;simp at hv;(repeat (rcases hv with rfl | hv <;> first | rfl | skip));try (subst hv;rfl)))))
            | (apply spl_guard_t;(·(first|exact Gd.none|exact Gd.tt rfl rfl|exact Gd.tf rfl rfl|exact Gd.gt rfl rfl|exact Gd.gf rfl rfl));(·rfl))|(apply spl_guard_f;(·(first|exact Gd.none|exact Gd.tt rfl rfl|exact Gd.tf rfl rfl|exact Gd.gt rfl rfl|exact Gd.gf rfl rfl));(·rfl);(·rfl)))
          rename_i gh hgh gs hgs
          refine sp_cond (eT rfl) (fun hc3 => ?_) (fun hc3 => ?_)
          · repeat (first
              | apply then_n|apply block_n|apply sp_seq|apply sp_region|apply spl_nil|apply then_r|apply block_r|apply then_e|apply block_here|apply block_past rfl
              | ((first|apply sp_cond_t|apply sp_cond_f);(·(first|exact eT rfl|exact eC|exact eG rfl|exact eL rfl|exact eLL rfl|exact eLLL rfl|exact eF|exact eGl));(·(first|exact decide_eq_true (by omega)|exact decide_eq_false (by omega)|assumption|rfl)))
              | (apply sp_cond_f;(·(first|exact eT rfl|exact eC|exact eG rfl|exact eL rfl|exact eLL rfl|exact eLLL rfl|exact eF|exact eGl));(·(first|exact decide_eq_false (by omega)|assumption|rfl)))
              | apply sp_skip|apply sp_ret|apply sp_exit|apply sp_block
              | ((first|apply spl_pure rfl|(apply spl_pure_g rfl;(·(first|exact Gd.none|exact Gd.tt rfl rfl|exact Gd.tf rfl rfl|exact Gd.gt rfl rfl|exact Gd.gf rfl rfl))));(·(first|((first|apply ex_move|apply ex_assign|apply ex_fieldAddr'|apply ex_not|apply ex_lss|apply ex_gtr|apply ex_seql|apply ex_sneq|apply ex_len|apply ex_andT)<;>(first|exact eT rfl|exact eC|exact eG rfl|exact eL rfl|exact eLL rfl|exact eLLL rfl|exact eF|exact eGl))|((first|apply ex_fieldAddr|apply ex_eql|apply ex_neq|apply ex_slen|apply ex_orT|apply ex_slss)<;>(first|exact eT rfl|exact eC|exact eG rfl|exact eL rfl|exact eLL rfl|exact eLLL rfl|exact eF|exact eGl))|((first|apply ex_beql|apply ex_bneq|apply ex_and)<;>(first|exact eT rfl|exact eC|exact eG rfl|exact eL rfl|exact eLL rfl|exact eLLL rfl|exact eF|exact eGl))|((first|apply ex_or|apply ex_peql|apply ex_pneq)<;>(first|exact eT rfl|exact eC|exact eG rfl|exact eL rfl|exact eLL rfl|exact eLLL rfl|exact eF|exact eGl))|(apply ex_addn<;>(first|exact eT rfl|exact eC|exact eG rfl|exact eL rfl|exact eLL rfl|exact eLLL rfl|exact eF|exact eGl|(constructor<;>omega)))|(apply ex_add<;>(first|exact eT rfl|exact eC|exact eG rfl|exact eL rfl|exact eLL rfl|exact eLLL rfl|exact eF|exact eGl))|((first|apply ex_loadown|apply ex_extract|apply ex_indexAddr)<;>(first|exact eT rfl|exact eC|exact eG rfl|exact eL rfl|exact eLL rfl|exact eLLL rfl|exact eF|exact eGl|exact Bk.own InH.mem|exact Bk.old (by assumption) (Nat.le_refl _)|rfl|assumption|omega))|((first|apply ex_loadowns|apply ex_indexAddrI)<;>(first|exact eT rfl|exact eC|exact eG rfl|exact eL rfl|exact eLL rfl|exact eLLL rfl|exact eF|exact eGl|exact Bk.own InH.mem|exact Bk.old (by assumption) (Nat.le_refl _)|(first|rfl|assumption)|(constructor<;>omega)))|(apply ex_build<;>(first|((repeat (first|exact eN|(apply eS;(·(first|exact eT rfl|exact eC|exact eG rfl|exact eL rfl|exact eLL rfl|exact eLLL rfl|exact eF|exact eGl)))));done)|rfl)))))
              | (apply spl_box;(·(first|exact eT rfl|exact eC|exact eG rfl|exact eL rfl|exact eLL rfl|exact eLLL rfl|exact eF|exact eGl));(·rfl);intro _ _)
              | (apply spl_alloc rfl;intro _ _)
              | (apply spl_store1;(·(first|exact eT rfl|exact eC|exact eG rfl|exact eL rfl|exact eLL rfl|exact eLLL rfl|exact eF|exact eGl));(·(first|exact eT rfl|exact eC|exact eG rfl|exact eL rfl|exact eLL rfl|exact eLLL rfl|exact eF|exact eGl));(·rfl);(·(repeat (first|exact Upd.here|apply Upd.there|apply Upd.app)));(·rfl))
              | (apply spl_stores;(·(first|exact eT rfl|exact eC|exact eG rfl|exact eL rfl|exact eLL rfl|exact eLLL rfl|exact eF|exact eGl));(·(first|exact eT rfl|exact eC|exact eG rfl|exact eL rfl|exact eLL rfl|exact eLLL rfl|exact eF|exact eGl));(·(repeat (first|exact Upd.here|apply Upd.there|apply Upd.app)));(·(first|rfl|assumption));(·(first|rfl|assumption));(·(first|exact Ones.one|assumption|exact ones_of_all rfl|decide|(intro v hv;simp at hv;(repeat (rcases hv with rfl | hv <;> first | rfl | skip));try (subst hv;rfl)))))
              | (apply spl_guard_t;(·(first|exact Gd.none|exact Gd.tt rfl rfl|exact Gd.tf rfl rfl|exact Gd.gt rfl rfl|exact Gd.gf rfl rfl));(·rfl))|(apply spl_guard_f;(·(first|exact Gd.none|exact Gd.tt rfl rfl|exact Gd.tf rfl rfl|exact Gd.gt rfl rfl|exact Gd.gf rfl rfl));(·rfl);(·rfl)))
            (apply retP_ok rfl;(·(first|(apply Res.ofOne;(first|(apply Res1.tmp;(·rfl))|(apply Res1.cell;(·rfl);(·exact InH.mem);(·(first|rfl|assumption)))|(apply Res1.cell1;(·rfl);(·exact InH.mem);(·rfl))))|(apply Res.ofTwo<;>(first|(apply Res1.tmp;(·rfl))|(apply Res1.cell;(·rfl);(·exact InH.mem);(·(first|rfl|assumption)))|(apply Res1.cell1;(·rfl);(·exact InH.mem);(·rfl))))|(apply Res.ofThree<;>(first|(apply Res1.tmp;(·rfl))|(apply Res1.cell;(·rfl);(·exact InH.mem);(·(first|rfl|assumption)))|(apply Res1.cell1;(·rfl);(·exact InH.mem);(·rfl))))|exact Res.none_))); exact ⟨false, rfl, fun h => by cases h⟩
          · have hfacts : FH.isSome = true ∧ fittedAt (ps.take i) (x.into, x.slot) = false := by
              revert hc3
              cases FH.isSome <;> cases fittedAt (ps.take i) (x.into, x.slot) <;> simp
            repeat (first
              | (apply spl_mapUpdate (K:=ByteArray × ByteArray) (k:=(x.into, x.slot));(·(first|exact eT rfl|exact eC|exact eG rfl|exact eL rfl|exact eLL rfl|exact eLLL rfl|exact eF|exact eGl));(·(first|exact eT rfl|exact eC|exact eG rfl|exact eL rfl|exact eLL rfl|exact eLLL rfl|exact eF|exact eGl));(·(first|exact eT rfl|exact eC|exact eG rfl|exact eL rfl|exact eLL rfl|exact eLLL rfl|exact eF|exact eGl));(·(repeat (first|exact Upd.here|apply Upd.there|apply Upd.app))))
              | apply then_n|apply block_n|apply sp_seq|apply sp_region|apply spl_nil|apply then_r|apply block_r|apply then_e|apply block_here|apply block_past rfl
              | ((first|apply sp_cond_t|apply sp_cond_f);(·(first|exact eT rfl|exact eC|exact eG rfl|exact eL rfl|exact eLL rfl|exact eLLL rfl|exact eF|exact eGl));(·(first|exact decide_eq_true (by omega)|exact decide_eq_false (by omega)|assumption|rfl)))
              | (apply sp_cond_f;(·(first|exact eT rfl|exact eC|exact eG rfl|exact eL rfl|exact eLL rfl|exact eLLL rfl|exact eF|exact eGl));(·(first|exact decide_eq_false (by omega)|assumption|rfl)))
              | apply sp_skip|apply sp_ret|apply sp_exit|apply sp_block
              | ((first|apply spl_pure rfl|(apply spl_pure_g rfl;(·(first|exact Gd.none|exact Gd.tt rfl rfl|exact Gd.tf rfl rfl|exact Gd.gt rfl rfl|exact Gd.gf rfl rfl))));(·(first|((first|apply ex_move|apply ex_assign|apply ex_fieldAddr'|apply ex_not|apply ex_lss|apply ex_gtr|apply ex_seql|apply ex_sneq|apply ex_len|apply ex_andT)<;>(first|exact eT rfl|exact eC|exact eG rfl|exact eL rfl|exact eLL rfl|exact eLLL rfl|exact eF|exact eGl))|((first|apply ex_fieldAddr|apply ex_eql|apply ex_neq|apply ex_slen|apply ex_orT|apply ex_slss)<;>(first|exact eT rfl|exact eC|exact eG rfl|exact eL rfl|exact eLL rfl|exact eLLL rfl|exact eF|exact eGl))|((first|apply ex_beql|apply ex_bneq|apply ex_and)<;>(first|exact eT rfl|exact eC|exact eG rfl|exact eL rfl|exact eLL rfl|exact eLLL rfl|exact eF|exact eGl))|((first|apply ex_or|apply ex_peql|apply ex_pneq)<;>(first|exact eT rfl|exact eC|exact eG rfl|exact eL rfl|exact eLL rfl|exact eLLL rfl|exact eF|exact eGl))|(apply ex_addn<;>(first|exact eT rfl|exact eC|exact eG rfl|exact eL rfl|exact eLL rfl|exact eLLL rfl|exact eF|exact eGl|(constructor<;>omega)))|(apply ex_add<;>(first|exact eT rfl|exact eC|exact eG rfl|exact eL rfl|exact eLL rfl|exact eLLL rfl|exact eF|exact eGl))|((first|apply ex_loadown|apply ex_extract|apply ex_indexAddr)<;>(first|exact eT rfl|exact eC|exact eG rfl|exact eL rfl|exact eLL rfl|exact eLLL rfl|exact eF|exact eGl|exact Bk.own InH.mem|exact Bk.old (by assumption) (Nat.le_refl _)|rfl|assumption|omega))|((first|apply ex_loadowns|apply ex_indexAddrI)<;>(first|exact eT rfl|exact eC|exact eG rfl|exact eL rfl|exact eLL rfl|exact eLLL rfl|exact eF|exact eGl|exact Bk.own InH.mem|exact Bk.old (by assumption) (Nat.le_refl _)|(first|rfl|assumption)|(constructor<;>omega)))|(apply ex_build<;>(first|((repeat (first|exact eN|(apply eS;(·(first|exact eT rfl|exact eC|exact eG rfl|exact eL rfl|exact eLL rfl|exact eLLL rfl|exact eF|exact eGl)))));done)|rfl)))))
              | (apply spl_box;(·(first|exact eT rfl|exact eC|exact eG rfl|exact eL rfl|exact eLL rfl|exact eLLL rfl|exact eF|exact eGl));(·rfl);intro _ _)
              | (apply spl_alloc rfl;intro _ _)
              | (apply spl_store1;(·(first|exact eT rfl|exact eC|exact eG rfl|exact eL rfl|exact eLL rfl|exact eLLL rfl|exact eF|exact eGl));(·(first|exact eT rfl|exact eC|exact eG rfl|exact eL rfl|exact eLL rfl|exact eLLL rfl|exact eF|exact eGl));(·rfl);(·(repeat (first|exact Upd.here|apply Upd.there|apply Upd.app)));(·rfl))
              | (apply spl_stores;(·(first|exact eT rfl|exact eC|exact eG rfl|exact eL rfl|exact eLL rfl|exact eLLL rfl|exact eF|exact eGl));(·(first|exact eT rfl|exact eC|exact eG rfl|exact eL rfl|exact eLL rfl|exact eLLL rfl|exact eF|exact eGl));(·(repeat (first|exact Upd.here|apply Upd.there|apply Upd.app)));(·(first|rfl|assumption));(·(first|rfl|assumption));(·(first|exact Ones.one|assumption|exact ones_of_all rfl|decide|(intro v hv;simp at hv;(repeat (rcases hv with rfl | hv <;> first | rfl | skip));try (subst hv;rfl)))))
              | (apply spl_guard_t;(·(first|exact Gd.none|exact Gd.tt rfl rfl|exact Gd.tf rfl rfl|exact Gd.gt rfl rfl|exact Gd.gf rfl rfl));(·rfl))|(apply spl_guard_f;(·(first|exact Gd.none|exact Gd.tt rfl rfl|exact Gd.tf rfl rfl|exact Gd.gt rfl rfl|exact Gd.gf rfl rfl));(·rfl);(·rfl)))
            exact ⟨(i + 1, putL (x.into, x.slot) (.bool true) ck es, tick (x.into, x.slot) ck es), ⟨hlt, by rw [take_succ hx]; exact hT.put hin, hF.step hx hname hboth (fun _ => ⟨by rw [← hFH]; exact hfacts.1, hfacts.2⟩)⟩, by show n2 - (i + 1) < n2 - i; omega, (by (repeat (first|exact ESub.nil|apply ESub.cons rfl))), rfl, (by (repeat (first|exact HKeep.refl|apply HKeep.keep|(apply HKeep.app;(·(repeat (first|exact Split.here|exact Split.all|apply Split.cons|apply Split.app))))|(apply HKeep.pick;(·(repeat (first|exact Rem.here|apply Rem.there|apply Rem.app))))|apply HKeep.drop (by first|assumption|omega)|apply HKeep.dropA (by assumption))))⟩
    · have hF2 : FV ps ps.length := by rw [show ps.length = i by omega]; exact hF
      repeat (first
        | apply then_n|apply block_n|apply sp_seq|apply sp_region|apply spl_nil|apply then_r|apply block_r|apply then_e|apply block_here|apply block_past rfl
        | ((first|apply sp_cond_t|apply sp_cond_f);(·(first|exact eT rfl|exact eC|exact eG rfl|exact eL rfl|exact eLL rfl|exact eLLL rfl|exact eF|exact eGl));(·(first|exact decide_eq_true (by omega)|exact decide_eq_false (by omega)|assumption|rfl)))
        | (apply sp_cond_f;(·(first|exact eT rfl|exact eC|exact eG rfl|exact eL rfl|exact eLL rfl|exact eLLL rfl|exact eF|exact eGl));(·(first|exact decide_eq_false (by omega)|assumption|rfl)))
        | apply sp_skip|apply sp_ret|apply sp_exit|apply sp_block
        | ((first|apply spl_pure rfl|(apply spl_pure_g rfl;(·(first|exact Gd.none|exact Gd.tt rfl rfl|exact Gd.tf rfl rfl|exact Gd.gt rfl rfl|exact Gd.gf rfl rfl))));(·(first|((first|apply ex_move|apply ex_assign|apply ex_fieldAddr'|apply ex_not|apply ex_lss|apply ex_gtr|apply ex_seql|apply ex_sneq|apply ex_len|apply ex_andT)<;>(first|exact eT rfl|exact eC|exact eG rfl|exact eL rfl|exact eLL rfl|exact eLLL rfl|exact eF|exact eGl))|((first|apply ex_fieldAddr|apply ex_eql|apply ex_neq|apply ex_slen|apply ex_orT|apply ex_slss)<;>(first|exact eT rfl|exact eC|exact eG rfl|exact eL rfl|exact eLL rfl|exact eLLL rfl|exact eF|exact eGl))|((first|apply ex_beql|apply ex_bneq|apply ex_and)<;>(first|exact eT rfl|exact eC|exact eG rfl|exact eL rfl|exact eLL rfl|exact eLLL rfl|exact eF|exact eGl))|((first|apply ex_or|apply ex_peql|apply ex_pneq)<;>(first|exact eT rfl|exact eC|exact eG rfl|exact eL rfl|exact eLL rfl|exact eLLL rfl|exact eF|exact eGl))|(apply ex_addn<;>(first|exact eT rfl|exact eC|exact eG rfl|exact eL rfl|exact eLL rfl|exact eLLL rfl|exact eF|exact eGl|(constructor<;>omega)))|(apply ex_add<;>(first|exact eT rfl|exact eC|exact eG rfl|exact eL rfl|exact eLL rfl|exact eLLL rfl|exact eF|exact eGl))|((first|apply ex_loadown|apply ex_extract|apply ex_indexAddr)<;>(first|exact eT rfl|exact eC|exact eG rfl|exact eL rfl|exact eLL rfl|exact eLLL rfl|exact eF|exact eGl|exact Bk.own InH.mem|exact Bk.old (by assumption) (Nat.le_refl _)|rfl|assumption|omega))|((first|apply ex_loadowns|apply ex_indexAddrI)<;>(first|exact eT rfl|exact eC|exact eG rfl|exact eL rfl|exact eLL rfl|exact eLLL rfl|exact eF|exact eGl|exact Bk.own InH.mem|exact Bk.old (by assumption) (Nat.le_refl _)|(first|rfl|assumption)|(constructor<;>omega)))|(apply ex_build<;>(first|((repeat (first|exact eN|(apply eS;(·(first|exact eT rfl|exact eC|exact eG rfl|exact eL rfl|exact eLL rfl|exact eLLL rfl|exact eF|exact eGl)))));done)|rfl)))))
        | (apply spl_box;(·(first|exact eT rfl|exact eC|exact eG rfl|exact eL rfl|exact eLL rfl|exact eLLL rfl|exact eF|exact eGl));(·rfl);intro _ _)
        | (apply spl_alloc rfl;intro _ _)
        | (apply spl_store1;(·(first|exact eT rfl|exact eC|exact eG rfl|exact eL rfl|exact eLL rfl|exact eLLL rfl|exact eF|exact eGl));(·(first|exact eT rfl|exact eC|exact eG rfl|exact eL rfl|exact eLL rfl|exact eLLL rfl|exact eF|exact eGl));(·rfl);(·(repeat (first|exact Upd.here|apply Upd.there|apply Upd.app)));(·rfl))
        | (apply spl_stores;(·(first|exact eT rfl|exact eC|exact eG rfl|exact eL rfl|exact eLL rfl|exact eLLL rfl|exact eF|exact eGl));(·(first|exact eT rfl|exact eC|exact eG rfl|exact eL rfl|exact eLL rfl|exact eLLL rfl|exact eF|exact eGl));(·(repeat (first|exact Upd.here|apply Upd.there|apply Upd.app)));(·(first|rfl|assumption));(·(first|rfl|assumption));(·(first|exact Ones.one|assumption|exact ones_of_all rfl|decide|(intro v hv;simp at hv;(repeat (rcases hv with rfl | hv <;> first | rfl | skip));try (subst hv;rfl)))))
        | (apply spl_guard_t;(·(first|exact Gd.none|exact Gd.tt rfl rfl|exact Gd.tf rfl rfl|exact Gd.gt rfl rfl|exact Gd.gf rfl rfl));(·rfl))|(apply spl_guard_f;(·(first|exact Gd.none|exact Gd.tt rfl rfl|exact Gd.tf rfl rfl|exact Gd.gt rfl rfl|exact Gd.gf rfl rfl));(·rfl);(·rfl)))
      (apply retP_ok rfl;(·(first|(apply Res.ofOne;(first|(apply Res1.tmp;(·rfl))|(apply Res1.cell;(·rfl);(·exact InH.mem);(·(first|rfl|assumption)))|(apply Res1.cell1;(·rfl);(·exact InH.mem);(·rfl))))|(apply Res.ofTwo<;>(first|(apply Res1.tmp;(·rfl))|(apply Res1.cell;(·rfl);(·exact InH.mem);(·(first|rfl|assumption)))|(apply Res1.cell1;(·rfl);(·exact InH.mem);(·rfl))))|(apply Res.ofThree<;>(first|(apply Res1.tmp;(·rfl))|(apply Res1.cell;(·rfl);(·exact InH.mem);(·(first|rfl|assumption)))|(apply Res1.cell1;(·rfl);(·exact InH.mem);(·rfl))))|exact Res.none_))); exact ⟨true, rfl, fun _ => hF2.all hord⟩
end Go.Proofs.Ytffbhbinnjpgnaa
