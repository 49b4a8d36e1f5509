/-
  The fixed examples of the laws about the lexer.
-/
import Derived.Test.YtildepcgnppcjaaU2
namespace Go.Proofs.Ytildepcgnppcjaa
open Go.RowKit Go.Sy
set_option linter.unusedVariables false
set_option linter.unusedSimpArgs false
def tkEq (s t : Tk) : Bool := decide ((s.kind : Int) = t.kind) && (decide (s.text = t.text) && decide ((s.pos : Int) = t.pos))
theorem tkEq_run (s t : Tk) (w : World) : (Op.equalIn 10000 31 (.agg (tkC s)) (.agg (tkC t))).run Try.prog w = .ok (tkEq s t) w := by
  rw [run_equalIn_struct w 9999 31 _ _ (by kernel_rfl) (by kernel_rfl)]
  simp only [Program.fieldsOf, Try.underlying31]
  rw [eqFields_int (t := 3) (a := (s.kind : Int)) (b := (t.kind : Int)) (by decide) rfl rfl rfl, eqFields_str (t := 9) (a := s.text) (b := t.text) (by decide) rfl rfl rfl, eqFields_int (t := 3) (a := (s.pos : Int)) (b := (t.pos : Int)) (by decide) rfl rfl rfl, eqFields_nil]
  unfold tkEq
  by_cases h1 : (s.kind : Int) = t.kind <;> by_cases h2 : s.text = t.text <;> by_cases h3 : (s.pos : Int) = t.pos <;> simp [h1, h2, h3]
theorem tkEq_refl (s : Tk) : tkEq s s = true := by simp [tkEq]
theorem tkEq_iff (s t : Tk) : tkEq s t = true ↔ s = t := by
  constructor
  · intro h
    simp only [tkEq, Bool.and_eq_true, decide_eq_true_iff] at h
    obtain ⟨h1, h2, h3⟩ := h
    cases s; cases t
    simp only at h1 h2 h3
    congr 1
    · omega
    · omega
  · rintro rfl; exact tkEq_refl _
/-- The tokens that Lex has handed back, as they are read. -/
theorem row_rd {Be : Nat} {w0 : World} {x : RowS} {l : List Tk} (hok : x.ok 3 l.length (flatT l)) (hn : l.length ≤ 9223372036854775807) {H : Heap} (hs : ∀ p ∈ x.hp (flatT l) 31, p ∈ H) (w : World) (hh : Hp Be w0 H w) :
    RdS w w.heap.size 3 tkC (x.g.map fun g => ⟨g, 0, none⟩) l.length l := by
  rcases x with ⟨_ | g, cap, tl⟩
  · obtain ⟨h, -, -⟩ := hok
    cases l with
    | nil => exact RdS.none_
    | cons a l => simp at h
  · have hm := hs (g, .cells (flatT l ++ tl).toArray 31 (0, 0)) (.head _)
    exact RdS.ofRow (hh.own _ hm) (hh.lt hm) rfl hn (fun _ _ => rfl)
section
variable {P : Program} {Be : Nat} {w0 : World} {H : Heap} {G : Bool} {e : Env} {ty : TypeId} {α : Type} {sz : Nat} {C : α → Array Value}
theorem ex_loadelemH {t : TypeId} {x : Operand} {ad : Addr} {i n : Nat} {xs : List α} {y : α} (h : Ev G e x (.pointer (some (ad.add (i * sz))))) {A : Option Addr} (hr : ∀ w, Hp Be w0 H w → RdS w w.heap.size sz C A n xs) (hA : A = some ad) (hsz : (C y).size = sz) (hy : xs[i]? = some y) [TAgg P t] [hs : TSize P t sz] : Ex P Be w0 H G e (.load t x) ty (.agg (C y)) := by
  subst hA
  refine ex_loadn h hsz fun w hh j v hj => ?_
  obtain ⟨ad', e', hb, hsz, hc⟩ := (hr w hh).elems i y hy
  cases e'
  exact hc j v hj
theorem ex_loadfieldH {t : TypeId} {x : Operand} {ad : Addr} {i k n : Nat} {xs : List α} {y : α} {v : Value} (h : Ev G e x (.pointer (some ((ad.add (i * sz)).add k)))) {A : Option Addr} (hr : ∀ w, Hp Be w0 H w → RdS w w.heap.size sz C A n xs) (hA : A = some ad) (hy : xs[i]? = some y) (hv : (C y)[k]? = some v) [TCell P t] : Ex P Be w0 H G e (.load t x) ty v := by
  subst hA
  refine ex_load1 h fun w hh => ?_
  obtain ⟨ad', e', hb, hsz, hc⟩ := (hr w hh).elems i y hy
  cases e'
  exact hc k v hv
end
def hd1 : Tk := ⟨1, ⟨#[119, 49]⟩, 4⟩
def hd2 : Tk := ⟨2, ⟨#[55]⟩, 7⟩
def hd3 : Tk := ⟨4, ⟨#[45]⟩, 8⟩
def hd4 : Tk := ⟨3, ⟨#[97, 34, 98]⟩, 9⟩
def hdL : List Tk := [⟨1, ⟨#[119, 97, 121]⟩, 0⟩, hd1, hd2, hd3, hd4]
theorem head1 : lexR ⟨#[119, 97, 121, 32, 119, 49, 32, 55, 45, 34, 97, 92, 34, 98, 34, 35, 32, 121]⟩ = (hdL, 0, 0) := by kernel_rfl
theorem head2 : lexR ⟨#[97, 32, 33, 98]⟩ = ([], 10, 2) := by kernel_rfl
theorem head3 : lexR ⟨#[55, 120]⟩ = ([], 11, 0) := by kernel_rfl
theorem head4 : lexR ⟨#[97, 32, 34, 98]⟩ = ([], 10, 2) := by kernel_rfl
theorem head5 : lexR ⟨#[10, 97, 98, 99, 100, 101, 102, 103, 104, 105, 106, 107, 108, 109, 110, 111, 112, 113, 114, 115, 116, 117, 118, 119, 120, 121]⟩ = ([], 7, 1) := by kernel_rfl
attribute [local irreducible] Calls thenQ blockQ retQ Spc Spl SplI SpcM Spq Ex Ev Evs Gd Upd ESub HKeep Res Res1 wlk effQ Rem SrcAt Split lexR
theorem ex_tkeql {Be : Nat} {w0 : World} {H : Heap} {G : Bool} {e : Env} {ty t' : TypeId} {x y : Operand} {s t : Tk} (h1 : Ev G e x (.agg (tkC s))) (h2 : Ev G e y (.agg (tkC t))) : Ex Try.prog Be w0 H G e (.binOp .eql 31 x y t') ty (.bool (tkEq s t)) := ex_aggeql h1 h2 (by kernel_rfl) (tkEq_run s t)
theorem ex_tkeqT {Be : Nat} {w0 : World} {H : Heap} {G : Bool} {e : Env} {ty t' : TypeId} {x y : Operand} {s t : Tk} (h1 : Ev G e x (.agg (tkC s))) (h2 : Ev G e y (.agg (tkC t))) (h : tkEq s t = true) : Ex Try.prog Be w0 H G e (.binOp .eql 31 x y t') ty (.bool true) := by
  have := ex_tkeql (Be := Be) (w0 := w0) (H := H) (ty := ty) (t' := t') h1 h2
  rwa [h] at this
theorem lex_e {w : World} {t : ByteArray} {l : List Tk} {e n : Int} (hR : lexR t = (l, e, n)) (ht : t.size < 1000000) : Calls Try.prog 12 #[.string t] w (RetH w (fun x : RowS => .tuple #[x.val l.length, .int .i64 e, .int .i64 n]) (fun x => x.hp (flatT l) 31) (fun x => x.ok 3 l.length (flatT l))) := by
  have := lex_c (w := w) t ht
  rw [hR] at this
  exact this
theorem headN1 {w : World} : Calls Try.prog 15 #[.string ⟨#[97, 95, 49]⟩] w (Ret w (.bool true)) := lexName_c ⟨#[97, 95, 49]⟩ (by decide)
theorem headN2 {w : World} : Calls Try.prog 15 #[.string ⟨#[49, 97]⟩] w (Ret w (.bool false)) := lexName_c ⟨#[49, 97]⟩ (by decide)
theorem headN3 {w : World} : Calls Try.prog 15 #[.string ⟨#[]⟩] w (Ret w (.bool false)) := lexName_c ⟨#[]⟩ (by decide)
theorem headQ {w : World} : Calls Try.prog 17 #[.string ⟨#[97, 10, 92]⟩] w (Ret w (.string ⟨#[34, 97, 92, 110, 92, 92, 34]⟩)) := lexQuote_c ⟨#[97, 10, 92]⟩ (by decide)

set_option maxRecDepth 100000 in
set_option maxHeartbeats 1000000 in
theorem head_c {w : World} : Calls Try.prog 11 #[] w (Ret w (.bool true)) := by
  refine sp_enter (vs := []) Try.func11 rfl Try.ntmps11 rfl ?_
  repeat (first
    | (apply spl_callh rfl;(·(repeat (first|exact eN|(apply eS;(·(first|exact eT rfl|exact eC|exact eG rfl|exact eL rfl|exact eLL rfl|exact eLLL rfl|exact eF|exact eGl))))));(·exact fun w' hh => lex_e head1 (by decide));(intro x hx hfr;rcases x with ⟨_ | g, cap, tl⟩))
    | apply then_n|apply block_n|apply sp_seq|apply sp_region|apply spl_nil|apply then_r|apply block_r|apply then_e|apply block_here|apply block_past rfl
    | ((first|apply sp_cond_t|apply sp_cond_f);(·(first|exact eT rfl|exact eC|exact eG rfl|exact eL rfl|exact eLL rfl|exact eLLL rfl|exact eF|exact eGl));(·(first|exact decide_eq_true (by omega)|exact decide_eq_false (by omega)|assumption|rfl)))
    | (apply sp_cond_f;(·(first|exact eT rfl|exact eC|exact eG rfl|exact eL rfl|exact eLL rfl|exact eLLL rfl|exact eF|exact eGl));(·(first|exact decide_eq_false (by omega)|assumption|rfl)))
    | apply sp_skip|apply sp_ret|apply sp_exit|apply sp_block
    | ((first|apply spl_pure rfl|(apply spl_pure_g rfl;(·(first|exact Gd.none|exact Gd.tt rfl rfl|exact Gd.tf rfl rfl|exact Gd.gt rfl rfl|exact Gd.gf rfl rfl))));(·(first|((first|apply ex_move|apply ex_assign|apply ex_not|apply ex_seql|apply ex_sneq|apply ex_len|apply ex_andT)<;>(first|exact eT rfl|exact eC|exact eG rfl|exact eL rfl|exact eLL rfl|exact eLLL rfl|exact eF|exact eGl))|((first|apply ex_eql|apply ex_neq|apply ex_slen|apply ex_orT)<;>(first|exact eT rfl|exact eC|exact eG rfl|exact eL rfl|exact eLL rfl|exact eLLL rfl|exact eF|exact eGl))|((first|apply ex_beql|apply ex_bneq|apply ex_and)<;>(first|exact eT rfl|exact eC|exact eG rfl|exact eL rfl|exact eLL rfl|exact eLLL rfl|exact eF|exact eGl))|((first|apply ex_or|apply ex_peql|apply ex_pneq)<;>(first|exact eT rfl|exact eC|exact eG rfl|exact eL rfl|exact eLL rfl|exact eLLL rfl|exact eF|exact eGl))|((first|apply ex_loadown|apply ex_extract|apply ex_indexAddr)<;>(first|exact eT rfl|exact eC|exact eG rfl|exact eL rfl|exact eLL rfl|exact eLLL rfl|exact eF|exact eGl|exact Bk.own InH.mem|exact Bk.old (by assumption) (Nat.le_refl _)|rfl|assumption|omega))|((first|apply ex_loadowns|apply ex_indexAddrI)<;>(first|exact eT rfl|exact eC|exact eG rfl|exact eL rfl|exact eLL rfl|exact eLLL rfl|exact eF|exact eGl|exact Bk.own InH.mem|exact Bk.old (by assumption) (Nat.le_refl _)|(first|rfl|assumption)|(constructor<;>omega)))|(apply ex_build<;>(first|((repeat (first|exact eN|(apply eS;(·(first|exact eT rfl|exact eC|exact eG rfl|exact eL rfl|exact eLL rfl|exact eLLL rfl|exact eF|exact eGl)))));done)|rfl)))))
    | (apply spl_guard_t;(·(first|exact Gd.none|exact Gd.tt rfl rfl|exact Gd.tf rfl rfl|exact Gd.gt rfl rfl|exact Gd.gf rfl rfl));(·rfl))|(apply spl_guard_f;(·(first|exact Gd.none|exact Gd.tt rfl rfl|exact Gd.tf rfl rfl|exact Gd.gt rfl rfl|exact Gd.gf rfl rfl));(·rfl);(·rfl)))
  · exact absurd hx.1 (by decide)
  · repeat (first
      | (apply spl_callh rfl;(·(repeat (first|exact eN|(apply eS;(·(first|exact eT rfl|exact eC|exact eG rfl|exact eL rfl|exact eLL rfl|exact eLLL rfl|exact eF|exact eGl))))));(·exact fun w' hh => lex_e head2 (by decide));(intro x2 hx2 hfr2))
      | (apply spl_callh rfl;(·(repeat (first|exact eN|(apply eS;(·(first|exact eT rfl|exact eC|exact eG rfl|exact eL rfl|exact eLL rfl|exact eLLL rfl|exact eF|exact eGl))))));(·exact fun w' hh => lex_e head3 (by decide));(intro x3 hx3 hfr3))
      | (apply spl_callh rfl;(·(repeat (first|exact eN|(apply eS;(·(first|exact eT rfl|exact eC|exact eG rfl|exact eL rfl|exact eLL rfl|exact eLLL rfl|exact eF|exact eGl))))));(·exact fun w' hh => lex_e head4 (by decide));(intro x4 hx4 hfr4))
      | (apply spl_callh rfl;(·(repeat (first|exact eN|(apply eS;(·(first|exact eT rfl|exact eC|exact eG rfl|exact eL rfl|exact eLL rfl|exact eLLL rfl|exact eF|exact eGl))))));(·exact fun w' hh => lex_e head5 (by decide));(intro x5 hx5 hfr5))
      | (apply spl_callp rfl;(·(repeat (first|exact eN|(apply eS;(·(first|exact eT rfl|exact eC|exact eG rfl|exact eL rfl|exact eLL rfl|exact eLLL rfl|exact eF|exact eGl))))));(·exact fun w' hh => headN1))
      | (apply spl_callp_g rfl;(·(first|exact Gd.none|exact Gd.tt rfl rfl|exact Gd.tf rfl rfl|exact Gd.gt rfl rfl|exact Gd.gf rfl rfl));(·(repeat (first|exact eN|(apply eS;(·(first|exact eT rfl|exact eC|exact eG rfl|exact eL rfl|exact eLL rfl|exact eLLL rfl|exact eF|exact eGl))))));(·exact fun _ w' hh => headN2))
      | (apply spl_callp_g rfl;(·(first|exact Gd.none|exact Gd.tt rfl rfl|exact Gd.tf rfl rfl|exact Gd.gt rfl rfl|exact Gd.gf rfl rfl));(·(repeat (first|exact eN|(apply eS;(·(first|exact eT rfl|exact eC|exact eG rfl|exact eL rfl|exact eLL rfl|exact eLLL rfl|exact eF|exact eGl))))));(·exact fun _ w' hh => headN3))
      | (apply spl_callp_g rfl;(·(first|exact Gd.none|exact Gd.tt rfl rfl|exact Gd.tf rfl rfl|exact Gd.gt rfl rfl|exact Gd.gf rfl rfl));(·(repeat (first|exact eN|(apply eS;(·(first|exact eT rfl|exact eC|exact eG rfl|exact eL rfl|exact eLL rfl|exact eLLL rfl|exact eF|exact eGl))))));(·exact fun _ w' hh => headQ))
      | apply then_n|apply block_n|apply sp_seq|apply sp_region|apply spl_nil|apply then_r|apply block_r|apply then_e|apply block_here|apply block_past rfl
      | ((first|apply sp_cond_t|apply sp_cond_f);(·(first|exact eT rfl|exact eC|exact eG rfl|exact eL rfl|exact eLL rfl|exact eLLL rfl|exact eF|exact eGl));(·(first|exact decide_eq_true (by omega)|exact decide_eq_false (by omega)|assumption|rfl)))
      | (apply sp_cond_f;(·(first|exact eT rfl|exact eC|exact eG rfl|exact eL rfl|exact eLL rfl|exact eLLL rfl|exact eF|exact eGl));(·(first|exact decide_eq_false (by omega)|assumption|rfl)))
      | apply sp_skip|apply sp_ret|apply sp_exit|apply sp_block
      | ((first|apply spl_pure rfl|(apply spl_pure_g rfl;(·(first|exact Gd.none|exact Gd.tt rfl rfl|exact Gd.tf rfl rfl|exact Gd.gt rfl rfl|exact Gd.gf rfl rfl))));(·(first|(apply ex_indexAddr (i:=1) (A:=some ⟨g, 0, none⟩) (n:=5) (c:=cap);(·(first|exact eT rfl|exact eC|exact eG rfl|exact eL rfl|exact eLL rfl|exact eLLL rfl|exact eF|exact eGl));(·exact eC);(·rfl);(·decide))|(apply ex_loadelemH (i:=1) (y:=hd1) (sz:=3) (C:=tkC) (ad:=⟨g, 0, none⟩);(·(first|exact eT rfl|exact eC|exact eG rfl|exact eL rfl|exact eLL rfl|exact eLLL rfl|exact eF|exact eGl));(·exact row_rd (x:=⟨some g, cap, tl⟩) hx (by decide) (fun p hp => by (repeat (first|exact hp|exact List.mem_append_left _ hp|apply List.mem_append_right))));(·rfl);(·rfl);(·rfl))|(apply ex_buildE (r:=tkC hd1);(·(repeat (first|exact eN|(apply eS;(·(first|exact eT rfl|exact eC|exact eG rfl|exact eL rfl|exact eLL rfl|exact eLLL rfl|exact eF|exact eGl))))));(·rfl);(·rfl))|(apply ex_tkeqT (s:=hd1) (t:=hd1);(·(first|exact eT rfl|exact eC|exact eG rfl|exact eL rfl|exact eLL rfl|exact eLLL rfl|exact eF|exact eGl));(·(first|exact eT rfl|exact eC|exact eG rfl|exact eL rfl|exact eLL rfl|exact eLLL rfl|exact eF|exact eGl));(·rfl))|(apply ex_indexAddr (i:=2) (A:=some ⟨g, 0, none⟩) (n:=5) (c:=cap);(·(first|exact eT rfl|exact eC|exact eG rfl|exact eL rfl|exact eLL rfl|exact eLLL rfl|exact eF|exact eGl));(·exact eC);(·rfl);(·decide))|(apply ex_loadelemH (i:=2) (y:=hd2) (sz:=3) (C:=tkC) (ad:=⟨g, 0, none⟩);(·(first|exact eT rfl|exact eC|exact eG rfl|exact eL rfl|exact eLL rfl|exact eLLL rfl|exact eF|exact eGl));(·exact row_rd (x:=⟨some g, cap, tl⟩) hx (by decide) (fun p hp => by (repeat (first|exact hp|exact List.mem_append_left _ hp|apply List.mem_append_right))));(·rfl);(·rfl);(·rfl))|(apply ex_buildE (r:=tkC hd2);(·(repeat (first|exact eN|(apply eS;(·(first|exact eT rfl|exact eC|exact eG rfl|exact eL rfl|exact eLL rfl|exact eLLL rfl|exact eF|exact eGl))))));(·rfl);(·rfl))|(apply ex_tkeqT (s:=hd2) (t:=hd2);(·(first|exact eT rfl|exact eC|exact eG rfl|exact eL rfl|exact eLL rfl|exact eLLL rfl|exact eF|exact eGl));(·(first|exact eT rfl|exact eC|exact eG rfl|exact eL rfl|exact eLL rfl|exact eLLL rfl|exact eF|exact eGl));(·rfl))|(apply ex_indexAddr (i:=3) (A:=some ⟨g, 0, none⟩) (n:=5) (c:=cap);(·(first|exact eT rfl|exact eC|exact eG rfl|exact eL rfl|exact eLL rfl|exact eLLL rfl|exact eF|exact eGl));(·exact eC);(·rfl);(·decide))|(apply ex_loadelemH (i:=3) (y:=hd3) (sz:=3) (C:=tkC) (ad:=⟨g, 0, none⟩);(·(first|exact eT rfl|exact eC|exact eG rfl|exact eL rfl|exact eLL rfl|exact eLLL rfl|exact eF|exact eGl));(·exact row_rd (x:=⟨some g, cap, tl⟩) hx (by decide) (fun p hp => by (repeat (first|exact hp|exact List.mem_append_left _ hp|apply List.mem_append_right))));(·rfl);(·rfl);(·rfl))|(apply ex_buildE (r:=tkC hd3);(·(repeat (first|exact eN|(apply eS;(·(first|exact eT rfl|exact eC|exact eG rfl|exact eL rfl|exact eLL rfl|exact eLLL rfl|exact eF|exact eGl))))));(·rfl);(·rfl))|(apply ex_tkeqT (s:=hd3) (t:=hd3);(·(first|exact eT rfl|exact eC|exact eG rfl|exact eL rfl|exact eLL rfl|exact eLLL rfl|exact eF|exact eGl));(·(first|exact eT rfl|exact eC|exact eG rfl|exact eL rfl|exact eLL rfl|exact eLLL rfl|exact eF|exact eGl));(·rfl))|(apply ex_indexAddr (i:=4) (A:=some ⟨g, 0, none⟩) (n:=5) (c:=cap);(·(first|exact eT rfl|exact eC|exact eG rfl|exact eL rfl|exact eLL rfl|exact eLLL rfl|exact eF|exact eGl));(·exact eC);(·rfl);(·decide))|(apply ex_loadelemH (i:=4) (y:=hd4) (sz:=3) (C:=tkC) (ad:=⟨g, 0, none⟩);(·(first|exact eT rfl|exact eC|exact eG rfl|exact eL rfl|exact eLL rfl|exact eLLL rfl|exact eF|exact eGl));(·exact row_rd (x:=⟨some g, cap, tl⟩) hx (by decide) (fun p hp => by (repeat (first|exact hp|exact List.mem_append_left _ hp|apply List.mem_append_right))));(·rfl);(·rfl);(·rfl))|(apply ex_buildE (r:=tkC hd4);(·(repeat (first|exact eN|(apply eS;(·(first|exact eT rfl|exact eC|exact eG rfl|exact eL rfl|exact eLL rfl|exact eLLL rfl|exact eF|exact eGl))))));(·rfl);(·rfl))|(apply ex_tkeqT (s:=hd4) (t:=hd4);(·(first|exact eT rfl|exact eC|exact eG rfl|exact eL rfl|exact eLL rfl|exact eLLL rfl|exact eF|exact eGl));(·(first|exact eT rfl|exact eC|exact eG rfl|exact eL rfl|exact eLL rfl|exact eLLL rfl|exact eF|exact eGl));(·rfl))|((first|apply ex_move|apply ex_assign|apply ex_not|apply ex_seql|apply ex_sneq|apply ex_len|apply ex_andT)<;>(first|exact eT rfl|exact eC|exact eG rfl|exact eL rfl|exact eLL rfl|exact eLLL rfl|exact eF|exact eGl))|((first|apply ex_eql|apply ex_neq|apply ex_slen|apply ex_orT)<;>(first|exact eT rfl|exact eC|exact eG rfl|exact eL rfl|exact eLL rfl|exact eLLL rfl|exact eF|exact eGl))|((first|apply ex_beql|apply ex_bneq|apply ex_and)<;>(first|exact eT rfl|exact eC|exact eG rfl|exact eL rfl|exact eLL rfl|exact eLLL rfl|exact eF|exact eGl))|((first|apply ex_or|apply ex_peql|apply ex_pneq)<;>(first|exact eT rfl|exact eC|exact eG rfl|exact eL rfl|exact eLL rfl|exact eLLL rfl|exact eF|exact eGl))|((first|apply ex_loadown|apply ex_extract|apply ex_indexAddr)<;>(first|exact eT rfl|exact eC|exact eG rfl|exact eL rfl|exact eLL rfl|exact eLLL rfl|exact eF|exact eGl|exact Bk.own InH.mem|exact Bk.old (by assumption) (Nat.le_refl _)|rfl|assumption|omega))|((first|apply ex_loadowns|apply ex_indexAddrI)<;>(first|exact eT rfl|exact eC|exact eG rfl|exact eL rfl|exact eLL rfl|exact eLLL rfl|exact eF|exact eGl|exact Bk.own InH.mem|exact Bk.old (by assumption) (Nat.le_refl _)|(first|rfl|assumption)|(constructor<;>omega)))|(apply ex_build<;>(first|((repeat (first|exact eN|(apply eS;(·(first|exact eT rfl|exact eC|exact eG rfl|exact eL rfl|exact eLL rfl|exact eLLL rfl|exact eF|exact eGl)))));done)|rfl)))))
      | (apply spl_guard_t;(·(first|exact Gd.none|exact Gd.tt rfl rfl|exact Gd.tf rfl rfl|exact Gd.gt rfl rfl|exact Gd.gf rfl rfl));(·rfl))|(apply spl_guard_f;(·(first|exact Gd.none|exact Gd.tt rfl rfl|exact Gd.tf rfl rfl|exact Gd.gt rfl rfl|exact Gd.gf rfl rfl));(·rfl);(·rfl)))
    (apply ret_ok rfl;(·(first|(apply Res.ofOne;(first|(apply Res1.tmp;(·rfl))|(apply Res1.cell;(·rfl);(·exact InH.mem);(·(first|rfl|assumption)))|(apply Res1.cell1;(·rfl);(·exact InH.mem);(·rfl))))|(apply Res.ofTwo<;>(first|(apply Res1.tmp;(·rfl))|(apply Res1.cell;(·rfl);(·exact InH.mem);(·(first|rfl|assumption)))|(apply Res1.cell1;(·rfl);(·exact InH.mem);(·rfl))))|(apply Res.ofThree<;>(first|(apply Res1.tmp;(·rfl))|(apply Res1.cell;(·rfl);(·exact InH.mem);(·(first|rfl|assumption)))|(apply Res1.cell1;(·rfl);(·exact InH.mem);(·rfl))))|exact Res.none_))); rfl
end Go.Proofs.Ytildepcgnppcjaa
