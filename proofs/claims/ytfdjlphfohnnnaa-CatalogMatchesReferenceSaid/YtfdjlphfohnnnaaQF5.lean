/-
  Contracts: the reference's classes of bytes, gaps, names.
-/
import Derived.Test.YtfdjlphfohnnnaaQF2
import Derived.Test.YtfdjlphfohnnnaaQF4
import Derived.Test.YtfdjlphfohnnnaaQF3
namespace Go.Proofs.Ytfdjlphfohnnnaa
open Go.RowKit Go.Sy
set_option linter.unusedVariables false
set_option linter.unusedSimpArgs false
attribute [local irreducible] Calls thenQ blockQ retQ Spc Spl Spq Ex Ev Evs Gd Upd ESub HKeep Res Res1 wlk effQ Rem SrcAt Split

set_option maxRecDepth 100000 in
theorem letter_c {w : World} (c : UInt8) : Calls Try.prog 70 #[.int .u8 (c.toNat : Int)] w (Ret w (.bool (isLetter c))) := by
  refine sp_enter (vs := [_]) Try.func70 rfl Try.ntmps70 rfl ?_
  repeat (first|apply then_n|apply sp_seq|apply sp_region|apply spl_nil|apply sp_ret|((first|apply spl_pure rfl|(apply spl_pure_g rfl;(·(first|exact Gd.tt rfl rfl|exact Gd.tf rfl rfl|exact Gd.gt rfl rfl))));(·(first|((first|apply ex_move|apply ex_assign|apply ex_leq|apply ex_geq|apply ex_andT)<;>(first|exact eT rfl|exact eC|exact eG rfl))|((apply ex_orT)<;>(first|exact eT rfl|exact eG rfl))|(apply ex_and<;>(exact eG rfl))))))
  (apply ret_ok rfl;(·((apply Res.ofOne;((apply Res1.tmp;(·rfl))))))); rfl
set_option maxRecDepth 100000 in
theorem digit_c {w : World} (c : UInt8) : Calls Try.prog 79 #[.int .u8 (c.toNat : Int)] w (Ret w (.bool (isDigit c))) := by
  refine sp_enter (vs := [_]) Try.func79 rfl Try.ntmps79 rfl ?_
  repeat (first|apply then_n|apply sp_seq|apply sp_region|apply spl_nil|apply sp_ret|((first|apply spl_pure rfl|(apply spl_pure_g rfl;(·exact Gd.tt rfl rfl)));(·(((first|apply ex_move|apply ex_assign|apply ex_leq|apply ex_geq|apply ex_andT)<;>(first|exact eT rfl|exact eC|exact eG rfl))))))
  (apply ret_ok rfl;(·((apply Res.ofOne;((apply Res1.tmp;(·rfl))))))); rfl
set_option maxRecDepth 100000 in
theorem word_c {w : World} (c : UInt8) : Calls Try.prog 69 #[.int .u8 (c.toNat : Int)] w (Ret w (.bool (isWord c))) := by
  refine sp_enter (vs := [_]) Try.func69 rfl Try.ntmps69 rfl ?_
  repeat (first|(apply spl_callp rfl;(·(repeat (first|exact eN|(apply eS;(·exact eT rfl)))));(·exact fun w' hh => letter_c c))|(apply spl_callp_g rfl;(·exact Gd.tf rfl rfl);(·(repeat (first|exact eN|(apply eS;(·exact eG rfl)))));(·exact fun _ w' hh => digit_c c))|apply then_n|apply sp_seq|apply sp_region|apply spl_nil|apply sp_ret|((first|apply spl_pure rfl|(apply spl_pure_g rfl;(·exact Gd.tf rfl rfl)));(·(first|((first|apply ex_move|apply ex_assign|apply ex_seql)<;>(first|exact eT rfl|exact eC))|((first|apply ex_eql|apply ex_orT)<;>(first|exact eT rfl|exact eC|exact eG rfl))))))
  (apply ret_ok rfl;(·((apply Res.ofOne;((apply Res1.tmp;(·rfl))))))); rfl
set_option maxRecDepth 100000 in
set_option maxHeartbeats 1000000 in
theorem has_c {w : World} (s : ByteArray) (hs : s.size < 9223372036854775807) (c : UInt8) : Calls Try.prog 78 #[.string s, .int .u8 (c.toNat : Int)] w (Ret w (.bool (hasB s c))) := by
  refine sp_enter (vs := [_, _]) Try.func78 rfl Try.ntmps78 rfl ?_
  repeat (first|apply then_n|apply sp_seq|apply sp_region|apply spl_nil|apply sp_block|((apply spl_pure rfl);(·(((apply ex_assign)<;>(exact eC))))))
  refine sp_loop (X := Nat) (fun k => [(5, true, .int .i64 (k : Int)), (0, true, .string s), (1, true, .int .u8 (c.toNat : Int))]) (fun _ => w) (fun _ => [])
    (fun k => k ≤ s.size ∧ hasB s c = ((tx s).drop k).any fun x => decide ((x.toNat : Int) = c.toNat)) (fun k => s.size - k) 0 ⟨Nat.zero_le _, rfl⟩ (by (repeat (first|exact ESub.nil|apply ESub.cons rfl))) rfl (by (repeat (exact HKeep.refl))) ?_
  rintro k ⟨hk, hi⟩
  by_cases hlt : k < s.size
  · obtain ⟨b, hb, hd⟩ := drop_at hlt
    rw [hd, List.any_cons] at hi
    repeat (first|apply then_n|apply sp_seq|apply sp_region|apply spl_nil|((apply sp_cond_t);(·exact eT rfl);(·(exact decide_eq_true (by omega))))|apply sp_skip|apply sp_block|((apply spl_pure rfl);(·(first|(apply ex_sindexE hlt hb;(·exact eT rfl);(·exact eT rfl))|((first|apply ex_move|apply ex_lss|apply ex_seql)<;>(exact eT rfl))|((first|apply ex_eql|apply ex_slen)<;>(exact eT rfl))))))
    refine sp_cond (eT rfl) (fun hp => ?_) (fun hp => ?_)
    · repeat (first|apply then_n|apply sp_seq|apply sp_region|apply spl_nil|apply then_r|apply block_r|apply sp_ret|((apply spl_pure rfl);(·(((apply ex_assign)<;>(exact eC))))))
      rw [hp, Bool.true_or] at hi
      (apply ret_ok rfl;(·((apply Res.ofOne;((apply Res1.tmp;(·rfl))))))); rw [hi]
    · repeat (first|apply then_n|apply block_n|apply sp_region|apply spl_nil|apply sp_skip|((apply spl_pure rfl);(·(first|((first|apply ex_move|apply ex_assign)<;>(exact eT rfl))|(apply ex_addn<;>(first|exact eT rfl|exact eC|(constructor<;>omega)))))))
      rw [hp, Bool.false_or] at hi
      exact ⟨k + 1, ⟨by omega, hi⟩, by omega, (by (repeat (first|exact ESub.nil|apply ESub.cons rfl))), rfl, (by (repeat (exact HKeep.refl)))⟩
  · rw [drop_end (by omega)] at hi
    repeat (first|apply then_n|apply sp_seq|apply sp_region|apply spl_nil|apply then_e|apply block_here|(apply sp_cond_f;(·exact eT rfl);(·(exact decide_eq_false (by omega))))|apply sp_ret|apply sp_exit|((apply spl_pure rfl);(·(first|((first|apply ex_move|apply ex_assign|apply ex_lss)<;>(first|exact eT rfl|exact eC))|((apply ex_slen)<;>(exact eT rfl))))))
    (apply ret_ok rfl;(·((apply Res.ofOne;((apply Res1.tmp;(·rfl))))))); rw [hi]; rfl

set_option maxRecDepth 100000 in
set_option maxHeartbeats 2000000 in
theorem gap_c {w : World} (t : ByteArray) (ht : t.size < 9223372036854775808) (i0 : Nat) (h0 : i0 ≤ t.size) : Calls Try.prog 56 #[.string t, .int .i64 (i0 : Int)] w (Ret w (.int .i64 (gapEnd t i0 : Nat))) := by
  have hbl := fun (w' : World) (c : UInt8) => has_c (w := w') blanks (by decide) c
  refine sp_enter (vs := [_, _]) Try.func56 rfl Try.ntmps56 rfl ?_
  repeat (first|apply then_n|apply sp_seq|apply sp_region|apply spl_nil|apply sp_block|((apply spl_pure rfl);(·(((apply ex_assign)<;>(exact eC))))))
  refine sp_loop (X := Nat) (fun k => [(1, true, .int .i64 (k : Int)), (0, true, .string t)]) (fun _ => w) (fun _ => [])
    (fun k => k ≤ t.size ∧ skipM false ((tx t).drop k) = skipM false ((tx t).drop i0)) (fun k => t.size - k) i0 ⟨h0, rfl⟩ (by (repeat (first|exact ESub.nil|apply ESub.cons rfl))) rfl (by (repeat (exact HKeep.refl))) ?_
  rintro k ⟨hk, hi⟩
  have hge : gapEnd t i0 = t.size - (skipM false ((tx t).drop k)).length := by rw [hi]; rfl
  by_cases hlt : k < t.size
  · obtain ⟨b, hb, hd⟩ := drop_at hlt
    have hlen : ((tx t).drop (k + 1)).length = t.size - (k + 1) := by rw [List.length_drop, tx_len]
    rw [hd] at hi hge
    cases hbk : isBlank b with
    | true =>
      have h1 := hbl
      have hB : hasB blanks b = true := hbk
      have hi' : skipM false ((tx t).drop (k + 1)) = skipM false ((tx t).drop i0) := by rw [← hi]; simp [skipM, hbk]
      have hbb := fun w' => (hB ▸ hbl w' b : Calls Try.prog 78 #[.string blanks, .int .u8 (b.toNat : Int)] w' (Ret w' (.bool true)))
      repeat (first|(apply sp_cond_t;(·exact eT rfl);(·(first|(simp;done)|(simp [*];done))))|(apply spl_callp rfl;(·(repeat (first|exact eN|(apply eS;(·(first|exact eT rfl|exact eC))))));(·exact fun w' hh => hbb w'))|apply then_n|apply block_n|apply sp_seq|apply sp_region|apply spl_nil|apply sp_skip|apply sp_block|((apply spl_pure rfl);(·(first|(apply ex_sindexE hlt hb;(·exact eT rfl);(·exact eT rfl))|((first|apply ex_move|apply ex_assign|apply ex_lss)<;>(exact eT rfl))|((apply ex_slen)<;>(exact eT rfl))|(apply ex_addn<;>(first|exact eT rfl|exact eC|(constructor<;>omega)))))))
      exact ⟨k + 1, ⟨by omega, hi'⟩, by omega, (by (repeat (first|exact ESub.nil|apply ESub.cons rfl))), rfl, (by (repeat (exact HKeep.refl)))⟩
    | false =>
      have hB : hasB blanks b = false := hbk
      have hbb := fun w' => (hB ▸ hbl w' b : Calls Try.prog 78 #[.string blanks, .int .u8 (b.toNat : Int)] w' (Ret w' (.bool false)))
      by_cases h35 : b.toNat = 35
      · have h35' : (b.toNat : Int) = 35 := by omega
        have hi' : skipM true ((tx t).drop (k + 1)) = skipM false ((tx t).drop i0) := by rw [← hi]; simp [skipM, hbk, h35]
        have h10 : ¬ b.toNat = 10 := by omega
        repeat (first|(apply sp_cond_t;(·exact eT rfl);(·(simp [*];done)))|(apply sp_cond_f;(·exact eT rfl);(·(simp;done)))|(apply spl_callp rfl;(·(repeat (first|exact eN|(apply eS;(·(first|exact eT rfl|exact eC))))));(·exact fun w' hh => hbb w'))|apply then_n|apply sp_seq|apply sp_region|apply spl_nil|apply sp_skip|apply sp_block|((apply spl_pure rfl);(·(first|(apply ex_sindexE hlt hb;(·exact eT rfl);(·exact eT rfl))|((first|apply ex_move|apply ex_lss|apply ex_seql)<;>(exact eT rfl))|((first|apply ex_eql|apply ex_slen)<;>(first|exact eT rfl|exact eC))))))
        refine sp_loop (X := Nat) (fun j => [(1, true, .int .i64 (j : Int)), (0, true, .string t)]) (fun _ => w) (fun _ => [])
          (fun j => k ≤ j ∧ j ≤ t.size ∧ (j = k ∨ k < j ∧ skipM true ((tx t).drop j) = skipM false ((tx t).drop i0))) (fun j => t.size - j) k ⟨Nat.le_refl _, by omega, .inl rfl⟩ (by (repeat (first|exact ESub.nil|apply ESub.cons rfl))) rfl (by (repeat (exact HKeep.refl))) ?_
        rintro j ⟨hkj, hj, hjj⟩
        by_cases hlt2 : j < t.size
        · obtain ⟨b2, hb2, hd2⟩ := drop_at hlt2
          by_cases hb10 : b2.toNat = 10
          · have hkj' : k < j := by
              rcases hjj with h | h
              · subst h; rw [hb] at hb2; subst hb2; omega
              · exact h.1
            have hnl : skipM false ((tx t).drop j) = skipM false ((tx t).drop i0) := by
              rcases hjj with h | h
              · omega
              · rw [← h.2, skip_nl _ (.inr ⟨_, _, hd2, hb10⟩)]
            have hcond : (decide ((j : Int) < t.size) && !decide ((b2.toNat : Int) = 10)) = false := by simp [hb10]
            repeat (first|(apply sp_cond_f;(·exact eT rfl);(·exact hcond))|apply then_n|apply block_n|apply sp_seq|apply sp_region|apply spl_nil|apply then_e|apply block_here|apply sp_exit|((first|apply spl_pure rfl|(apply spl_pure_g rfl;(·exact Gd.tt rfl rfl)));(·(first|(apply ex_sindexE hlt2 hb2;(·exact eG rfl);(·exact eG rfl))|((first|apply ex_move|apply ex_lss|apply ex_sneq|apply ex_andT)<;>(first|exact eT rfl|exact eG rfl))|((first|apply ex_neq|apply ex_slen)<;>(first|exact eT rfl|exact eC|exact eG rfl))))))
            exact ⟨j, ⟨by omega, hnl⟩, by omega, (by (repeat (first|exact ESub.nil|apply ESub.cons rfl))), rfl, (by (repeat (exact HKeep.refl)))⟩
          · have hcond : (decide ((j : Int) < t.size) && !decide ((b2.toNat : Int) = 10)) = true := by simp [hb10]; omega
            repeat (first|(apply sp_cond_t;(·exact eT rfl);(·exact hcond))|apply then_n|apply block_n|apply sp_seq|apply sp_region|apply spl_nil|apply sp_skip|apply sp_block|((first|apply spl_pure rfl|(apply spl_pure_g rfl;(·exact Gd.tt rfl rfl)));(·(first|(apply ex_sindexE hlt2 hb2;(·exact eG rfl);(·exact eG rfl))|((first|apply ex_move|apply ex_assign|apply ex_lss|apply ex_sneq|apply ex_andT)<;>(first|exact eT rfl|exact eG rfl))|((first|apply ex_neq|apply ex_slen)<;>(first|exact eT rfl|exact eC|exact eG rfl))|(apply ex_addn<;>(first|exact eT rfl|exact eC|(constructor<;>omega)))))))
            refine ⟨j + 1, ⟨by omega, by omega, .inr ⟨by omega, ?_⟩⟩, by omega, (by (repeat (first|exact ESub.nil|apply ESub.cons rfl))), rfl, (by (repeat (exact HKeep.refl)))⟩
            rcases hjj with h | h
            · subst h; exact hi'
            · rw [← h.2, hd2]; simp [skipM, hb10]
        · have hj2 : j = t.size := by omega
          have hkj' : k < j := by omega
          have hnl : skipM false ((tx t).drop j) = skipM false ((tx t).drop i0) := by
            rcases hjj with h | h
            · omega
            · rw [← h.2, skip_nl _ (.inl (drop_end (by omega)))]
          have hdead : decide ((j : Int) < (t.size : Int)) = false := decide_eq_false (by omega)
          repeat (first|(apply sp_cond_f;(·exact eT rfl);(·(rw [hdead];rfl)))|apply then_n|apply block_n|apply sp_seq|apply sp_region|apply spl_nil|apply then_e|apply block_here|apply sp_exit|((first|apply spl_pure rfl|(apply spl_pure_g rfl;(·exact Gd.tt rfl rfl)));(·(first|(apply ex_index_dead hdead)|((first|apply ex_move|apply ex_lss|apply ex_sneq|apply ex_andT)<;>(first|exact eT rfl|exact eG rfl))|((first|apply ex_neq|apply ex_slen)<;>(first|exact eT rfl|exact eC|exact eG rfl))))))
          exact ⟨j, ⟨by omega, hnl⟩, by omega, (by (repeat (first|exact ESub.nil|apply ESub.cons rfl))), rfl, (by (repeat (exact HKeep.refl)))⟩
      · have h35' : ¬ (b.toNat : Int) = 35 := by omega
        have hsk : skipM false (b :: (tx t).drop (k + 1)) = b :: (tx t).drop (k + 1) := by simp [skipM, hbk, h35]
        have hge' : gapEnd t i0 = k := by rw [hge, hsk, List.length_cons, hlen]; omega
        repeat (first|(apply sp_cond_t;(·exact eT rfl);(·(simp [*];done)))|(apply sp_cond_f;(·exact eT rfl);(·(first|(simp;done)|(simp [*];done))))|(apply spl_callp rfl;(·(repeat (first|exact eN|(apply eS;(·(first|exact eT rfl|exact eC))))));(·exact fun w' hh => hbb w'))|apply then_n|apply sp_seq|apply sp_region|apply spl_nil|apply then_r|apply block_r|apply sp_skip|apply sp_ret|apply sp_block|((apply spl_pure rfl);(·(first|(apply ex_sindexE hlt hb;(·exact eT rfl);(·exact eT rfl))|((first|apply ex_move|apply ex_assign|apply ex_lss|apply ex_seql)<;>(exact eT rfl))|((first|apply ex_eql|apply ex_slen)<;>(first|exact eT rfl|exact eC))))))
        (apply ret_ok rfl;(·((apply Res.ofOne;((apply Res1.tmp;(·rfl))))))); rw [hge']
  · have hge' : gapEnd t i0 = k := by rw [hge, drop_end (by omega)]; simp [skipM]; omega
    repeat (first|(apply sp_cond_f;(·exact eT rfl);(·(simp [*];done)))|apply then_n|apply sp_seq|apply sp_region|apply spl_nil|apply then_e|apply block_here|apply sp_ret|apply sp_exit|((apply spl_pure rfl);(·(first|((first|apply ex_move|apply ex_assign|apply ex_lss)<;>(exact eT rfl))|((apply ex_slen)<;>(exact eT rfl))))))
    (apply ret_ok rfl;(·((apply Res.ofOne;((apply Res1.tmp;(·rfl))))))); rw [hge']
set_option maxRecDepth 100000 in
set_option maxHeartbeats 1000000 in
theorem refName_c {w : World} (t : ByteArray) (ht : t.size < 9223372036854775807) : Calls Try.prog 45 #[.string t] w (Ret w (.bool (nameL (tx t)))) := by
  refine sp_enter (vs := [_]) Try.func45 rfl Try.ntmps45 rfl ?_
  have hlen := tx_len t
  repeat (first|apply then_n|apply sp_seq|apply sp_region|apply spl_nil|apply sp_block|((apply spl_pure rfl);(·(((apply ex_assign)<;>(exact eC))))))
  refine sp_loop (X := Nat) (fun k => [(3, true, .int .i64 (k : Int)), (0, true, .string t)]) (fun _ => w) (fun _ => [])
    (fun k => k ≤ t.size ∧ (tx t).all isWord = ((tx t).drop k).all isWord) (fun k => t.size - k) 0 ⟨Nat.zero_le _, rfl⟩ (by (repeat (first|exact ESub.nil|apply ESub.cons rfl))) rfl (by (repeat (exact HKeep.refl))) ?_
  rintro k ⟨hk, hi⟩
  by_cases hlt : k < t.size
  · obtain ⟨b, hb, hd⟩ := drop_at hlt
    rw [hd, List.all_cons] at hi
    repeat (first|(apply spl_callp rfl;(·(repeat (first|exact eN|(apply eS;(·exact eT rfl)))));(·exact fun w' hh => word_c b))|apply then_n|apply sp_seq|apply sp_region|apply spl_nil|((apply sp_cond_t);(·exact eT rfl);(·(exact decide_eq_true (by omega))))|apply sp_skip|apply sp_block|((apply spl_pure rfl);(·(first|(apply ex_sindexE hlt hb;(·exact eT rfl);(·exact eT rfl))|((first|apply ex_move|apply ex_not|apply ex_lss)<;>(exact eT rfl))|((apply ex_slen)<;>(exact eT rfl))))))
    refine sp_cond (eT rfl) (fun hp => ?_) (fun hp => ?_)
    · repeat (first|apply then_n|apply sp_seq|apply sp_region|apply spl_nil|apply then_r|apply block_r|apply sp_ret|((apply spl_pure rfl);(·(((apply ex_assign)<;>(exact eC))))))
      have hf : isWord b = false := by simpa using hp
      rw [hf, Bool.false_and] at hi
      (apply ret_ok rfl;(·((apply Res.ofOne;((apply Res1.tmp;(·rfl)))))))
      unfold nameL
      cases h : tx t with
      | nil => rfl
      | cons c r => rw [h] at hi; simp [hi]
    · repeat (first|apply then_n|apply block_n|apply sp_region|apply spl_nil|apply sp_skip|((apply spl_pure rfl);(·(first|((first|apply ex_move|apply ex_assign)<;>(exact eT rfl))|(apply ex_addn<;>(first|exact eT rfl|exact eC|(constructor<;>omega)))))))
      have hf : isWord b = true := by simpa using hp
      rw [hf, Bool.true_and] at hi
      exact ⟨k + 1, ⟨by omega, hi⟩, by omega, (by (repeat (first|exact ESub.nil|apply ESub.cons rfl))), rfl, (by (repeat (exact HKeep.refl)))⟩
  · rw [drop_end (by omega)] at hi
    cases h : tx t with
    | nil =>
      have h0 : t.size = 0 := by rw [← hlen, h]; rfl
      have hd1 : decide ((0 : Int) < (t.size : Int)) = false := decide_eq_false (by omega)
      have hd2 : (decide ((0 : Int) < (t.size : Int)) && decide ((t.size : Int) ≤ 24)) = false := by rw [hd1]; rfl
      repeat (first|(apply spl_callp_g (v:=.bool false) rfl;(·exact Gd.tt rfl rfl);(·(repeat (first|exact eN|(apply eS;(·exact eG rfl)))));(·(intro hG;rw [hd2] at hG;cases hG)))|apply then_n|apply sp_seq|apply sp_region|apply spl_nil|apply then_e|apply block_here|(apply sp_cond_f;(·exact eT rfl);(·(exact decide_eq_false (by omega))))|apply sp_ret|apply sp_exit|((first|apply spl_pure rfl|(apply spl_pure_g rfl;(·exact Gd.tt rfl rfl)));(·(first|(apply ex_index_dead hd2)|((first|apply ex_move|apply ex_assign|apply ex_lss|apply ex_leq|apply ex_gtr|apply ex_andT)<;>(first|exact eT rfl|exact eC|exact eG rfl))|((apply ex_slen)<;>(first|exact eT rfl|exact eG rfl))))))
      (apply ret_ok rfl;(·((apply Res.ofOne;((apply Res1.tmp;(·rfl)))))))
      rw [hd1]; rfl
    | cons c r =>
      have h0 : 0 < t.size := by rw [← hlen, h]; simp
      have hc : t[0] = c := by
        obtain ⟨b, hb, hd⟩ := drop_at h0
        rw [List.drop_zero, h] at hd
        rw [hb]
        exact (List.cons.inj hd).1.symm
      repeat (first|(apply spl_callp_g rfl;(·exact Gd.tt rfl rfl);(·(repeat (first|exact eN|(apply eS;(·exact eG rfl)))));(·exact fun _ w' hh => letter_c c))|apply then_n|apply sp_seq|apply sp_region|apply spl_nil|apply then_e|apply block_here|(apply sp_cond_f;(·exact eT rfl);(·(exact decide_eq_false (by omega))))|apply sp_ret|apply sp_exit|((first|apply spl_pure rfl|(apply spl_pure_g rfl;(·exact Gd.tt rfl rfl)));(·(first|(apply ex_sindexE (i:=0) h0 hc;(·exact eG rfl);(·exact eC))|((first|apply ex_move|apply ex_assign|apply ex_lss|apply ex_leq|apply ex_gtr|apply ex_andT)<;>(first|exact eT rfl|exact eC|exact eG rfl))|((apply ex_slen)<;>(first|exact eT rfl|exact eG rfl))))))
      (apply ret_ok rfl;(·((apply Res.ofOne;((apply Res1.tmp;(·rfl)))))))
      unfold nameL
      have h24 : (c :: r).length = t.size := by rw [← h, hlen]
      rw [h] at hi
      have hpos : decide ((0 : Int) < (t.size : Int)) = true := decide_eq_true (by omega)
      simp only [hi, h24, hpos, List.all_nil, Bool.and_true, Bool.true_and]
      rw [Bool.and_comm]
      congr 2
      simp
      omega
end Go.Proofs.Ytfdjlphfohnnnaa
/-
  Contracts of the reference: what it reads in catalogs.
-/
namespace Go.Proofs.Ytfdjlphfohnnnaa
open Go.RowKit Go.Sy
set_option linter.unusedVariables false
set_option linter.unusedSimpArgs false
theorem find_hit {α : Type} {p : α → Bool} {xs : List α} {k : Nat} {x : α} (hno : (xs.take k).any p = false) (hx : xs[k]? = some x) (hp : p x = true) : xs.find? p = some x := by
  obtain ⟨h1, h2⟩ := List.getElem?_eq_some_iff.1 hx
  have h3 : (xs.take k).find? p = none := List.find?_eq_none.2 (by simpa using hno)
  rw [← List.take_append_drop k xs, List.find?_append, h3, ← List.getElem_cons_drop h1, h2, List.find?_cons_of_pos hp]; rfl
theorem find_miss {α : Type} {p : α → Bool} {xs : List α} {k : Nat} (hno : (xs.take k).any p = false) (h : xs.length ≤ k) : xs.find? p = none := by
  rw [List.take_of_length_le h] at hno
  exact List.find?_eq_none.2 (by simpa using hno)
theorem inL_hit {xs : List ByteArray} {s x : ByteArray} {k : Nat} (hx : xs[k]? = some x) (hp : x = s) : inL xs s = true := by
  unfold inL
  exact List.any_eq_true.2 ⟨x, List.mem_of_getElem? hx, decide_eq_true hp⟩
theorem inL_miss {xs : List ByteArray} {s : ByteArray} {k : Nat} (hno : (xs.take k).any (fun x => decide (x = s)) = false) (h : xs.length ≤ k) : inL xs s = false := by
  rw [List.take_of_length_le h] at hno; exact hno
theorem inB_inL (x : ByteArray) (l : List ByteArray) : inB x l = inL l x := by
  unfold inB inL
  congr 1; funext y
  rw [Bool.eq_iff_iff]; simp [eq_comm]
/-- A mark at which the walk stops. -/
structure Halt (p : Prop) : Prop where
  out : p
theorem halt_at {P : Program} {N Be : Nat} {Q : Post} {e : Env} {w0 : World} {H : Heap} {c1 c2 : Code} (j : Nat) (v : Value) (hj : Go.Sy.look e j = some (true, v)) (h : Halt (Spc P N Be (.seq c1 c2) Q e w0 H)) : Spc P N Be (.seq c1 c2) Q e w0 H := h.out
attribute [local irreducible] Calls thenQ blockQ retQ Spc Spl Spq Ex Ev Evs Gd Upd ESub HKeep Res Res1 wlk effQ wlkT effT Rem SrcAt Split
set_option maxRecDepth 100000 in
set_option maxHeartbeats 4000000 in
theorem refFind_c {w : World} {A : Option Addr} {n c : Nat} {ks : List KindR} {s : ByteArray} (h : RdS w w.heap.size 3 KindR.cells A n ks) :
    Calls Try.prog 16 #[.agg #[.slice A n c], .string s] w (Ret w (.tuple #[.agg ((findK ks s).getD KindR.zero).cells, .bool (findK ks s).isSome])) := by
  have hbd : n ≤ 9223372036854775807 := h.bound
  refine sp_enter (vs := [_, _]) Try.func16 rfl Try.ntmps16 rfl ?_
  repeat (first|apply then_n|apply sp_seq|apply sp_region|apply spl_nil|apply sp_block|((apply spl_pure rfl);(·(((apply ex_assign)<;>(exact eC)))))|(apply spl_box;(·exact eT rfl);(·rfl);intro _ _)|(apply spl_alloc rfl;intro _ _))
  rename_i g2 hg2 g4 hg4
  refine sp_loop (X := Nat) (fun k => [(6, true, .int .i64 (k : Int)), (4, true, .pointer (some ⟨g4, 0, none⟩)), (2, true, .pointer (some ⟨g2, 0, none⟩)), (1, true, .string s)]) (fun _ => w) (fun _ => [(g4, .cells KindR.zero.cells 34 (0, 0)), (g2, .cells #[.slice A n c] 24 (0, 0))]) (fun k => k ≤ n ∧ (ks.take k).any (fun x => decide (x.name = s)) = false) (fun k => n - k) 0 ⟨Nat.zero_le _, rfl⟩ (by (repeat (first|exact ESub.nil|apply ESub.cons rfl))) rfl (by (repeat (exact HKeep.refl))) ?_
  rintro k ⟨hk, hno⟩
  by_cases hlt : k < n
  · obtain ⟨ad, x, hA, hb, hx, hsz, hc⟩ := h.at_ hlt
    by_cases hp : x.name = s
    · have hf : findK ks s = some x := find_hit hno hx (decide_eq_true hp)
      rw [hf]
      repeat (first|(apply sp_cond_t;(·exact eT rfl);(·exact decide_eq_true hp))|apply then_n|apply sp_seq|apply sp_region|apply spl_nil|apply then_r|apply block_r|((apply sp_cond_t);(·exact eT rfl);(·(exact decide_eq_true (by omega))))|apply sp_skip|apply sp_ret|apply sp_block|((apply spl_pure rfl);(·(first|(apply ex_loadfield (ad:=ad) (i:=k) (k:=0);(·exact eT rfl);(·exact h);(·exact hA);(·exact hx);(·rfl))|(apply ex_loadelem;(·exact eT rfl);(·exact h);(·exact hA);(·exact hx))|((first|apply ex_move|apply ex_assign|apply ex_fieldAddr'|apply ex_lss|apply ex_seql|apply ex_len)<;>(first|exact eT rfl|exact eC))|((apply ex_fieldAddr)<;>(exact eT rfl))|((first|apply ex_loadown|apply ex_indexAddr)<;>(first|exact eT rfl|exact Bk.own InH.mem|rfl|assumption)))))|(apply spl_stores;(·exact eT rfl);(·exact eT rfl);(·(repeat (exact Upd.here)));(·(rfl));(·(rfl));(·exact Ones.one)))
      (apply ret_ok rfl;(·((apply Res.ofTwo<;>(first|(apply Res1.tmp;(·rfl))|(apply Res1.cell;(·rfl);(·exact InH.mem);(·(rfl)))))))); rfl
    ·
      repeat (first|(apply sp_cond_f;(·exact eT rfl);(·exact decide_eq_false hp))|apply then_n|apply block_n|apply sp_seq|apply sp_region|apply spl_nil|((apply sp_cond_t);(·exact eT rfl);(·(exact decide_eq_true (by omega))))|apply sp_skip|apply sp_block|((apply spl_pure rfl);(·(first|(apply ex_loadfield (ad:=ad) (i:=k) (k:=0);(·exact eT rfl);(·exact h);(·exact hA);(·exact hx);(·rfl))|((first|apply ex_move|apply ex_assign|apply ex_fieldAddr'|apply ex_lss|apply ex_seql|apply ex_len)<;>(exact eT rfl))|((apply ex_fieldAddr)<;>(exact eT rfl))|(apply ex_addn<;>(first|exact eT rfl|exact eC|(constructor<;>omega)))|((first|apply ex_loadown|apply ex_indexAddr)<;>(first|exact eT rfl|exact Bk.own InH.mem|rfl|assumption))))))
      exact ⟨k + 1, ⟨by omega, any_miss hno hx (decide_eq_false hp)⟩, by omega, (by (repeat (first|exact ESub.nil|apply ESub.cons rfl))), rfl, (by (repeat (exact HKeep.refl)))⟩
  · have hf : findK ks s = none := find_miss hno (by rw [h.len]; omega)
    rw [hf]
    repeat (first|apply then_n|apply sp_seq|apply sp_region|apply spl_nil|apply then_e|apply block_here|(apply sp_cond_f;(·exact eT rfl);(·(exact decide_eq_false (by omega))))|apply sp_ret|apply sp_exit|((apply spl_pure rfl);(·(first|(apply ex_buildE (r:=KindR.zero.cells);(·(repeat (exact eN)));(·rfl);(·rfl))|((first|apply ex_move|apply ex_assign|apply ex_fieldAddr'|apply ex_lss|apply ex_len)<;>(first|exact eT rfl|exact eC))|((apply ex_loadown)<;>(first|exact eT rfl|exact Bk.own InH.mem|rfl)))))|(apply spl_stores;(·exact eT rfl);(·exact eT rfl);(·(repeat (exact Upd.here)));(·(rfl));(·(rfl));(·exact Ones.one)))
    (apply ret_ok rfl;(·((apply Res.ofTwo<;>(first|(apply Res1.tmp;(·rfl))|(apply Res1.cell;(·rfl);(·exact InH.mem);(·(rfl)))))))); rfl
set_option maxRecDepth 100000 in
set_option maxHeartbeats 4000000 in
theorem refIn_c {w : World} {A : Option Addr} {n c : Nat} {xs : List ByteArray} {s : ByteArray} (h : RdS w w.heap.size 1 strC A n xs) :
    Calls Try.prog 47 #[.slice A n c, .string s] w (Ret w (.bool (inL xs s))) := by
  have hbd : n ≤ 9223372036854775807 := h.bound
  refine sp_enter (vs := [_, _]) Try.func47 rfl Try.ntmps47 rfl ?_
  repeat (first|apply then_n|apply sp_seq|apply sp_region|apply spl_nil|apply sp_block|((apply spl_pure rfl);(·(((apply ex_assign)<;>(exact eC))))))
  refine sp_loop (X := Nat) (fun k => [(5, true, .int .i64 (k : Int)), (1, true, .string s), (0, true, .slice A n c)]) (fun _ => w) (fun _ => []) (fun k => k ≤ n ∧ (xs.take k).any (fun x => decide (x = s)) = false) (fun k => n - k) 0 ⟨Nat.zero_le _, rfl⟩ (by (repeat (first|exact ESub.nil|apply ESub.cons rfl))) rfl (by (repeat (exact HKeep.refl))) ?_
  rintro k ⟨hk, hno⟩
  by_cases hlt : k < n
  · obtain ⟨ad, x, hA, hb, hx, hsz, hc⟩ := h.at_ hlt
    by_cases hp : x = s
    · rw [inL_hit hx hp]
      repeat (first|(apply sp_cond_t;(·exact eT rfl);(·exact decide_eq_true hp))|apply then_n|apply sp_seq|apply sp_region|apply spl_nil|apply then_r|apply block_r|((apply sp_cond_t);(·exact eT rfl);(·(exact decide_eq_true (by omega))))|apply sp_skip|apply sp_ret|apply sp_block|((apply spl_pure rfl);(·(first|(apply ex_loadfield (ad:=ad) (i:=k) (k:=0);(·exact eT rfl);(·exact h);(·exact hA);(·exact hx);(·rfl))|((first|apply ex_move|apply ex_assign|apply ex_lss|apply ex_seql|apply ex_len)<;>(first|exact eT rfl|exact eC))|((apply ex_indexAddr)<;>(first|exact eT rfl|assumption))))))
      (apply ret_ok rfl;(·((apply Res.ofOne;((apply Res1.tmp;(·rfl))))))); rfl
    ·
      repeat (first|(apply sp_cond_f;(·exact eT rfl);(·exact decide_eq_false hp))|apply then_n|apply block_n|apply sp_seq|apply sp_region|apply spl_nil|((apply sp_cond_t);(·exact eT rfl);(·(exact decide_eq_true (by omega))))|apply sp_skip|apply sp_block|((apply spl_pure rfl);(·(first|(apply ex_loadfield (ad:=ad) (i:=k) (k:=0);(·exact eT rfl);(·exact h);(·exact hA);(·exact hx);(·rfl))|((first|apply ex_move|apply ex_assign|apply ex_lss|apply ex_seql|apply ex_len)<;>(exact eT rfl))|(apply ex_addn<;>(first|exact eT rfl|exact eC|(constructor<;>omega)))|((apply ex_indexAddr)<;>(first|exact eT rfl|assumption))))))
      exact ⟨k + 1, ⟨by omega, any_miss hno hx (decide_eq_false hp)⟩, by omega, (by (repeat (first|exact ESub.nil|apply ESub.cons rfl))), rfl, (by (repeat (exact HKeep.refl)))⟩
  · rw [inL_miss hno (by rw [h.len]; omega)]
    repeat (first|apply then_n|apply sp_seq|apply sp_region|apply spl_nil|apply then_e|apply block_here|(apply sp_cond_f;(·exact eT rfl);(·(exact decide_eq_false (by omega))))|apply sp_ret|apply sp_exit|((apply spl_pure rfl);(·(((first|apply ex_move|apply ex_assign|apply ex_lss|apply ex_len)<;>(first|exact eT rfl|exact eC))))))
    (apply ret_ok rfl;(·((apply Res.ofOne;((apply Res1.tmp;(·rfl))))))); rfl
set_option maxRecDepth 100000 in
set_option maxHeartbeats 4000000 in
theorem refslot_c {w : World} {A : Option Addr} {n c : Nat} {bf : List KindR} {s : SlotR} (h : RdS w w.heap.size 3 KindR.cells A n bf) (hs : RdS w w.heap.size 1 strC s.ks.a s.ks.n s.kinds) (hsc : s.ks.n ≤ s.ks.c) (hz : s.name.size < 9223372036854775807) :
    Calls Try.prog 46 #[.agg #[.slice A n c], .agg s.cells] w (Ret w (.bool (slotOk bf s))) := by
  have hbd : s.ks.n ≤ 9223372036854775807 := hs.bound
  have hlen := hs.len
  have hnm := fun w' : World => refName_c (w := w') s.name hz
  obtain ⟨nm, hnm2⟩ : ∃ b, nameL (tx s.name) = b := ⟨_, rfl⟩
  rw [hnm2] at hnm
  refine sp_enter (vs := [_, _]) Try.func46 rfl Try.ntmps46 rfl ?_
  unfold slotOk
  rw [hnm2]
  repeat (first|(apply spl_callp rfl;(·(repeat (first|exact eN|(apply eS;(·exact eT rfl)))));(·exact fun w' hh => hnm w'))|apply then_n|apply sp_seq|apply sp_region|apply spl_nil|((first|apply spl_pure rfl|(apply spl_pure_g rfl;(·exact Gd.tf rfl rfl)));(·(first|((first|apply ex_move|apply ex_assign|apply ex_fieldAddr'|apply ex_not|apply ex_lss|apply ex_gtr|apply ex_len)<;>(first|exact eT rfl|exact eC|exact eG rfl))|((apply ex_orT)<;>(first|exact eT rfl|exact eG rfl))|((apply ex_loadown)<;>(first|exact eT rfl|exact eG rfl|exact Bk.own InH.mem|rfl)))))|(apply spl_box;(·exact eT rfl);(·rfl);intro _ _))
  rename_i g2 hg2 g3 hg3
  refine sp_cond (eT rfl) (fun hp => ?_) (fun hp => ?_)
  · have hF : (nm && (decide (1 ≤ s.normal) && decide (s.normal ≤ (s.ks.n : Int)))) = false := by
      revert hp
      cases nm
      · simp
      · by_cases h1 : s.normal < 1
        · simp [h1]; omega
        · by_cases h2 : (s.ks.n : Int) < s.normal
          · simp [h1, h2]
          · simp [h1, h2]
    rw [hF]
    repeat (first|apply then_n|apply sp_seq|apply sp_region|apply spl_nil|apply then_r|apply sp_ret|((apply spl_pure rfl);(·(((apply ex_assign)<;>(exact eC))))))
    (apply ret_ok rfl;(·((apply Res.ofOne;((apply Res1.tmp;(·rfl))))))); rfl
  · have hT : nm = true ∧ 1 ≤ s.normal ∧ s.normal ≤ (s.ks.n : Int) := by
      revert hp
      cases nm
      · simp
      · by_cases h1 : s.normal < 1
        · simp [h1]
        · by_cases h2 : (s.ks.n : Int) < s.normal
          · simp [h1, h2]
          · simp [h1, h2]; omega
    obtain ⟨rfl, h1, h2⟩ := hT
    clear hp
    rw [decide_eq_true h1, decide_eq_true h2, Bool.true_and, Bool.true_and, Bool.true_and]
    repeat (first|apply then_n|apply sp_seq|apply sp_region|apply spl_nil|apply sp_skip|apply sp_block|((apply spl_pure rfl);(·(((apply ex_assign)<;>(exact eC))))))
    refine sp_loop (X := Nat) (fun m => [(5, true, .int .i64 (m : Int)), (3, true, .pointer (some ⟨g3, 0, none⟩)), (2, true, .pointer (some ⟨g2, 0, none⟩))]) (fun _ => w) (fun _ => [(g3, .cells s.cells 46 (0, 0)), (g2, .cells #[.slice A n c] 24 (0, 0))]) (fun m => m ≤ s.ks.n ∧ kindsOk bf [] s.kinds = kindsOk bf (s.kinds.take m) (s.kinds.drop m)) (fun m => s.ks.n - m) 0 ⟨Nat.zero_le _, rfl⟩ (by (repeat (first|exact ESub.nil|apply ESub.cons rfl))) rfl (by (repeat (exact HKeep.refl))) ?_
    rintro m ⟨hm, hinv⟩
    by_cases hlt : m < s.ks.n
    · obtain ⟨ad, z, hA, hb, hx, hsz, hc⟩ := hs.at_ hlt
      rw [kindsOk_at hx] at hinv
      have hfind := fun (w' : World) (h' : RdS w' w'.heap.size 3 KindR.cells A n bf) => refFind_c (c := c) (s := z) h'
      obtain ⟨F, hF⟩ : ∃ F, findK bf z = F := ⟨_, rfl⟩
      rw [hF] at hfind
      have hin := fun (w' : World) (h' : RdS w' w'.heap.size 1 strC s.ks.a m (s.kinds.take m)) => refIn_c (c := s.ks.c) (s := z) h'
      obtain ⟨I, hI⟩ : ∃ I, inL (s.kinds.take m) z = I := ⟨_, rfl⟩
      rw [hI] at hin
      have hst : RdS w w.heap.size 1 strC s.ks.a m (s.kinds.take m) := hs.take (by omega)
      have hval : ((!F.isSome || (F.getD KindR.zero).vehicle) || I) = !(!inB z (s.kinds.take m) && good bf z) := by
        rw [inB_inL, hI]
        unfold good
        rw [hF]
        cases F <;> simp [Bool.or_comm]
      obtain ⟨G, hG⟩ : ∃ G, (!inB z (s.kinds.take m) && good bf z) = G := ⟨_, rfl⟩
      rw [hG] at hval hinv
      repeat (first|(apply halt_at 29 (.bool (decide ((m : Int) < (s.ks.n : Int))));(·rfl))|apply then_n|apply sp_seq|apply sp_region|apply spl_nil|((apply sp_cond_t);(·exact eT rfl);(·(exact decide_eq_true (by omega))))|apply sp_skip|((apply spl_pure rfl);(·(first|((first|apply ex_move|apply ex_fieldAddr'|apply ex_lss|apply ex_len)<;>(exact eT rfl))|((apply ex_loadown)<;>(first|exact eT rfl|exact Bk.own InH.mem|rfl))))))
      refine Halt.mk ?_
      apply sp_seq
      apply sp_block
      refine spc_cut (X := Nat) (fun g => [(7, true, .bool F.isSome), (6, true, .pointer (some ⟨g, 0, none⟩)), (5, true, .int .i64 (m : Int)), (3, true, .pointer (some ⟨g3, 0, none⟩)), (2, true, .pointer (some ⟨g2, 0, none⟩))])
        (fun g => [(g, .cells (F.getD KindR.zero).cells 34 (0, 0)), (g3, .cells s.cells 46 (0, 0)), (g2, .cells #[.slice A n c] 24 (0, 0))]) (fun g => w.heap.size ≤ g) ?_ ?_
      · refine sp_drawnT (.rd 0 (.rd 1 (.rd 2 (.rd 3 (.rd 4 (.rd 5 (.fk 6 10 (.rd 7 (.rd 8 (.rd 9 (.ef 10 (.ef 11 (.ef 12 .nil)))))) (.ef 6 (.rd 7 (.rd 8 (.rd 9 (.ef 11 (.ef 12 .nil))))))))))))) 12 _ mixed (by kernel_rfl) HKeep.refl ?_
        repeat (((apply wlt_read rfl rfl);(·(first|(apply ex_loadfield (ad:=ad) (i:=m) (k:=0);(·exact eT rfl);(·exact hs);(·exact hA);(·exact hx);(·rfl))|((first|apply ex_move|apply ex_fieldAddr')<;>(exact eT rfl))|((first|apply ex_loadown|apply ex_indexAddr)<;>(first|exact eT rfl|exact Bk.own InH.mem|rfl|assumption))|((apply ex_loadowns)<;>(first|exact eT rfl|exact Bk.own InH.mem|(rfl)))))))
        apply wlt_fork rfl rfl
        ·
          repeat (first|(apply spl_callp rfl;(·(repeat (first|exact eN|(apply eS;(·exact eT rfl)))));(·exact fun w' hh => hfind w' (h.hp' hh)))|((apply wlt_read rfl rfl);(·(first|((apply ex_move)<;>(exact eT rfl))|((apply ex_extract)<;>(first|exact eT rfl|rfl)))))|apply wlt_nil|apply wlt_eff rfl|(apply efft;(·(intro h_;(first|(exact absurd h_ (by decide))|(repeat (first|exact HKeep.refl|(apply HKeep.pick;(·(repeat (first|exact Rem.here|apply Rem.there))))|apply HKeep.drop (by first|assumption|omega)))))))|apply then_n|apply spl_nil|((apply spl_pure rfl);(·(((apply ex_assign)<;>(exact eT rfl)))))|(apply spl_alloc rfl;intro _ _)|(apply spl_stores;(·exact eT rfl);(·exact eT rfl);(·(repeat (exact Upd.here)));(·(rfl));(·(rfl));(·exact Ones.one)))
          rename_i g hg
          exact ⟨g, hg, by (repeat (first|exact ESub.nil|apply ESub.cons rfl)), rfl, by (repeat (exact HKeep.refl))⟩
        ·
          repeat (first|(apply spl_callp rfl;(·(repeat (first|exact eN|(apply eS;(·exact eT rfl)))));(·exact fun w' hh => hfind w' (h.hp' hh)))|((apply wlt_read rfl rfl);(·(first|((apply ex_move)<;>(exact eT rfl))|((apply ex_extract)<;>(first|exact eT rfl|rfl)))))|apply wlt_nil|apply wlt_eff rfl|(apply efft;(·(intro h_;(first|(exact absurd h_ (by decide))|(repeat (first|exact HKeep.refl|(apply HKeep.pick;(·(repeat (first|exact Rem.here|apply Rem.there))))|apply HKeep.drop (by first|assumption|omega)))))))|apply then_n|apply spl_nil|((apply spl_pure rfl);(·(((apply ex_assign)<;>(exact eT rfl)))))|(apply spl_alloc rfl;intro _ _)|(apply spl_stores;(·exact eT rfl);(·exact eT rfl);(·(repeat (exact Upd.here)));(·(rfl));(·(rfl));(·exact Ones.one)))
          rename_i g hg
          exact ⟨g, hg, by (repeat (first|exact ESub.nil|apply ESub.cons rfl)), rfl, by (repeat (exact HKeep.refl))⟩
      intro g6 hg6
      cases G with
      | false =>
        rw [Bool.false_and] at hinv
        rw [hinv]
        repeat (first|(apply spq_callp_g rfl;(·exact Gd.tf rfl rfl);(·(repeat (first|exact eN|(apply eS;(·exact eG rfl)))));(·exact fun _ w' hh => hin w' (hst.hp' hh)))|apply then_n|apply sp_seq|apply sp_region|apply spl_nil|apply then_r|apply block_r|((apply sp_cond_t);(·exact eT rfl);(·(assumption)))|apply sp_ret|((first|apply spl_pure rfl|apply spq_pure rfl|(apply spq_pure_g rfl;(·exact Gd.tf rfl rfl)));(·(first|(apply ex_loadfield (ad:=ad) (i:=m) (k:=0);(·exact eG rfl);(·exact hs);(·exact hA);(·exact hx);(·rfl))|(apply ex_slice_hE (m:=m);(·exact eG rfl);(·exact eG rfl);(·omega))|((first|apply ex_move|apply ex_assign|apply ex_fieldAddr'|apply ex_not)<;>(first|exact eT rfl|exact eC))|((apply ex_orT)<;>(first|exact eT rfl|exact eG rfl))|((first|apply ex_loadown|apply ex_indexAddr)<;>(first|exact eG rfl|exact Bk.own InH.mem|rfl|assumption)))))|apply spq_nil|apply sp_draw mixed (by kernel_rfl))
        (apply ret_ok rfl;(·((apply Res.ofOne;((apply Res1.tmp;(·rfl))))))); rfl
      | true =>
        rw [Bool.true_and] at hinv
        repeat (first|(apply spq_callp_g rfl;(·exact Gd.tf rfl rfl);(·(repeat (first|exact eN|(apply eS;(·exact eG rfl)))));(·exact fun _ w' hh => hin w' (hst.hp' hh)))|apply then_n|apply block_n|apply sp_seq|apply sp_region|apply spl_nil|(apply sp_cond_f;(·exact eT rfl);(·(assumption)))|apply sp_skip|((first|apply spl_pure rfl|apply spq_pure rfl|(apply spq_pure_g rfl;(·exact Gd.tf rfl rfl)));(·(first|(apply ex_loadfield (ad:=ad) (i:=m) (k:=0);(·exact eG rfl);(·exact hs);(·exact hA);(·exact hx);(·rfl))|(apply ex_slice_hE (m:=m);(·exact eG rfl);(·exact eG rfl);(·omega))|((first|apply ex_move|apply ex_assign|apply ex_fieldAddr'|apply ex_not)<;>(exact eT rfl))|((apply ex_orT)<;>(first|exact eT rfl|exact eG rfl))|((apply ex_addn)<;>(first|exact eT rfl|exact eC|(constructor<;>omega)))|((first|apply ex_loadown|apply ex_indexAddr)<;>(first|exact eG rfl|exact Bk.own InH.mem|rfl|assumption)))))|apply spq_nil|apply sp_draw mixed (by kernel_rfl))
        exact ⟨m + 1, ⟨hlt, hinv⟩, by (show s.ks.n - (m + 1) < s.ks.n - m; omega), (by (repeat (first|exact ESub.nil|apply ESub.cons rfl))), rfl, (by (repeat (first|exact HKeep.refl|(apply HKeep.pick;(·(repeat (first|exact Rem.here|apply Rem.there))))|apply HKeep.drop (by first|assumption|omega))))⟩
    · rw [List.drop_eq_nil_of_le (by omega)] at hinv
      rw [hinv]
      repeat (first|apply then_n|apply sp_seq|apply sp_region|apply spl_nil|apply then_e|apply block_here|(apply sp_cond_f;(·exact eT rfl);(·(exact decide_eq_false (by omega))))|apply sp_ret|apply sp_exit|((apply spl_pure rfl);(·(first|((first|apply ex_move|apply ex_assign|apply ex_fieldAddr'|apply ex_lss|apply ex_len)<;>(first|exact eT rfl|exact eC))|((apply ex_loadown)<;>(first|exact eT rfl|exact Bk.own InH.mem|rfl))))))
      (apply ret_ok rfl;(·((apply Res.ofOne;((apply Res1.tmp;(·rfl))))))); rfl
end Go.Proofs.Ytfdjlphfohnnnaa
/-
  Contracts of the reference's parser: fail, is, name, skip.
-/
namespace Go.Proofs.Ytfdjlphfohnnnaa
open Go.RowKit Go.Sy
set_option linter.unusedVariables false
set_option linter.unusedSimpArgs false
abbrev PR := Except PE (List Tk)
/-- What changes in the reference's parser. -/
structure RSt where
  i : Int
  er : Int
  pos : Int
abbrev RB (gp : Nat) (s : Sl) (en : Int) (y : RSt) : Nat × Obj := (gp, .cells #[.slice s.a s.n s.c, .int .i64 y.i, .int .i64 en, .int .i64 y.er, .int .i64 y.pos] 75 (0, 0))
def Stt (L : List Tk) (r : PR) (y : RSt) : Prop := match r with
  | .ok q => (∃ k : Nat, y.i = (k : Int) ∧ k ≤ L.length ∧ q = L.drop k) ∧ y.er = 0
  | .error e => y.er = e.1 ∧ y.pos = e.2 ∧ e.1 ≠ 0
def RSt.inc (y : RSt) : RSt := ⟨IntKind.i64.wrap (y.i + 1), y.er, y.pos⟩
theorem Stt.inc {L : List Tk} {e : PE} {y : RSt} (h : Stt L (.error e) y) : Stt L (.error e) y.inc := h
def isW (x : ByteArray) : List Tk → Bool
  | [] => false
  | t :: _ => decide (t.text = x) && (decide ((t.kind : Int) = 1) || decide ((t.kind : Int) = 4))
def isR (x : ByteArray) : PR → Bool
  | .ok q => isW x q
  | .error _ => false
def nmR : PR → Bool
  | .ok q => headName q
  | .error _ => false
def failR (en e : Int) : PR → PR
  | .ok q => .error (failP q en e)
  | .error e => .error e
def skipR (en : Int) (x : ByteArray) : PR → PR
  | .ok q => if isW x q then .ok q.tail else .error (failP q en 8)
  | .error e => .error e
theorem drop_cons {α : Type} {L : List α} {k : Nat} {t : α} {q : List α} (h : L.drop k = t :: q) : L[k]? = some t ∧ L.drop (k + 1) = q ∧ k < L.length := by
  have hk : k < L.length := by
    rcases Nat.lt_or_ge k L.length with h1 | h1
    · exact h1
    · rw [List.drop_eq_nil_of_le h1] at h; cases h
  rw [← List.getElem_cons_drop hk] at h
  cases h
  exact ⟨List.getElem?_eq_getElem hk, rfl, hk⟩
theorem Stt.step {L : List Tk} {t : Tk} {q : List Tk} {y : RSt} (h : Stt L (.ok (t :: q)) y) (hB : L.length ≤ 1000000) : Stt L (.ok q) y.inc := by
  obtain ⟨⟨k, h1, h2, h3⟩, h4⟩ := h
  obtain ⟨d1, d2, d3⟩ := drop_cons h3.symm
  refine ⟨⟨k + 1, ?_, d3, d2.symm⟩, h4⟩
  show IntKind.i64.wrap (y.i + 1) = _
  rw [h1, wrap64_in (by omega)]
  all_goals rfl
attribute [local irreducible] Calls thenQ blockQ retQ retFQ Spc Spl Spq Ex Ev Evs Gd Upd ESub HKeep Res Res1 wlk effQ wlkT effT wlkP effP Rem SrcAt Split
set_option maxRecDepth 100000 in
set_option maxHeartbeats 8000000 in
theorem refis_c {w : World} {gp : Nat} {s : Sl} {en : Int} {y : RSt} {L : List Tk} {r : PR} {x : ByteArray} (hb : w.heap[gp]? = some (RB gp s en y).2) (hr : RdS w w.heap.size 3 tkC s.a s.n L) (hy : Stt L r y) :
    Calls Try.prog 36 #[.pointer (some ⟨gp, 0, none⟩), .string x] w (Ret w (.bool (isR x r))) := by
  have hbd := hr.bound
  have hlen := hr.len
  rcases y with ⟨yi, ye, yp⟩
  refine sp_enter (vs := [_, _]) Try.func36 rfl Try.ntmps36 rfl ?_
  cases r with
  | error e =>
    obtain ⟨h1, h2, h3⟩ := hy
    dsimp only at h1 h2
    have her : decide (ye = 0) = false := decide_eq_false (by omega)
    repeat (first|apply then_n|apply sp_seq|apply sp_region|apply spl_nil|apply sp_ret|((first|apply spl_pure rfl|apply spq_pure rfl|(apply spq_pure_g rfl;(·(first|exact Gd.tt rfl rfl|exact Gd.gf rfl rfl))));(·(first|(apply ex_off;(·(rw [her];rfl)))|((first|apply ex_move|apply ex_assign|apply ex_fieldAddr'|apply ex_lss|apply ex_seql|apply ex_len|apply ex_andT|apply ex_nilCheck)<;>(first|exact eT rfl|exact eC|exact eG rfl))|((apply ex_eql)<;>(first|exact eT rfl|exact eC))|((apply ex_loadown)<;>(first|exact eT rfl|exact eG rfl|exact Bk.old (by assumption) (Nat.le_refl _)|rfl)))))|apply spq_nil|apply sp_draw mixed (by kernel_rfl))
    (apply ret_ok rfl;(·((apply Res.ofOne;((apply Res1.tmp;(·rfl))))))); rw [her]; rfl
  | ok q =>
    obtain ⟨⟨k, h1, h2, h3⟩, h4⟩ := hy
    dsimp only at h1 h4
    subst h1 h4
    by_cases hk : k < s.n
    · obtain ⟨ad, t, hA, hb1, hx, hsz, hc⟩ := hr.at_ hk
      have hq : q = t :: L.drop (k + 1) := by rw [h3, ← List.getElem_cons_drop (by omega)]; congr 1; rw [List.getElem?_eq_getElem (by omega)] at hx; exact Option.some.inj hx
      subst hq
      have hk2 : decide ((k : Int) < (s.n : Int)) = true := decide_eq_true (by omega)
      repeat (first|apply then_n|apply sp_seq|apply sp_region|apply spl_nil|apply sp_ret|((first|apply spl_pure rfl|apply spq_pure rfl|(apply spq_pure_g rfl;(·(first|exact Gd.tt rfl rfl|exact Gd.gf rfl rfl))));(·(first|(apply ex_loadfield (ad:=ad) (i:=k) (k:=1);(·exact eG rfl);(·exact hr);(·exact hA);(·exact hx);(·rfl))|(apply ex_loadfield (ad:=ad) (i:=k) (k:=0);(·exact eG rfl);(·exact hr);(·exact hA);(·exact hx);(·rfl))|((first|apply ex_move|apply ex_assign|apply ex_fieldAddr'|apply ex_lss|apply ex_seql|apply ex_len|apply ex_andT|apply ex_nilCheck)<;>(first|exact eT rfl|exact eC|exact eG rfl))|((first|apply ex_fieldAddr|apply ex_eql)<;>(first|exact eT rfl|exact eC|exact eG rfl))|((apply ex_or)<;>(exact eG rfl))|((first|apply ex_loadown|apply ex_indexAddr)<;>(first|exact eT rfl|exact eG rfl|exact Bk.old (by assumption) (Nat.le_refl _)|rfl|assumption)))))|apply spq_nil|apply sp_draw mixed (by kernel_rfl))
      (apply ret_ok rfl;(·((apply Res.ofOne;((apply Res1.tmp;(·rfl))))))); rw [hk2]; rfl
    · have hq : q = [] := by rw [h3]; exact List.drop_eq_nil_of_le (by omega)
      subst hq
      have hk2 : decide ((k : Int) < (s.n : Int)) = false := decide_eq_false (by omega)
      repeat (first|apply then_n|apply sp_seq|apply sp_region|apply spl_nil|apply sp_ret|((first|apply spl_pure rfl|apply spq_pure rfl|(apply spq_pure_g rfl;(·(first|exact Gd.tt rfl rfl|exact Gd.gf rfl rfl))));(·(first|(apply ex_off;(·(rw [hk2];rfl)))|((first|apply ex_move|apply ex_assign|apply ex_fieldAddr'|apply ex_lss|apply ex_seql|apply ex_len|apply ex_andT|apply ex_nilCheck)<;>(first|exact eT rfl|exact eC|exact eG rfl))|((apply ex_eql)<;>(first|exact eT rfl|exact eC))|((apply ex_loadown)<;>(first|exact eT rfl|exact Bk.old (by assumption) (Nat.le_refl _)|rfl)))))|apply spq_nil|apply sp_draw mixed (by kernel_rfl))
      (apply ret_ok rfl;(·((apply Res.ofOne;((apply Res1.tmp;(·rfl))))))); rw [hk2]; rfl
set_option maxRecDepth 100000 in
set_option maxHeartbeats 8000000 in
theorem refnm_c {w : World} {gp : Nat} {s : Sl} {en : Int} {y : RSt} {L : List Tk} {r : PR} (hb : w.heap[gp]? = some (RB gp s en y).2) (hr : RdS w w.heap.size 3 tkC s.a s.n L) (hy : Stt L r y) :
    Calls Try.prog 64 #[.pointer (some ⟨gp, 0, none⟩)] w (Ret w (.bool (nmR r))) := by
  have hbd := hr.bound
  have hlen := hr.len
  rcases y with ⟨yi, ye, yp⟩
  refine sp_enter (vs := [_]) Try.func64 rfl Try.ntmps64 rfl ?_
  cases r with
  | error e =>
    obtain ⟨h1, h2, h3⟩ := hy
    dsimp only at h1 h2
    have her : decide (ye = 0) = false := decide_eq_false (by omega)
    repeat (first|apply then_n|apply sp_seq|apply sp_region|apply spl_nil|apply sp_ret|((first|apply spl_pure rfl|apply spq_pure rfl|(apply spq_pure_g rfl;(·exact Gd.tt rfl rfl)));(·(first|(apply ex_off;(·(rw [her];rfl)))|((first|apply ex_move|apply ex_assign|apply ex_fieldAddr'|apply ex_lss|apply ex_seql|apply ex_len|apply ex_andT|apply ex_nilCheck)<;>(first|exact eT rfl|exact eC|exact eG rfl))|((apply ex_eql)<;>(first|exact eT rfl|exact eC))|((apply ex_loadown)<;>(first|exact eT rfl|exact eG rfl|exact Bk.old (by assumption) (Nat.le_refl _)|rfl)))))|apply spq_nil|apply sp_draw mixed (by kernel_rfl))
    (apply ret_ok rfl;(·((apply Res.ofOne;((apply Res1.tmp;(·rfl))))))); rw [her]; rfl
  | ok q =>
    obtain ⟨⟨k, h1, h2, h3⟩, h4⟩ := hy
    dsimp only at h1 h4
    subst h1 h4
    by_cases hk : k < s.n
    · obtain ⟨ad, t, hA, hb1, hx, hsz, hc⟩ := hr.at_ hk
      have hq : q = t :: L.drop (k + 1) := by rw [h3, ← List.getElem_cons_drop (by omega)]; congr 1; rw [List.getElem?_eq_getElem (by omega)] at hx; exact Option.some.inj hx
      subst hq
      have hk2 : decide ((k : Int) < (s.n : Int)) = true := decide_eq_true (by omega)
      repeat (first|apply then_n|apply sp_seq|apply sp_region|apply spl_nil|apply sp_ret|((first|apply spl_pure rfl|apply spq_pure rfl|(apply spq_pure_g rfl;(·exact Gd.tt rfl rfl)));(·(first|(apply ex_loadfield (ad:=ad) (i:=k) (k:=0);(·exact eG rfl);(·exact hr);(·exact hA);(·exact hx);(·rfl))|((first|apply ex_move|apply ex_assign|apply ex_fieldAddr'|apply ex_lss|apply ex_seql|apply ex_len|apply ex_andT|apply ex_nilCheck)<;>(first|exact eT rfl|exact eC|exact eG rfl))|((first|apply ex_fieldAddr|apply ex_eql)<;>(first|exact eT rfl|exact eC|exact eG rfl))|((first|apply ex_loadown|apply ex_indexAddr)<;>(first|exact eT rfl|exact eG rfl|exact Bk.old (by assumption) (Nat.le_refl _)|rfl|assumption)))))|apply spq_nil|apply sp_draw mixed (by kernel_rfl))
      (apply ret_ok rfl;(·((apply Res.ofOne;((apply Res1.tmp;(·rfl))))))); rw [hk2]; rfl
    · have hq : q = [] := by rw [h3]; exact List.drop_eq_nil_of_le (by omega)
      subst hq
      have hk2 : decide ((k : Int) < (s.n : Int)) = false := decide_eq_false (by omega)
      repeat (first|apply then_n|apply sp_seq|apply sp_region|apply spl_nil|apply sp_ret|((first|apply spl_pure rfl|apply spq_pure rfl|(apply spq_pure_g rfl;(·exact Gd.tt rfl rfl)));(·(first|(apply ex_off;(·(rw [hk2];rfl)))|((first|apply ex_move|apply ex_assign|apply ex_fieldAddr'|apply ex_lss|apply ex_seql|apply ex_len|apply ex_andT|apply ex_nilCheck)<;>(first|exact eT rfl|exact eC|exact eG rfl))|((apply ex_eql)<;>(first|exact eT rfl|exact eC))|((apply ex_loadown)<;>(first|exact eT rfl|exact Bk.old (by assumption) (Nat.le_refl _)|rfl)))))|apply spq_nil|apply sp_draw mixed (by kernel_rfl))
      (apply ret_ok rfl;(·((apply Res.ofOne;((apply Res1.tmp;(·rfl))))))); rw [hk2]; rfl
set_option maxRecDepth 100000 in
set_option maxHeartbeats 8000000 in
theorem reffail_c {Be : Nat} {w0 w : World} {gp : Nat} {s : Sl} {en e : Int} {y : RSt} {L : List Tk} {r : PR} {R R0 : Heap} (hT : TokIn R0 s L) (h0 : ∀ p ∈ R0, p ∈ R) (he : e ≠ 0) (hy : Stt L r y) (hh : Hp Be w0 (RB gp s en y :: R) w) :
    Calls Try.prog 37 #[.pointer (some ⟨gp, 0, none⟩), .int .i64 e] w (RetX Be w0 (fun _ : RSt => .tuple #[]) (fun y' => RB gp s en y' :: R) (fun y' => Stt L (failR en e r) y')) := by
  have hr := (hT.app h0).rd w hh.holds
  have hbd := hr.bound
  have hlen := hr.len
  rcases y with ⟨yi, ye, yp⟩
  refine sp_enterM (vs := [_, _]) Try.func37 rfl Try.ntmps37 rfl hh ?_
  cases r with
  | error e1 =>
    have hy' := hy
    obtain ⟨h1, h2, h3⟩ := hy
    dsimp only at h1 h2
    have her : (!decide (ye = 0)) = true := by rw [decide_eq_false (by omega)]; rfl
    repeat (first|(apply sp_cond_t;(·exact eT rfl);(·exact her))|apply then_n|apply sp_seq|apply sp_region|apply spl_nil|apply then_r|apply sp_ret|((apply spl_pure rfl);(·(first|((first|apply ex_move|apply ex_fieldAddr'|apply ex_sneq|apply ex_nilCheck)<;>(exact eT rfl))|((apply ex_neq)<;>(first|exact eT rfl|exact eC))|((apply ex_loadown)<;>(first|exact eT rfl|exact Bk.own InH.mem|rfl))))))
    (apply retX_ok rfl;(·exact Res.none_))
    exact ⟨⟨yi, ye, yp⟩, rfl, hy', by (repeat (exact HKeep.refl))⟩
  | ok q =>
    obtain ⟨⟨k, h1, h2, h3⟩, h4⟩ := hy
    dsimp only at h1 h4
    subst h1 h4
    have hTa : ∀ w', Holds R w' → RdS w' w'.heap.size 3 tkC s.a s.n L := fun w' hw => (hT.app h0).rd w' hw
    by_cases hk : k < s.n
    · obtain ⟨ad, t, hA, hb1, hx, hsz, hc⟩ := hr.at_ hk
      have hq : q = t :: L.drop (k + 1) := by rw [h3, ← List.getElem_cons_drop (by omega)]; congr 1; rw [List.getElem?_eq_getElem (by omega)] at hx; exact Option.some.inj hx
      subst hq
      have hk2 : decide ((k : Int) < (s.n : Int)) = true := decide_eq_true (by omega)
      have hk0 : (!decide ((0 : Int) = 0)) = false := rfl
      repeat (first|(apply sp_cond_t;(·exact eT rfl);(·exact hk2))|(apply sp_cond_f;(·exact eT rfl);(·exact hk0))|(refine sp_drawn (id := 3) [(0, true), (1, true), (2, true), (3, true), (4, true), (5, true), (6, true), (7, true), (8, true), (9, true)] 10 _ mixed ?_ HKeep.refl ?_;(·kernel_rfl))|(refine sp_drawn (id := 4) [(0, true), (1, true), (2, true), (3, true), (4, true), (5, true), (6, true), (7, true), (8, true), (9, true), (10, true), (11, true), (12, true), (13, true), (14, false)] 14 _ mixed ?_ HKeep.refl ?_;(·kernel_rfl))|apply then_n|apply sp_seq|apply sp_region|apply spl_nil|apply sp_skip|((first|apply spl_pure rfl|apply wlk_read rfl rfl);(·(first|(apply ex_loadfieldH (ad:=ad) (i:=k) (k:=2) (y:=t);(·exact eT rfl);(·exact fun w' hh => hTa w' hh.holds);(·exact hA);(·exact hx);(·rfl))|((first|apply ex_move|apply ex_fieldAddr'|apply ex_lss|apply ex_sneq|apply ex_len|apply ex_nilCheck)<;>(exact eT rfl))|((first|apply ex_fieldAddr|apply ex_neq)<;>(first|exact eT rfl|exact eC))|((first|apply ex_loadown|apply ex_indexAddr)<;>(first|exact eT rfl|exact Bk.own InH.mem|rfl|assumption)))))|(apply spl_store1;(·exact eT rfl);(·exact eT rfl);(·rfl);(·(repeat (exact Upd.here)));(·rfl))|(apply effq;(·(intro h_;((exact absurd h_ (by decide))))))|apply wlk_nil|apply wlk_eff rfl)
      (apply endX_ok rfl;(·exact Res.none_))
      exact ⟨⟨k, e, t.pos⟩, rfl, ⟨rfl, rfl, he⟩, by (repeat (exact HKeep.refl))⟩
    · have hq : q = [] := by rw [h3]; exact List.drop_eq_nil_of_le (by omega)
      subst hq
      have hk2 : decide ((k : Int) < (s.n : Int)) = false := decide_eq_false (by omega)
      have hk0 : (!decide ((0 : Int) = 0)) = false := rfl
      repeat (first|(apply sp_cond_f;(·exact eT rfl);(·exact hk2))|(apply sp_cond_f;(·exact eT rfl);(·exact hk0))|(refine sp_drawn (id := 3) [(0, true), (1, true), (2, true), (3, true), (4, true), (5, true), (6, true), (7, true), (8, true), (9, true)] 10 _ mixed ?_ HKeep.refl ?_;(·kernel_rfl))|apply then_n|apply sp_seq|apply sp_region|apply spl_nil|apply sp_skip|((first|apply spl_pure rfl|apply wlk_read rfl rfl);(·(first|((first|apply ex_move|apply ex_fieldAddr'|apply ex_lss|apply ex_sneq|apply ex_len|apply ex_nilCheck)<;>(exact eT rfl))|((apply ex_neq)<;>(first|exact eT rfl|exact eC))|((apply ex_loadown)<;>(first|exact eT rfl|exact Bk.own InH.mem|rfl)))))|(apply spl_store1;(·exact eT rfl);(·(first|exact eT rfl|exact eC));(·rfl);(·(repeat (exact Upd.here)));(·rfl))|apply wlk_nil)
      (apply endX_ok rfl;(·exact Res.none_))
      exact ⟨⟨k, 9, en⟩, rfl, ⟨rfl, rfl, by show (9 : Int) ≠ 0; decide⟩, by (repeat (exact HKeep.refl))⟩
set_option maxRecDepth 100000 in
set_option maxHeartbeats 8000000 in
theorem refskip_c {Be : Nat} {w0 w : World} {gp : Nat} {s : Sl} {en : Int} {x : ByteArray} {y : RSt} {L : List Tk} {r : PR} {R R0 : Heap} (hT : TokIn R0 s L) (h0 : ∀ p ∈ R0, p ∈ R) (hy : Stt L r y) (hB : L.length ≤ 1000000) (hh : Hp Be w0 (RB gp s en y :: R) w) :
    Calls Try.prog 40 #[.pointer (some ⟨gp, 0, none⟩), .string x] w (RetX Be w0 (fun _ : RSt => .tuple #[]) (fun y' => RB gp s en y' :: R) (fun y' => Stt L (skipR en x r) y')) := by
  have his := fun (w' : World) (q : Hp Be w0 (RB gp s en y :: R) w') => refis_c (x := x) (gp := gp) (s := s) (en := en) q.ownI ((hT.app h0).rd w' q.holds) hy
  have hfl := fun (w' : World) (q : Hp Be w0 (RB gp s en y :: R) w') => reffail_c (e := 8) hT h0 (by decide) hy q
  refine sp_enterM (vs := [_, _]) Try.func40 rfl Try.ntmps40 rfl hh ?_
  cases hv : isR x r with
  | true =>
    rw [hv] at his
    cases r with
    | error e => cases hv
    | ok q =>
      have hv' : isW x q = true := hv
      cases q with
      | nil => cases hv'
      | cons t q =>
        repeat (first|(apply spl_callp rfl;(·(repeat (first|exact eN|(apply eS;(·exact eT rfl)))));(·exact fun w' hh => his w' hh))|(apply sp_cond_f;(·exact eT rfl);(·rfl))|apply then_n|apply sp_seq|apply sp_region|apply spl_nil|apply sp_skip|((apply spl_pure rfl);(·(first|(apply ex_add;(·exact eT rfl);(·exact eC))|((first|apply ex_move|apply ex_fieldAddr'|apply ex_not|apply ex_nilCheck)<;>(exact eT rfl))|(apply ex_loadown<;>(first|exact eT rfl|exact Bk.own InH.mem|rfl)))))|(apply spl_store1;(·exact eT rfl);(·exact eT rfl);(·rfl);(·(repeat (exact Upd.here)));(·rfl)))
        (apply endX_ok rfl;(·exact Res.none_))
        refine ⟨y.inc, rfl, ?_, by (repeat (exact HKeep.refl))⟩
        show Stt L (if isW x (t :: q) then .ok q else _) _
        rw [if_pos hv']
        exact hy.step hB
  | false =>
    rw [hv] at his
    have hsk : skipR en x r = failR en 8 r := by
      cases r with
      | error e => rfl
      | ok q =>
        show (if isW x q then _ else _) = _
        rw [if_neg (by have : isW x q = false := hv; rw [this]; simp)]
        all_goals rfl
    obtain ⟨e', he'⟩ : ∃ e', failR en 8 r = .error e' := by cases r <;> exact ⟨_, rfl⟩
    rw [hsk, he']
    rw [he'] at hfl
    repeat (first|(apply spl_callp rfl;(·(repeat (first|exact eN|(apply eS;(·(first|exact eT rfl|exact eC))))));(·exact fun w' hh => his w' hh))|(apply sp_cond_t;(·exact eT rfl);(·rfl))|(apply spl_callM (X:=RSt) (V:=fun _ => .tuple #[]) (A:=[RB gp s en y]) (R:=R) (AA:=fun y' => [RB gp s en y']) (I:=fun y' => Stt L (.error e') y') rfl;(·(repeat (first|exact eN|(apply eS;(·(first|exact eT rfl|exact eC))))));(·exact Split.one);(·exact hfl);(rintro y1 hy1))|apply then_n|apply sp_seq|apply sp_region|apply spl_nil|((apply spl_pure rfl);(·(first|(apply ex_add;(·exact eT rfl);(·exact eC))|((first|apply ex_move|apply ex_fieldAddr'|apply ex_not|apply ex_nilCheck)<;>(exact eT rfl))|(apply ex_loadown<;>(first|exact eT rfl|exact Bk.own InH.mem|rfl)))))|(apply spl_store1;(·exact eT rfl);(·exact eT rfl);(·rfl);(·(repeat (exact Upd.here)));(·rfl)))
    (apply endX_ok rfl;(·exact Res.none_))
    exact ⟨y1.inc, rfl, hy1.inc, by (repeat (exact HKeep.refl))⟩
end Go.Proofs.Ytfdjlphfohnnnaa
/-
  Contracts of the reference's parser: fresh, kinds.
-/
namespace Go.Proofs.Ytfdjlphfohnnnaa
open Go.RowKit Go.Sy
set_option linter.unusedVariables false
set_option linter.unusedSimpArgs false
def Out {α : Type} (L : List Tk) (res : Except PE (α × List Tk)) (a : α) (y : RSt) : Prop := match res with
  | .ok (x, q) => a = x ∧ Stt L (.ok q) y
  | .error e => Stt L (.error e) y
def onR {α : Type} (r : PR) (f : List Tk → Except PE α) : Except PE α := match r with
  | .ok q => f q
  | .error e => .error e
theorem nm_no {chk : ByteArray → Int} {en : Int} {r : PR} (h : nmR r = false) : ∃ e, failR en 8 r = .error e ∧ onR r (nameP chk en) = .error e := by
  cases r with
  | error e => exact ⟨e, rfl, rfl⟩
  | ok q =>
    refine ⟨failP q en 8, rfl, ?_⟩
    cases q with
    | nil => rfl
    | cons t q =>
      have h1 : decide ((t.kind : Int) = 1) = false := h
      rw [decide_eq_false_iff_not] at h1
      show nameP chk en (t :: q) = _
      simp only [nameP]
      rw [if_neg h1]
      all_goals rfl
theorem nm_yes {r : PR} (h : nmR r = true) : ∃ t q, r = .ok (t :: q) ∧ (t.kind : Int) = 1 := by
  cases r with
  | error e => cases h
  | ok q =>
    cases q with
    | nil => cases h
    | cons t q => exact ⟨t, q, rfl, of_decide_eq_true h⟩
theorem name_yes {chk : ByteArray → Int} {en : Int} {t : Tk} {q : List Tk} (h : (t.kind : Int) = 1) : nameP chk en (t :: q) = if chk t.text = 0 then .ok (t.text, q) else .error (chk t.text, (t.pos : Int)) := by
  simp only [nameP]; rw [if_pos h]
theorem Stt.at0 {L : List Tk} {t : Tk} {q : List Tk} {y : RSt} (h : Stt L (.ok (t :: q)) y) : ∃ k : Nat, y.i = (k : Int) ∧ k < L.length ∧ L[k]? = some t := by
  obtain ⟨⟨k, h1, h2, h3⟩, h4⟩ := h
  obtain ⟨d1, d2, d3⟩ := drop_cons h3.symm
  exact ⟨k, h1, d3, d1⟩
/-- Strings of a slice, in memory. -/
structure StrIn (R : Heap) (s : Sl) (l : List ByteArray) : Prop where
  rd : ∀ w, Holds R w → RdS w w.heap.size 1 strC s.a s.n l
  len : l.length = s.n
  cap : s.n ≤ s.c
theorem StrIn.app {R R' : Heap} {s : Sl} {l : List ByteArray} (h : StrIn R s l) (hs : ∀ p ∈ R, p ∈ R') : StrIn R' s l := ⟨fun w hw => h.rd w (hw.sub hs), h.len, h.cap⟩
theorem StrIn.nil : StrIn [] ⟨none, 0, 0⟩ [] := ⟨fun w _ => RdS.none_, rfl, Nat.le_refl _⟩
section
variable {P : Program} {N Be : Nat} {Q : Post} {e : Env} {w0 : World} {H : Heap} {ops : Array Oper} {rest : List Oper} {ty : TypeId} {pos : String} {after : Array Edge} {d : Nat}
theorem spl_append_zero {t tx el size bytes : Nat} {z : Value} {x y : Operand} {g m : Nat} {yv : Value} {news : List Value} {Hr : Heap} [ht : TSlice P t el] [hz : TZero P el z] [hs : TSize P el size] [hby : TBytes P el bytes]
    (hx : Ev true e x (.slice (some ⟨g, 0, none⟩) 0 0)) (hy : Ev true e y yv) (hrem : Rem H g (.cells #[] el (0, 0)) Hr) (hfr : w0.heap.size ≤ g)
    (hn : ∀ w, Hp Be w0 H w → SrcAt P size tx yv m news w) (hnl : news.length = m * size) (hb : m * bytes ≤ 140737488355328) (hpos : Nat.blt 0 bytes = true) (hp2 : Nat.blt 0 size = true) (hzs : Nat.beq z.cells.size size = true) (hN : Nat.blt d N = true)
    (k : ∀ r : RowS, r.ok size m news → r.fresh w0.heap.size → Spl P N Be ops Q rest ((d, true, r.val m) :: e) w0 (r.hp news el ++ Hr)) :
    Spl P N Be ops Q (⟨some d, .call ⟨.builtin .append, #[x, y], #[t, tx]⟩, ty, pos, after, none⟩ :: rest) e w0 H := by
  refine spl_append_own (n := 0) (cap := 0) (xs := []) (tail := []) (news := news) (m := m) hx hy hrem hfr (by simp) (by simp) (Nat.le_refl _) hn hnl (by rw [Nat.zero_add]; exact hb) hpos hp2 hzs hN fun g' cap' tail' h1 h2 h3 => ?_
  rw [Nat.zero_add] at h2 ⊢
  rw [List.nil_append] at h3 ⊢
  exact k ⟨some g', cap', tail'⟩ ⟨h2, h3, hnl⟩ (fun _ hg => by cases hg; exact h1)
end
attribute [local irreducible] Calls thenQ blockQ retQ retFQ Spc Spl Spq Ex Ev Evs Gd Upd ESub HKeep Res Res1 wlk effQ wlkT effT wlkP effP Rem SrcAt Split Stt
set_option maxRecDepth 100000 in
set_option maxHeartbeats 8000000 in
theorem reffresh_c {Be : Nat} {w0 w : World} {gp : Nat} {s : Sl} {en : Int} {y : RSt} {L : List Tk} {r : PR} {R R0 : Heap} {nl : Sl} {names : List ByteArray} {most : Nat} (hT : TokIn R0 s L) (h0 : ∀ p ∈ R0, p ∈ R) (hy : Stt L r y) (hB : L.length ≤ 1000000) (hN : StrIn R nl names) (hh : Hp Be w0 (RB gp s en y :: R) w) :
    Calls Try.prog 38 #[.pointer (some ⟨gp, 0, none⟩), .slice nl.a nl.n nl.c, .int .i64 (most : Int)] w (RetX Be w0 (fun x : ByteArray × RSt => .string x.1) (fun x => RB gp s en x.2 :: R) (fun x => Out L (onR r (nameP (freshC names most) en)) x.1 x.2)) := by
  have hnm := fun (w' : World) (q : Hp Be w0 (RB gp s en y :: R) w') => refnm_c (gp := gp) (s := s) (en := en) q.ownI ((hT.app h0).rd w' q.holds) hy
  have hr := (hT.app h0).rd w hh.holds
  have hlen := hr.len
  have hnlen := hN.len
  refine sp_enterM (vs := [_, _, _]) Try.func38 rfl Try.ntmps38 rfl hh ?_
  cases hv : nmR r with
  | false =>
    rw [hv] at hnm
    obtain ⟨e', he', hon⟩ := nm_no (chk := freshC names most) (en := en) hv
    have hfl := fun (w' : World) (q : Hp Be w0 (RB gp s en y :: R) w') => reffail_c (e := 8) hT h0 (by decide) hy q
    rw [he'] at hfl
    rw [hon]
    repeat (first|(apply spl_callp rfl;(·(repeat (first|exact eN|(apply eS;(·(first|exact eT rfl|exact eC))))));(·exact fun w' hh => hnm w' hh))|(apply sp_cond_t;(·exact eT rfl);(·rfl))|(apply spl_callM (X:=RSt) (V:=fun _ => .tuple #[]) (A:=[RB gp s en y]) (R:=R) (AA:=fun y' => [RB gp s en y']) (I:=fun y' => Stt L (.error e') y') rfl;(·(repeat (first|exact eN|(apply eS;(·(first|exact eT rfl|exact eC))))));(·exact Split.one);(·exact hfl);(rintro y1 hy1))|apply then_n|apply sp_seq|apply sp_region|apply spl_nil|apply then_r|apply sp_ret|((apply spl_pure rfl);(·(((first|apply ex_move|apply ex_assign|apply ex_not)<;>(first|exact eT rfl|exact eC))))))
    (apply retX_ok rfl;(·((apply Res.ofOne;((apply Res1.tmp;(·rfl)))))))
    exact ⟨(⟨#[]⟩, y1), rfl, hy1, by (repeat (exact HKeep.refl))⟩
  | true =>
    rw [hv] at hnm
    obtain ⟨t, q, rfl, hk1⟩ := nm_yes hv
    obtain ⟨k, hi, hkl, hLk⟩ := hy.at0
    have hks : k < s.n := by omega
    obtain ⟨ad, t', hA, hb1, hx, hsz, hc⟩ := hr.at_ hks
    rw [hLk] at hx; cases hx
    have hTa : ∀ w', Holds R w' → RdS w' w'.heap.size 3 tkC s.a s.n L := fun w' hw => (hT.app h0).rd w' hw
    have hin := fun (w' : World) (h' : RdS w' w'.heap.size 1 strC nl.a nl.n names) => refIn_c (c := nl.c) (s := t.text) h'
    obtain ⟨I, hI⟩ : ∃ I, inL names t.text = I := ⟨_, rfl⟩
    rw [hI] at hin
    have hon : onR (.ok (t :: q)) (nameP (freshC names most) en) = if freshC names most t.text = 0 then .ok (t.text, q) else .error (freshC names most t.text, (t.pos : Int)) := name_yes (en := en) hk1
    rw [hon]
    unfold freshC
    rw [hI]
    rcases y with ⟨yi, ye, yp⟩
    dsimp only at hi
    subst hi
    by_cases hm : names.length = most
    · have hm2 : (nl.n : Int) = (most : Int) := by omega
      rw [if_pos hm, if_neg (by decide)]
      have hf7 := fun (w' : World) (q : Hp Be w0 (RB gp s en _ :: R) w') => reffail_c (e := 7) hT h0 (by decide) hy q
      cases hII : I with
      | true =>
        rw [hII] at hin
        repeat (first|(refine sp_drawn [(0, true), (1, true), (2, true), (3, true), (4, true), (5, true), (6, true), (7, true), (8, true), (9, true), (10, true), (11, true)] 12 _ mixed ?_ HKeep.refl ?_;(·kernel_rfl))|(apply spl_callp rfl;(·(repeat (first|exact eN|(apply eS;(·(first|exact eT rfl|exact eC))))));(·exact fun w' hh => hnm w' hh))|(apply sp_cond_f;(·exact eT rfl);(·rfl))|(apply sp_cond_t;(·exact eT rfl);(·exact decide_eq_true hm2))|(apply spl_callM (X:=RSt) (V:=fun _ => .tuple #[]) (A:=[RB gp s en ⟨k, ye, yp⟩]) (R:=R) (AA:=fun y' => [RB gp s en y']) (I:=fun y' => Stt L (.error (7, (t.pos : Int))) y') rfl;(·(repeat (first|exact eN|(apply eS;(·(first|exact eT rfl|exact eC))))));(·exact Split.one);(·exact hf7);(rintro y1 hy1))|(apply spl_callp rfl;(·(repeat (first|exact eN|(apply eS;(·(first|exact eT rfl|exact eC))))));(·exact fun w' hh => hin w' (hN.rd w' hh.holds)))|(apply sp_cond_t;(·exact eT rfl);(·rfl))|(apply spl_callM (X:=RSt) (V:=fun _ => .tuple #[]) (A:=[RB gp s en y1]) (R:=R) (AA:=fun y' => [RB gp s en y']) (I:=fun y' => Stt L (.error (7, (t.pos : Int))) y') rfl;(·(repeat (first|exact eN|(apply eS;(·(first|exact eT rfl|exact eC))))));(·exact Split.one);(·exact fun w' q => reffail_c (e := 3) hT h0 (by decide) hy1 q);(rintro y2 hy2))|apply then_n|apply sp_seq|apply sp_region|apply spl_nil|apply sp_skip|apply sp_ret|((first|apply spl_pure rfl|apply wlk_read rfl rfl);(·(first|(apply ex_loadfieldH (ad:=ad) (i:=k) (k:=1) (y:=t);(·exact eT rfl);(·exact fun w' hh => hTa w' hh.holds);(·exact hA);(·exact hLk);(·rfl))|(apply ex_add;(·exact eT rfl);(·exact eC))|((first|apply ex_move|apply ex_assign|apply ex_fieldAddr'|apply ex_not|apply ex_seql|apply ex_len|apply ex_nilCheck)<;>(first|exact eT rfl|exact eC))|((first|apply ex_fieldAddr|apply ex_eql)<;>(exact eT rfl))|((first|apply ex_loadown|apply ex_indexAddr)<;>(first|exact eT rfl|exact Bk.own InH.mem|rfl|assumption)))))|(apply spl_store1;(·exact eT rfl);(·exact eT rfl);(·rfl);(·(repeat (exact Upd.here)));(·rfl))|apply wlk_nil)
        (apply retX_ok rfl;(·((apply Res.ofOne;((apply Res1.tmp;(·rfl)))))))
        exact ⟨(t.text, y2.inc), rfl, hy2.inc, by (repeat (exact HKeep.refl))⟩
      | false =>
        rw [hII] at hin
        repeat (first|(refine sp_drawn [(0, true), (1, true), (2, true), (3, true), (4, true), (5, true), (6, true), (7, true), (8, true), (9, true), (10, true), (11, true)] 12 _ mixed ?_ HKeep.refl ?_;(·kernel_rfl))|(apply spl_callp rfl;(·(repeat (first|exact eN|(apply eS;(·(first|exact eT rfl|exact eC))))));(·exact fun w' hh => hnm w' hh))|(apply sp_cond_f;(·exact eT rfl);(·rfl))|(apply sp_cond_t;(·exact eT rfl);(·exact decide_eq_true hm2))|(apply spl_callM (X:=RSt) (V:=fun _ => .tuple #[]) (A:=[RB gp s en ⟨k, ye, yp⟩]) (R:=R) (AA:=fun y' => [RB gp s en y']) (I:=fun y' => Stt L (.error (7, (t.pos : Int))) y') rfl;(·(repeat (first|exact eN|(apply eS;(·(first|exact eT rfl|exact eC))))));(·exact Split.one);(·exact hf7);(rintro y1 hy1))|(apply spl_callp rfl;(·(repeat (first|exact eN|(apply eS;(·exact eT rfl)))));(·exact fun w' hh => hin w' (hN.rd w' hh.holds)))|apply then_n|apply sp_seq|apply sp_region|apply spl_nil|apply sp_skip|apply sp_ret|((first|apply spl_pure rfl|apply wlk_read rfl rfl);(·(first|(apply ex_loadfieldH (ad:=ad) (i:=k) (k:=1) (y:=t);(·exact eT rfl);(·exact fun w' hh => hTa w' hh.holds);(·exact hA);(·exact hLk);(·rfl))|(apply ex_add;(·exact eT rfl);(·exact eC))|((first|apply ex_move|apply ex_assign|apply ex_fieldAddr'|apply ex_not|apply ex_seql|apply ex_len|apply ex_nilCheck)<;>(first|exact eT rfl|exact eC))|((first|apply ex_fieldAddr|apply ex_eql)<;>(exact eT rfl))|((first|apply ex_loadown|apply ex_indexAddr)<;>(first|exact eT rfl|exact Bk.own InH.mem|rfl|assumption)))))|(apply spl_store1;(·exact eT rfl);(·exact eT rfl);(·rfl);(·(repeat (exact Upd.here)));(·rfl))|apply wlk_nil)
        (apply retX_ok rfl;(·((apply Res.ofOne;((apply Res1.tmp;(·rfl)))))))
        exact ⟨(t.text, y1.inc), rfl, hy1.inc, by (repeat (exact HKeep.refl))⟩
    · have hm2 : ¬ (nl.n : Int) = (most : Int) := by omega
      rw [if_neg hm]
      cases hII : I with
      | true =>
        rw [hII] at hin
        rw [if_pos rfl, if_neg (by decide)]
        repeat (first|(refine sp_drawn [(0, true), (1, true), (2, true), (3, true), (4, true), (5, true), (6, true), (7, true), (8, true), (9, true), (10, true), (11, true)] 12 _ mixed ?_ HKeep.refl ?_;(·kernel_rfl))|(apply spl_callp rfl;(·(repeat (first|exact eN|(apply eS;(·(first|exact eT rfl|exact eC))))));(·exact fun w' hh => hnm w' hh))|(apply sp_cond_f;(·exact eT rfl);(·exact decide_eq_false hm2))|(apply spl_callp rfl;(·(repeat (first|exact eN|(apply eS;(·(first|exact eT rfl|exact eC))))));(·exact fun w' hh => hin w' (hN.rd w' hh.holds)))|(apply spl_callM (X:=RSt) (V:=fun _ => .tuple #[]) (A:=[RB gp s en ⟨k, ye, yp⟩]) (R:=R) (AA:=fun y' => [RB gp s en y']) (I:=fun y' => Stt L (.error (3, (t.pos : Int))) y') rfl;(·(repeat (first|exact eN|(apply eS;(·(first|exact eT rfl|exact eC))))));(·exact Split.one);(·exact fun w' q => reffail_c (e := 3) hT h0 (by decide) hy q);(rintro y1 hy1))|apply then_n|apply sp_seq|apply sp_region|apply spl_nil|((apply sp_cond_t);(·exact eT rfl);(·(rfl)))|(apply sp_cond_f;(·exact eT rfl);(·(rfl)))|apply sp_skip|apply sp_ret|((first|apply spl_pure rfl|apply wlk_read rfl rfl);(·(first|(apply ex_loadfieldH (ad:=ad) (i:=k) (k:=1) (y:=t);(·exact eT rfl);(·exact fun w' hh => hTa w' hh.holds);(·exact hA);(·exact hLk);(·rfl))|(apply ex_add;(·exact eT rfl);(·exact eC))|((first|apply ex_move|apply ex_assign|apply ex_fieldAddr'|apply ex_not|apply ex_seql|apply ex_len|apply ex_nilCheck)<;>(first|exact eT rfl|exact eC))|((first|apply ex_fieldAddr|apply ex_eql)<;>(exact eT rfl))|((first|apply ex_loadown|apply ex_indexAddr)<;>(first|exact eT rfl|exact Bk.own InH.mem|rfl|assumption)))))|(apply spl_store1;(·exact eT rfl);(·exact eT rfl);(·rfl);(·(repeat (exact Upd.here)));(·rfl))|apply wlk_nil)
        (apply retX_ok rfl;(·((apply Res.ofOne;((apply Res1.tmp;(·rfl)))))))
        exact ⟨(t.text, y1.inc), rfl, hy1.inc, by (repeat (exact HKeep.refl))⟩
      | false =>
        rw [hII] at hin
        rw [if_pos (by decide)]
        repeat (first|(refine sp_drawn [(0, true), (1, true), (2, true), (3, true), (4, true), (5, true), (6, true), (7, true), (8, true), (9, true), (10, true), (11, true)] 12 _ mixed ?_ HKeep.refl ?_;(·kernel_rfl))|(apply spl_callp rfl;(·(repeat (first|exact eN|(apply eS;(·exact eT rfl)))));(·exact fun w' hh => hnm w' hh))|(apply sp_cond_f;(·exact eT rfl);(·exact decide_eq_false hm2))|(apply spl_callp rfl;(·(repeat (first|exact eN|(apply eS;(·exact eT rfl)))));(·exact fun w' hh => hin w' (hN.rd w' hh.holds)))|apply then_n|apply sp_seq|apply sp_region|apply spl_nil|(apply sp_cond_f;(·exact eT rfl);(·(rfl)))|apply sp_skip|apply sp_ret|((first|apply spl_pure rfl|apply wlk_read rfl rfl);(·(first|(apply ex_loadfieldH (ad:=ad) (i:=k) (k:=1) (y:=t);(·exact eT rfl);(·exact fun w' hh => hTa w' hh.holds);(·exact hA);(·exact hLk);(·rfl))|(apply ex_add;(·exact eT rfl);(·exact eC))|((first|apply ex_move|apply ex_assign|apply ex_fieldAddr'|apply ex_not|apply ex_seql|apply ex_len|apply ex_nilCheck)<;>(first|exact eT rfl|exact eC))|((first|apply ex_fieldAddr|apply ex_eql)<;>(exact eT rfl))|((first|apply ex_loadown|apply ex_indexAddr)<;>(first|exact eT rfl|exact Bk.own InH.mem|rfl|assumption)))))|(apply spl_store1;(·exact eT rfl);(·exact eT rfl);(·rfl);(·(repeat (exact Upd.here)));(·rfl))|apply wlk_nil)
        (apply retX_ok rfl;(·((apply Res.ofOne;((apply Res1.tmp;(·rfl)))))))
        exact ⟨(t.text, RSt.inc ⟨k, ye, yp⟩), rfl, ⟨rfl, hy.step hB⟩, by (repeat (exact HKeep.refl))⟩
end Go.Proofs.Ytfdjlphfohnnnaa
/-
  Contracts of the reference's parser: kinds.
-/
namespace Go.Proofs.Ytfdjlphfohnnnaa
open Go.RowKit Go.Sy
set_option linter.unusedVariables false
set_option linter.unusedSimpArgs false
def kcR (en : Int) (K : List PKind) (l : List ByteArray) (t : Tk) (q : List Tk) : PR := if kindC K l t.text = 0 then .ok (t :: q) else .error (kindC K l t.text, (t.pos : Int))
theorem kcR_eq {en : Int} {ks : List KindR} {l : List ByteArray} {t : Tk} {q : List Tk} {F : Option KindR} {I : Bool} (hF : findK ks t.text = F) (hI : inL l t.text = I) :
    (if (F.getD KindR.zero).vehicle = true then failR en 4 (if (!F.isSome) = true then failR en 2 (if I = true then failR en 3 (.ok (t :: q)) else .ok (t :: q)) else (if I = true then failR en 3 (.ok (t :: q)) else .ok (t :: q))) else (if (!F.isSome) = true then failR en 2 (if I = true then failR en 3 (.ok (t :: q)) else .ok (t :: q)) else (if I = true then failR en 3 (.ok (t :: q)) else .ok (t :: q)))) = kcR en (ks.map KindR.pure) l t q := by
  unfold kcR kindC
  rw [find_pure, hF, hI]
  cases I with
  | true =>
    cases F with
    | none => rfl
    | some k => cases hv : k.vehicle <;> simp [hv, failR, failP]
  | false =>
    cases F with
    | none => rfl
    | some k => cases hv : k.vehicle <;> simp [hv, failR, failP, KindR.pure]
def stepR : PR → PR
  | .ok q => .ok q.tail
  | .error e => .error e
theorem kcR_step {L : List Tk} {en : Int} {K : List PKind} {l : List ByteArray} {t : Tk} {q : List Tk} {y : RSt} (h : Stt L (kcR en K l t q) y) (hB : L.length ≤ 1000000) : Stt L (stepR (kcR en K l t q)) y.inc := by
  unfold kcR at *
  split at h
  · rename_i h1; rw [if_pos h1]; exact h.step hB
  · rename_i h1; rw [if_neg h1]; exact h.inc
theorem kc_name {en : Int} {K : List PKind} {l : List ByteArray} {t : Tk} {q : List Tk} (hk : (t.kind : Int) = 1) : onR (.ok (t :: q)) (kindsP K en l) = onR (stepR (kcR en K l t q)) (moreP K en (l ++ [t.text])) ∧ onR (.ok (t :: q)) (moreP K en l) = onR (stepR (kcR en K l t q)) (moreP K en (l ++ [t.text])) := by
  have h1 : kindsP K en l (t :: q) = onR (stepR (kcR en K l t q)) (moreP K en (l ++ [t.text])) := by
    unfold kindsP kcR
    rw [name_yes hk]
    by_cases h0 : kindC K l t.text = 0
    · rw [if_pos h0, if_pos h0]; rfl
    · rw [if_neg h0, if_neg h0]; rfl
  refine ⟨h1, ?_⟩
  show moreP K en l (t :: q) = _
  rw [← h1, moreP_go (show headName (t :: q) = true from decide_eq_true hk)]
  all_goals rfl
theorem kc_no {en : Int} {K : List PKind} {l : List ByteArray} {r : PR} (h : nmR r = false) : (∃ e, failR en 8 r = .error e ∧ onR r (kindsP K en l) = .error e) ∧ onR r (moreP K en l) = (match r with | .ok q => .ok (l, q) | .error e => .error e) := by
  obtain ⟨e, h1, h2⟩ := nm_no (chk := kindC K l) (en := en) h
  refine ⟨⟨e, h1, ?_⟩, ?_⟩
  · cases r with
    | error e' =>
      have h3 : (Except.error e' : Except PE (ByteArray × List Tk)) = .error e := h2
      cases h3; rfl
    | ok q =>
      have h3 : nameP (kindC K l) en q = .error e := h2
      show kindsP K en l q = _
      unfold kindsP
      rw [h3]
  · cases r with
    | error e' => rfl
    | ok q => exact moreP_end h
theorem Hp.holds2 {Be : Nat} {w0 w : World} {H HO R Rk : Heap} (hh : Hp Be w0 H w) [h : InSub H (HO ++ R)] (hRk : ∀ p ∈ Rk, p ∈ R) : Holds (HO ++ Rk) w := fun p hp => hh.own p (h.sub p ((List.mem_append.1 hp).elim (fun q => List.mem_append.2 (.inl q)) fun q => List.mem_append.2 (.inr (hRk p q))))
def meas : PR → Nat
  | .ok q => q.length + 1
  | .error _ => 0
theorem flatS_one {l : List ByteArray} : ∀ u ∈ flatS l, u.oneCell' = true := by
  intro u hu
  unfold flatS at hu
  obtain ⟨x, hx, h⟩ := List.mem_flatMap.1 hu
  simp [strC] at h
  subst h
  rfl
attribute [local irreducible] Calls thenQ blockQ retQ retFQ Spc Spl Spq Ex Ev Evs Gd Upd ESub HKeep Res Res1 wlk effQ wlkT effT wlkP effP Rem SrcAt Split Stt kcR
set_option maxRecDepth 100000 in
set_option maxHeartbeats 8000000 in
theorem refkinds_c {Be : Nat} {w0 w : World} {gp : Nat} {s : Sl} {en : Int} {y : RSt} {L : List Tk} {r : PR} {R R0 Rk : Heap} {k sl : Sl} {ks : List KindR} {l : List ByteArray} {nm : ByteArray} {nr : Int} (hT : TokIn R0 s L) (h0 : ∀ p ∈ R0, p ∈ R) (hy : Stt L r y) (hB : L.length ≤ 1000000) (hC : CatIn R k ks) (hK : StrIn Rk sl l) (hRk : ∀ p ∈ Rk, p ∈ R) (hM : l.length + meas r ≤ 2000000) (hh : Hp Be w0 (RB gp s en y :: R) w) :
    Calls Try.prog 65 #[.pointer (some ⟨gp, 0, none⟩), .agg #[.slice k.a k.n k.c], .agg #[.string nm, .slice sl.a sl.n sl.c, .int .i64 nr]] w (RetX Be w0 (fun x : Heap × Sl × List ByteArray × RSt => .agg #[.string nm, .slice x.2.1.a x.2.1.n x.2.1.c, .int .i64 nr]) (fun x => RB gp s en x.2.2.2 :: (x.1 ++ R))
      (fun x => Out L (onR r (kindsP (ks.map KindR.pure) en l)) x.2.2.1 x.2.2.2 ∧ StrIn (x.1 ++ Rk) x.2.1 x.2.2.1 ∧ FreshH w0.heap.size x.1)) := by
  have hr := (hT.app h0).rd w hh.holds
  have hlen := hr.len
  obtain ⟨RES, hRES⟩ : ∃ v, onR r (kindsP (ks.map KindR.pure) en l) = v := ⟨_, rfl⟩
  rw [hRES]
  refine sp_enterM (vs := [_, _, _]) Try.func65 rfl Try.ntmps65 rfl hh ?_
  repeat (first|apply then_n|apply sp_seq|apply sp_region|apply spl_nil|apply sp_block|((apply spl_pure rfl);(·(((apply ex_assign)<;>(exact eC)))))|(apply spl_box;(·exact eT rfl);(·rfl);intro _ _)|(apply spl_alloc rfl;intro _ _))
  rename_i g4 hg4 g5 hg5 g6 hg6
  refine sp_loop (X := Bool × Heap × Sl × List ByteArray × PR × RSt) (fun x => [(7, true, .bool x.1), (6, true, .pointer (some ⟨g6, 0, none⟩)), (5, true, .pointer (some ⟨g5, 0, none⟩)), (4, true, .pointer (some ⟨g4, 0, none⟩)), (0, true, .pointer (some ⟨gp, 0, none⟩))]) (fun _ => w0)
    (fun x => (g6, .cells SlotR.zero.cells 46 (0, 0)) :: (g5, .cells #[.string nm, .slice x.2.2.1.a x.2.2.1.n x.2.2.1.c, .int .i64 nr] 46 (0, 0)) :: (g4, .cells #[.slice k.a k.n k.c] 24 (0, 0)) :: RB gp s en x.2.2.2.2.2 :: (x.2.1 ++ R))
    (fun x => Stt L x.2.2.2.2.1 x.2.2.2.2.2 ∧ StrIn (x.2.1 ++ Rk) x.2.2.1 x.2.2.2.1 ∧ FreshH w0.heap.size x.2.1 ∧ x.2.2.2.1.length + meas x.2.2.2.2.1 ≤ 2000000 ∧ RES = (if x.1 then onR x.2.2.2.2.1 (kindsP (ks.map KindR.pure) en x.2.2.2.1) else onR x.2.2.2.2.1 (moreP (ks.map KindR.pure) en x.2.2.2.1))) (fun x => meas x.2.2.2.2.1) (true, [], sl, l, r, y) ⟨hy, hK, (fun p hp => by cases hp), hM, hRES.symm⟩ (by (repeat (first|exact ESub.nil|apply ESub.cons rfl))) rfl (by (repeat (exact HKeep.refl))) ?_
  clear hy hK hM hRES hr hh
  rintro ⟨first, HO, sl, l, r, y⟩ ⟨hy, hK, hfO, hM, hRES⟩
  dsimp only at hy hK hfO hM hRES ⊢
  have hfO' : ∀ p ∈ HO, w0.heap.size ≤ p.1 := hfO
  have hTa : ∀ w', Holds R w' → RdS w' w'.heap.size 3 tkC s.a s.n L := fun w' hw => (hT.app h0).rd w' hw
  have hnm := fun (w' : World) (q1 : w'.heap[gp]? = some (RB gp s en y).2) (q2 : Holds R w') => refnm_c q1 (hTa w' q2) hy
  cases hv : nmR r with
  | false =>
    rw [hv] at hnm
    obtain ⟨⟨e', he', hon⟩, hmo⟩ := kc_no (K := ks.map KindR.pure) (l := l) (en := en) hv
    cases first with
    | true =>
      rw [if_pos rfl, hon] at hRES
      rw [hRES]
      repeat (first|(apply sp_cond_t;(·exact eT rfl);(·rfl))|(apply spl_callp_g rfl;(·(first|exact Gd.none|exact Gd.tf rfl rfl));(·(repeat (first|exact eN|(apply eS;(·(first|exact eT rfl|exact eC|exact eG rfl))))));(·exact fun _ w' hh => hnm w' hh.ownI hh.holds))|(apply spl_callM (X:=RSt) (V:=fun _ => .tuple #[]) (A:=[RB gp s en y]) (AA:=fun y' => [RB gp s en y']) (I:=fun y' => Stt L (.error e') y') rfl;(·(repeat (first|exact eN|(apply eS;(·(first|exact eT rfl|exact eC))))));(·(repeat (first|exact Split.one|apply Split.cons)));(·(simp only [List.cons_append, List.nil_append];exact fun w' q => he' ▸ reffail_c (e := 8) hT (fun p hp => InSub.sub p (h0 p hp)) (by decide) hy q));(rintro y1 hy1;simp only [List.cons_append, List.nil_append]))|apply then_n|apply sp_seq|apply sp_region|apply spl_nil|apply then_r|apply block_r|apply sp_skip|apply sp_ret|apply sp_block|((first|apply spl_pure rfl|(apply spl_pure_g rfl;(·exact Gd.tf rfl rfl)));(·(first|((first|apply ex_move|apply ex_not)<;>(exact eT rfl))|((apply ex_orT)<;>(first|exact eT rfl|exact eG rfl))|((apply ex_loadowns)<;>(first|exact eT rfl|exact Bk.own InH.mem|(rfl))))))|(apply spl_stores;(·exact eT rfl);(·exact eT rfl);(·(repeat (first|exact Upd.here|apply Upd.there)));(·(rfl));(·(rfl));(·exact ones_of_all rfl)))
      (apply retX_ok rfl;(·((apply Res.ofOne;((apply Res1.cell;(·rfl);(·exact InH.mem);(·(rfl))))))))
      exact ⟨(HO, sl, l, y1), rfl, ⟨hy1, hK, hfO⟩, by (repeat (first|exact HKeep.refl|apply HKeep.keep|(apply HKeep.app;(·(repeat (first|exact Split.here|apply Split.cons))))|apply HKeep.drop (by first|assumption|omega)))⟩
    | false =>
      rw [if_neg (by decide), hmo] at hRES
      rw [hRES]
      repeat (first|(apply sp_cond_f;(·exact eT rfl);(·rfl))|(apply spl_callp_g rfl;(·exact Gd.tf rfl rfl);(·(repeat (first|exact eN|(apply eS;(·exact eT rfl)))));(·exact fun _ w' hh => hnm w' hh.ownI hh.holds))|apply then_n|apply sp_seq|apply sp_region|apply spl_nil|apply then_e|apply block_here|apply sp_ret|apply sp_exit|((first|apply spl_pure rfl|(apply spl_pure_g rfl;(·exact Gd.tf rfl rfl)));(·(first|((apply ex_move)<;>(exact eT rfl))|((apply ex_orT)<;>(exact eT rfl))|((apply ex_loadowns)<;>(first|exact eT rfl|exact Bk.own InH.mem|(rfl))))))|(apply spl_stores;(·exact eT rfl);(·exact eT rfl);(·(repeat (exact Upd.here)));(·(rfl));(·(rfl));(·exact ones_of_all rfl)))
      (apply retX_ok rfl;(·((apply Res.ofOne;((apply Res1.cell;(·rfl);(·exact InH.mem);(·(rfl))))))))
      refine ⟨(HO, sl, l, y), rfl, ⟨?_, hK, hfO⟩, by (repeat (first|exact HKeep.refl|(apply HKeep.app;(·(repeat (first|exact Split.here|apply Split.cons))))|(apply HKeep.pick;(·(repeat (first|exact Rem.here|apply Rem.there))))|apply HKeep.drop (by first|assumption|omega)))⟩
      cases r with
      | ok q => exact ⟨rfl, hy⟩
      | error e => exact hy
  | true =>
    rw [hv] at hnm
    obtain ⟨t, q, rfl, hk1⟩ := nm_yes hv
    obtain ⟨kx, hi, hkl, hLk⟩ := hy.at0
    obtain ⟨hn1, hn2⟩ := kc_name (en := en) (K := ks.map KindR.pure) (l := l) (q := q) hk1
    have hRES' : RES = onR (stepR (kcR en (ks.map KindR.pure) l t q)) (moreP (ks.map KindR.pure) en (l ++ [t.text])) := by
      rw [hRES]
      cases first
      · rw [if_neg (by decide)]; exact hn2
      · rw [if_pos rfl]; exact hn1
    rcases y with ⟨yi, ye, yp⟩
    dsimp only at hi
    subst hi
    have hfind := fun (w' : World) (h' : RdS w' w'.heap.size 3 KindR.cells k.a k.n ks) => refFind_c (c := k.c) (s := t.text) h'
    obtain ⟨F, hF⟩ : ∃ F, findK ks t.text = F := ⟨_, rfl⟩
    rw [hF] at hfind
    have hin := fun (w' : World) (h' : RdS w' w'.heap.size 1 strC sl.a sl.n l) => refIn_c (c := sl.c) (s := t.text) h'
    obtain ⟨I, hI⟩ : ∃ I, inL l t.text = I := ⟨_, rfl⟩
    rw [hI] at hin
    refine spc_know (X := ∃ ad, s.a = some ad) (fun w' hh => by obtain ⟨ad, _, h1, _⟩ := (hTa w' hh.holds).at_ (show kx < s.n by omega); exact ⟨ad, h1⟩) fun hA => ?_
    obtain ⟨ad, hA⟩ := hA
    have hlsn := hK.len
    have hlcap := hK.cap
    have hlM : l.length ≤ 2000000 := by omega
    have hfl1 : (flatS l).length = sl.n * 1 := by unfold flatS; rw [flat_len (C := strC) (sz := 1) (fun _ _ => rfl), hlsn]
    obtain ⟨l', hl'⟩ : ∃ l', l ++ [t.text] = l' := ⟨_, rfl⟩
    have hl'n : l'.length = sl.n + 1 := by rw [← hl', List.length_append, hlsn]; rfl
    rw [hl'] at hRES'
    have hr3 : ∀ y3, Stt L (kcR en (ks.map KindR.pure) l t q) y3 → Stt L (stepR (kcR en (ks.map KindR.pure) l t q)) y3.inc := fun y3 h => kcR_step h hB
    have hkv := kcR_eq (en := en) (q := q) hF hI
    have hms : meas (stepR (kcR en (ks.map KindR.pure) l t q)) < meas (.ok (t :: q)) := by
      unfold kcR
      split
      · show q.length + 1 < (t :: q).length + 1; simp
      · show 0 < (t :: q).length + 1; omega
    obtain ⟨r3, hr3e⟩ : ∃ r3, kcR en (ks.map KindR.pure) l t q = r3 := ⟨_, rfl⟩
    rw [hr3e] at hr3 hkv hms hRES'
    have hM3 : l'.length + meas (stepR r3) ≤ 2000000 := by omega
    have hfa := fun (e : Int) (he : e ≠ 0) (y1 : RSt) (r1 : PR) (hy1 : Stt L r1 y1) (w' : World) (R' : Heap) (h0' : ∀ p ∈ R0, p ∈ R') (q : Hp Be w0 (RB gp s en y1 :: R') w') => reffail_c (e := e) hT h0' he hy1 q
    repeat (first|(apply halt_at 10 (.bool F.isSome);(·rfl))|(refine sp_drawn [(0, true), (1, true), (2, true), (3, true), (4, true), (5, true), (6, true), (7, true), (8, true), (9, true), (10, true), (11, true)] 12 _ mixed ?_ HKeep.refl ?_;(·kernel_rfl))|(apply sp_cond_t;(·exact eT rfl);(·(simp;done)))|(apply sp_cond_f;(·exact eT rfl);(·rfl))|(apply spl_callp_g rfl;(·(first|exact Gd.none|exact Gd.tf rfl rfl));(·(repeat (first|exact eN|(apply eS;(·(first|exact eT rfl|exact eG rfl))))));(·exact fun _ w' hh => hnm w' hh.ownI hh.holds))|(apply spl_callp rfl;(·(repeat (first|exact eN|(apply eS;(·exact eT rfl)))));(·exact fun w' hh => hfind w' (hC w' hh.holds).1))|apply then_n|apply sp_seq|apply sp_region|apply spl_nil|apply sp_skip|apply sp_block|((first|apply spl_pure rfl|(apply spl_pure_g rfl;(·exact Gd.tf rfl rfl))|apply wlk_read rfl rfl);(·(first|(apply ex_loadfieldH (ad:=ad) (i:=kx) (k:=1) (y:=t);(·exact eT rfl);(·exact fun w' hh => hTa w' hh.holds);(·exact hA);(·exact hLk);(·rfl))|((first|apply ex_move|apply ex_assign|apply ex_fieldAddr'|apply ex_not|apply ex_nilCheck)<;>(exact eT rfl))|((first|apply ex_fieldAddr|apply ex_orT)<;>(first|exact eT rfl|exact eG rfl))|((first|apply ex_loadown|apply ex_extract|apply ex_indexAddr)<;>(first|exact eT rfl|exact Bk.own InH.mem|rfl|assumption|omega))|((apply ex_loadowns)<;>(first|exact eT rfl|exact Bk.own InH.mem|(rfl))))))|(apply spl_alloc rfl;intro _ _)|(apply spl_stores;(·exact eT rfl);(·exact eT rfl);(·(repeat (exact Upd.here)));(·(rfl));(·(rfl));(·exact Ones.one))|apply wlk_nil)
    rename_i g9 hg9
    refine Halt.mk ?_
    obtain ⟨r1, hr1⟩ : ∃ r1, (if I = true then failR en 3 (.ok (t :: q)) else .ok (t :: q)) = r1 := ⟨_, rfl⟩
    rw [hr1] at hkv
    refine spc_cut (X := RSt) (fun y' => [(8, true, .string t.text), (9, true, .pointer (some ⟨g9, 0, none⟩)), (10, true, .bool F.isSome), (7, true, .bool first), (6, true, .pointer (some ⟨g6, 0, none⟩)), (5, true, .pointer (some ⟨g5, 0, none⟩)), (4, true, .pointer (some ⟨g4, 0, none⟩)), (0, true, .pointer (some ⟨gp, 0, none⟩))])
      (fun y' => (g9, .cells (F.getD KindR.zero).cells 34 (0, 0)) :: (g6, .cells SlotR.zero.cells 46 (0, 0)) :: (g5, .cells #[.string nm, .slice sl.a sl.n sl.c, .int .i64 nr] 46 (0, 0)) :: (g4, .cells #[.slice k.a k.n k.c] 24 (0, 0)) :: RB gp s en y' :: (HO ++ R)) (fun y' => Stt L r1 y') ?_ ?_
    · have hin2 := fun (w' : World) (q : Holds (HO ++ Rk) w') => hin w' (hK.rd w' q)
      subst hr1
      cases hII : I with
      | true =>
        rw [hII] at hin2
        repeat (first|(apply spl_callp rfl;(·(repeat (first|exact eN|(apply eS;(·(first|exact eT rfl|exact eC))))));(·exact fun w' hh => hin2 w' (Hp.holds2 hh hRk)))|(apply sp_cond_t;(·exact eT rfl);(·rfl))|(apply spl_callM (X:=RSt) (V:=fun _ => .tuple #[]) (A:=[RB gp s en ⟨kx, ye, yp⟩]) (AA:=fun y' => [RB gp s en y']) (I:=fun y' => Stt L (failR en 3 (.ok (t :: q))) y') rfl;(·(repeat (first|exact eN|(apply eS;(·(first|exact eT rfl|exact eC))))));(·(repeat (first|exact Split.one|apply Split.cons)));(·(simp only [List.cons_append, List.nil_append];exact fun w' q => hfa 3 (by decide) _ _ hy w' _ (fun p hp => InSub.sub p (h0 p hp)) q));(rintro y1 hy1;simp only [List.cons_append, List.nil_append]))|apply then_n|apply sp_seq|apply sp_region|apply spl_nil|((apply spl_pure rfl);(·(first|((first|apply ex_move|apply ex_fieldAddr')<;>(exact eT rfl))|((apply ex_loadown)<;>(first|exact eT rfl|exact Bk.own InH.mem|rfl))))))
        exact ⟨y1, hy1, (by (repeat (first|exact ESub.nil|apply ESub.cons rfl))), rfl, (by (repeat (first|exact HKeep.refl|(apply HKeep.pick;(·(repeat (first|exact Rem.here|apply Rem.there)))))))⟩
      | false =>
        rw [hII] at hin2
        repeat (first|(apply spl_callp rfl;(·(repeat (first|exact eN|(apply eS;(·exact eT rfl)))));(·exact fun w' hh => hin2 w' (Hp.holds2 hh hRk)))|(apply sp_cond_f;(·exact eT rfl);(·rfl))|apply then_n|apply sp_seq|apply sp_region|apply spl_nil|apply sp_skip|((apply spl_pure rfl);(·(first|((first|apply ex_move|apply ex_fieldAddr')<;>(exact eT rfl))|((apply ex_loadown)<;>(first|exact eT rfl|exact Bk.own InH.mem|rfl))))))
        exact ⟨⟨kx, ye, yp⟩, hy, (by (repeat (first|exact ESub.nil|apply ESub.cons rfl))), rfl, (by (repeat (exact HKeep.refl)))⟩
    clear hy hr1
    rintro y1 hy1
    try dsimp only
    obtain ⟨r2, hr2⟩ : ∃ r2, (if (!F.isSome) = true then failR en 2 r1 else r1) = r2 := ⟨_, rfl⟩
    rw [hr2] at hkv
    refine spc_cut (X := RSt) (fun y' => [(8, true, .string t.text), (9, true, .pointer (some ⟨g9, 0, none⟩)), (7, true, .bool first), (6, true, .pointer (some ⟨g6, 0, none⟩)), (5, true, .pointer (some ⟨g5, 0, none⟩)), (4, true, .pointer (some ⟨g4, 0, none⟩)), (0, true, .pointer (some ⟨gp, 0, none⟩))])
      (fun y' => (g9, .cells (F.getD KindR.zero).cells 34 (0, 0)) :: (g6, .cells SlotR.zero.cells 46 (0, 0)) :: (g5, .cells #[.string nm, .slice sl.a sl.n sl.c, .int .i64 nr] 46 (0, 0)) :: (g4, .cells #[.slice k.a k.n k.c] 24 (0, 0)) :: RB gp s en y' :: (HO ++ R)) (fun y' => Stt L r2 y') ?_ ?_
    · subst hr2
      cases hb : F.isSome with
      | true =>
        repeat (first|(apply sp_cond_f;(·exact eT rfl);(·rfl))|apply then_n|apply sp_seq|apply sp_region|apply spl_nil|apply sp_skip|((apply spl_pure rfl);(·(((first|apply ex_move|apply ex_not)<;>(exact eT rfl))))))
        exact ⟨y1, hy1, (by (repeat (first|exact ESub.nil|apply ESub.cons rfl))), rfl, (by (repeat (exact HKeep.refl)))⟩
      | false =>
        repeat (first|(apply sp_cond_t;(·exact eT rfl);(·rfl))|(apply spl_callM (X:=RSt) (V:=fun _ => .tuple #[]) (A:=[RB gp s en y1]) (AA:=fun y' => [RB gp s en y']) (I:=fun y' => Stt L (failR en 2 r1) y') rfl;(·(repeat (first|exact eN|(apply eS;(·(first|exact eT rfl|exact eC))))));(·(repeat (first|exact Split.one|apply Split.cons)));(·(simp only [List.cons_append, List.nil_append];exact fun w' q => hfa 2 (by decide) _ _ hy1 w' _ (fun p hp => InSub.sub p (h0 p hp)) q));(rintro y2 hy2;simp only [List.cons_append, List.nil_append]))|apply then_n|apply sp_seq|apply sp_region|apply spl_nil|((apply spl_pure rfl);(·(((first|apply ex_move|apply ex_not)<;>(exact eT rfl))))))
        exact ⟨y2, hy2, (by (repeat (first|exact ESub.nil|apply ESub.cons rfl))), rfl, (by (repeat (first|exact HKeep.refl|(apply HKeep.pick;(·(repeat (first|exact Rem.here|apply Rem.there)))))))⟩
    clear hy1 hr2
    clear y1
    rintro y2 hy2
    try dsimp only
    refine spc_cut (X := RSt) (fun y' => [(8, true, .string t.text), (7, true, .bool first), (6, true, .pointer (some ⟨g6, 0, none⟩)), (5, true, .pointer (some ⟨g5, 0, none⟩)), (4, true, .pointer (some ⟨g4, 0, none⟩)), (0, true, .pointer (some ⟨gp, 0, none⟩))])
      (fun y' => (g6, .cells SlotR.zero.cells 46 (0, 0)) :: (g5, .cells #[.string nm, .slice sl.a sl.n sl.c, .int .i64 nr] 46 (0, 0)) :: (g4, .cells #[.slice k.a k.n k.c] 24 (0, 0)) :: RB gp s en y' :: (HO ++ R)) (fun y' => Stt L r3 y') ?_ ?_
    · subst hkv
      cases hb : (F.getD KindR.zero).vehicle with
      | true =>
        repeat (first|(apply sp_cond_t;(·exact eT rfl);(·exact hb))|(apply spl_callM (X:=RSt) (V:=fun _ => .tuple #[]) (A:=[RB gp s en y2]) (AA:=fun y' => [RB gp s en y']) (I:=fun y' => Stt L (failR en 4 r2) y') rfl;(·(repeat (first|exact eN|(apply eS;(·(first|exact eT rfl|exact eC))))));(·(repeat (first|exact Split.one|apply Split.cons)));(·(simp only [List.cons_append, List.nil_append];exact fun w' q => hfa 4 (by decide) _ _ hy2 w' _ (fun p hp => InSub.sub p (h0 p hp)) q));(rintro y3 hy3;simp only [List.cons_append, List.nil_append]))|apply then_n|apply sp_seq|apply sp_region|apply spl_nil|((apply spl_pure rfl);(·(first|((first|apply ex_move|apply ex_fieldAddr')<;>(exact eT rfl))|((apply ex_loadown)<;>(first|exact eT rfl|exact Bk.own InH.mem|rfl))))))
        exact ⟨y3, hy3, (by (repeat (first|exact ESub.nil|apply ESub.cons rfl))), rfl, (by (repeat (first|exact HKeep.refl|apply HKeep.keep|(apply HKeep.app;(·(repeat (first|exact Split.here|apply Split.cons))))|(apply HKeep.pick;(·(repeat (first|exact Rem.here|apply Rem.there))))|apply HKeep.drop (by first|assumption|omega))))⟩
      | false =>
        repeat (first|(apply sp_cond_f;(·exact eT rfl);(·exact hb))|apply then_n|apply sp_seq|apply sp_region|apply spl_nil|apply sp_skip|((apply spl_pure rfl);(·(first|((apply ex_fieldAddr')<;>(exact eT rfl))|((apply ex_loadown)<;>(first|exact eT rfl|exact Bk.own InH.mem|rfl))))))
        exact ⟨y2, hy2, (by (repeat (first|exact ESub.nil|apply ESub.cons rfl))), rfl, (by (repeat (first|exact HKeep.refl|(apply HKeep.app;(·(repeat (first|exact Split.here|apply Split.cons))))|(apply HKeep.pick;(·(repeat (first|exact Rem.here|apply Rem.there))))|apply HKeep.drop (by first|assumption|omega))))⟩
    clear hy2
    clear y2
    rintro y3 hy3
    try dsimp only
    repeat (first|apply then_n|apply block_n|apply sp_seq|apply sp_region|apply spl_nil|((apply spl_pure rfl);(·(first|(apply ex_add;(·exact eT rfl);(·exact eC))|((first|apply ex_move|apply ex_assign|apply ex_fieldAddr'|apply ex_nilCheck)<;>(first|exact eT rfl|exact eC))|((apply ex_loadown)<;>(first|exact eT rfl|exact Bk.own InH.mem|rfl)))))|(apply spl_store1;(·exact eT rfl);(·exact eT rfl);(·rfl);(·(repeat (first|exact Upd.here|apply Upd.there|apply Upd.app)));(·rfl))|(apply spl_buildSlice rfl;(·rfl);(·(repeat (first|exact eN|(apply eS;(·exact eT rfl)))));(·rfl);(·rfl);(·rfl);intro _ _)|(refine spl_append_zero (news := flatS l) (m := sl.n) (by (exact eT rfl)) (by (exact eT rfl)) (by (repeat (exact Rem.here))) (by assumption) (fun w' hh => SrcAt.slice (CellsAt.rd (hK.rd w' (Hp.holds2 hh hRk))) hfl1 rfl flatS_one) hfl1 (by omega) rfl rfl rfl rfl ?_;intro ra hra hfra;have hrowa := RowS.drop (xs := flatS l) (T := 9) hfra)|(refine spl_append_row (r := ra) (n := sl.n) (xs := flatS l) (news := (strC t.text).toList) (m := 1) (by (exact eT rfl)) (by (exact eT rfl)) (by (repeat (first|exact Split.here|apply Split.cons))) hra hfra (by omega) (fun w' hh => SrcAt.slice (CellsAt.own hh.ownI (fun j u hj => by rw [List.getElem?_toArray]; exact hj)) rfl rfl (fun v hv => by simp [strC] at hv; subst hv; rfl)) rfl (by omega) rfl rfl rfl rfl ?_;intro r4 hr4 hfr4;have hrow4 := RowS.drop (xs := flatS l ++ (strC t.text).toList) (T := 9) hfr4))
    rw [flatS_snoc, hl'] at hr4 hrow4 ⊢
    refine ⟨(false, r4.hp (flatS l') 9, slR r4 (sl.n + 1), l', stepR r3, y3.inc), ⟨hr3 y3 hy3, ⟨fun w1 hw1 => ?_, hl'n, RowS.le hr4⟩, hrow4, hM3, by exact hRES'⟩, hms, (by (repeat (first|exact ESub.nil|apply ESub.cons rfl))), rfl, (by (repeat (first|exact HKeep.refl|(apply HKeep.app;(·(repeat (exact Split.here))))|(apply HKeep.pick;(·(repeat (first|exact Rem.here|apply Rem.there|apply Rem.app))))|apply HKeep.drop (by first|assumption|omega)|apply HKeep.dropA (by assumption))))⟩
    exact RdS.ofRowW (xs := l') (T := 9) (fun p hp => hw1 p (List.mem_append.2 (.inl hp))) hl'n (by show sl.n + 1 ≤ _; omega) (fun _ _ => rfl) hr4
end Go.Proofs.Ytfdjlphfohnnnaa
/-
  Contracts of the reference's parser: slot.
-/
namespace Go.Proofs.Ytfdjlphfohnnnaa
open Go.RowKit Go.Sy
set_option linter.unusedVariables false
set_option linter.unusedSimpArgs false
def dropR {α : Type} : Except PE (α × List Tk) → PR
  | .ok x => .ok x.2
  | .error e => .error e
theorem Out.st {α : Type} {L : List Tk} {res : Except PE (α × List Tk)} {a : α} {y : RSt} (h : Out L res a y) : Stt L (dropR res) y := by
  cases res with
  | ok x => exact h.2
  | error e => exact h
/-- No name is this symbol. -/
def NoNm (L : List Tk) (x : ByteArray) : Prop := ∀ t ∈ L, (t.kind : Int) = 1 → t.text ≠ x
theorem isW_isTk {q : List Tk} {x : ByteArray} (h : NoNm q x) : isW x q = isTk x 4 q := by
  cases q with
  | nil => rfl
  | cons t q =>
    have h1 := h t (.head _)
    show (decide (t.text = x) && (decide ((t.kind : Int) = 1) || decide ((t.kind : Int) = 4))) = (decide ((t.kind : Int) = ((4 : Nat) : Int)) && (decide (t.text = x) && decide ((t.pos : Int) = (t.pos : Int))))
    by_cases hk : (t.kind : Int) = 1
    · have h2 := h1 hk
      simp [hk, h2]
    · simp [hk, Bool.and_comm]
theorem Stt.sub {L q : List Tk} {y : RSt} (h : Stt L (.ok q) y) : ∀ t ∈ q, t ∈ L := by
  obtain ⟨⟨k, h1, h2, h3⟩, h4⟩ := h
  intro t ht
  rw [h3] at ht
  exact List.mem_of_mem_drop ht
def isKR (x : ByteArray) : PR → Bool
  | .ok q => isTk x 4 q
  | .error _ => false
theorem skip_want {L : List Tk} {r : PR} {y : RSt} {en : Int} {x : ByteArray} (h : Stt L r y) (hN : NoNm L x) : skipR en x r = onR r (fun q => wantP x en q) ∧ isR x r = isKR x r := by
  cases r with
  | error e => exact ⟨rfl, rfl⟩
  | ok q =>
    have h1 := isW_isTk (fun t ht => hN t (h.sub t ht))
    refine ⟨?_, h1⟩
    show (if isW x q then _ else _) = wantP x en q
    unfold wantP
    rw [h1]
def pl (a : ByteArray) (m : Nat) : Except PE (List ByteArray × List Tk) → Except PE (PSlot × List Tk)
  | .error e => .error e
  | .ok (l2, q2) => .ok (⟨a, l2, m⟩, q2)
def slot2 (K : List PKind) (en : Int) (nm : ByteArray) : Except PE (List ByteArray × List Tk) → Except PE (PSlot × List Tk)
  | .error e => .error e
  | .ok (l, q) => if isTk plus 4 q then pl nm l.length (kindsP K en l q.tail) else .ok (⟨nm, l, l.length⟩, q)
theorem slot_chain {K : List PKind} {en : Int} {names : List ByteArray} {r : PR} {a : ByteArray} {n1 : Except PE (ByteArray × List Tk)} (h1 : onR r (nameP (freshC names 12) en) = n1) (ha : ∀ x q, n1 = .ok (x, q) → a = x) :
    onR r (slotP K en names) = slot2 K en a (onR (onR (dropR n1) (fun q => wantP colon en q)) (kindsP K en [])) := by
  subst h1
  cases r with
  | error e => rfl
  | ok q =>
    show slotP K en names q = _
    unfold slotP
    show (match nameP (freshC names 12) en q with | .error e => .error e | .ok (nm, r) => _) = slot2 K en a (onR (onR (dropR (nameP (freshC names 12) en q)) (fun q => wantP colon en q)) (kindsP K en []))
    have ha' : ∀ x q', nameP (freshC names 12) en q = .ok (x, q') → a = x := ha
    cases hn : nameP (freshC names 12) en q with
    | error e => rfl
    | ok x =>
      obtain ⟨nm, q1⟩ := x
      have := ha' _ _ hn
      subst this
      show (match wantP colon en q1 with | .error e => .error e | .ok r => _) = slot2 K en a (onR (onR (.ok q1) (fun q => wantP colon en q)) (kindsP K en []))
      cases hw : wantP colon en q1 with
      | error e => simp only [onR, hw]; rfl
      | ok q2 =>
        simp only [onR, hw]
        cases hk : kindsP K en [] q2 with
        | error e => rfl
        | ok z =>
          obtain ⟨l, q3⟩ := z
          show (if isTk plus 4 q3 then (match kindsP K en l q3.tail with | .error e => .error e | .ok (l2, r) => .ok (⟨a, l2, l.length⟩, r)) else .ok (⟨a, l, l.length⟩, q3)) = (if isTk plus 4 q3 then pl a l.length (kindsP K en l q3.tail) else .ok (⟨a, l, l.length⟩, q3))
          cases kindsP K en l q3.tail <;> rfl
attribute [local irreducible] Calls thenQ blockQ retQ retFQ Spc Spl Spq Ex Ev Evs Gd Upd ESub HKeep Res Res1 wlk effQ wlkT effT wlkP effP Rem SrcAt Split Stt
theorem meas_drop {L : List Tk} {r : PR} {y : RSt} (h : Stt L r y) : meas r ≤ L.length + 1 := by
  cases r with
  | error e => exact Nat.zero_le _
  | ok q =>
    unfold Stt at h
    obtain ⟨⟨k, h1, h2, h3⟩, h4⟩ := h
    show q.length + 1 ≤ _
    rw [h3, List.length_drop]; omega
set_option maxRecDepth 100000 in
set_option maxHeartbeats 8000000 in
theorem refslotP_c {Be : Nat} {w0 w : World} {gp : Nat} {s : Sl} {en : Int} {y : RSt} {L : List Tk} {r : PR} {R R0 : Heap} {k nl : Sl} {ks : List KindR} {names : List ByteArray} (hT : TokIn R0 s L) (h0 : ∀ p ∈ R0, p ∈ R) (hy : Stt L r y) (hB : L.length ≤ 100000) (hC : CatIn R k ks) (hN : StrIn R nl names) (hL1 : NoNm L colon) (hL2 : NoNm L plus) (hh : Hp Be w0 (RB gp s en y :: R) w) :
    Calls Try.prog 39 #[.pointer (some ⟨gp, 0, none⟩), .agg #[.slice k.a k.n k.c], .slice nl.a nl.n nl.c] w (RetX Be w0 (fun x : Heap × SlotR × RSt => .agg x.2.1.cells) (fun x => RB gp s en x.2.2 :: (x.1 ++ R))
      (fun x => Out L (onR r (slotP (ks.map KindR.pure) en names)) x.2.1.pure x.2.2 ∧ StrIn x.1 x.2.1.ks x.2.1.kinds ∧ FreshH w0.heap.size x.1)) := by
  obtain ⟨K, hKe⟩ : ∃ K, ks.map KindR.pure = K := ⟨_, rfl⟩
  obtain ⟨n1, hn1⟩ : ∃ v, onR r (nameP (freshC names 12) en) = v := ⟨_, rfl⟩
  rw [hKe]
  refine sp_enterM (vs := [_, _, _]) Try.func39 rfl Try.ntmps39 rfl hh ?_
  repeat (first|(apply spl_callM (X:=ByteArray × RSt) (V:=fun x => .string x.1) (A:=[RB gp s en y]) (AA:=fun x => [RB gp s en x.2]) (I:=fun x => Out L n1 x.1 x.2) rfl;(·(repeat (first|exact eN|(apply eS;(·(first|exact eT rfl|exact eC))))));(·(repeat (first|exact Split.one|apply Split.cons|apply Split.app)));(·(simp only [List.cons_append, List.nil_append];exact fun w' q => hn1 ▸ reffresh_c (most:=12) hT (fun p hp => InSub.sub p (h0 p hp)) hy (by omega) (hN.app (fun p hp => InSub.sub p hp)) q));(rintro ⟨a, y1⟩ ho1;dsimp only at ho1;simp only [List.cons_append, List.nil_append]))|(apply spl_callM (X:=RSt) (V:=fun _ => .tuple #[]) (A:=[RB gp s en y1]) (AA:=fun y' => [RB gp s en y']) (I:=fun y' => Stt L (skipR en colon (dropR n1)) y') rfl;(·(repeat (first|exact eN|(apply eS;(·(first|exact eT rfl|exact eC))))));(·(repeat (first|exact Split.one|apply Split.cons|apply Split.app)));(·(simp only [List.cons_append, List.nil_append];exact fun w' q => refskip_c (x:=colon) hT (fun p hp => InSub.sub p (h0 p hp)) ho1.st (by omega) q));(rintro y2 hy2;simp only [List.cons_append, List.nil_append]))|(apply spl_callM (X:=Heap × Sl × List ByteArray × RSt) (V:=fun x => .agg #[.string a, .slice x.2.1.a x.2.1.n x.2.1.c, .int .i64 0]) (A:=[RB gp s en y2]) (AA:=fun x => RB gp s en x.2.2.2 :: x.1) (I:=fun x => Out L (onR (skipR en colon (dropR n1)) (kindsP K en [])) x.2.2.1 x.2.2.2 ∧ StrIn (x.1 ++ []) x.2.1 x.2.2.1 ∧ FreshH w0.heap.size x.1) rfl;(·(repeat (first|exact eN|(apply eS;(·(first|exact eT rfl|exact eC))))));(·(repeat (first|exact Split.one|apply Split.cons|apply Split.app)));(·(rw [← hKe];simp only [List.cons_append, List.nil_append];exact fun w' q => refkinds_c (sl:=⟨none, 0, 0⟩) (l:=[]) (Rk:=[]) hT (fun p hp => InSub.sub p (h0 p hp)) hy2 (by omega) (hC.up (fun p hp => InSub.sub p hp)) StrIn.nil (fun p hp => by cases hp) (by have := meas_drop hy2; simp only [List.length_nil]; omega) q));(rintro ⟨HO1, sl1, l1, y3⟩ ⟨ho3, hk3, hf3⟩;dsimp only at ho3 hk3 hf3;rw [List.append_nil] at hk3;have hf3' : ∀ p ∈ HO1, w0.heap.size ≤ p.1 := hf3;simp only [List.cons_append, List.nil_append]))|(apply spl_callp rfl;(·(repeat (first|exact eN|(apply eS;(·(first|exact eT rfl|exact eC))))));(·exact fun w' hh => refis_c (x:=plus) hh.ownI ((hT.app h0).rd w' hh.holds) ho3.st))|apply then_n|apply sp_seq|apply sp_region|apply spl_nil|((apply spl_pure rfl);(·(first|((first|apply ex_move|apply ex_fieldAddr'|apply ex_len)<;>(exact eT rfl))|(apply ex_loadown<;>(first|exact eT rfl|exact Bk.own InH.mem|rfl))|(apply ex_loadowns<;>(first|exact eT rfl|exact Bk.own InH.mem|(rfl))))))|(apply spl_box;(·exact eT rfl);(·rfl);intro _ _)|(apply spl_alloc rfl;intro _ _)|(apply spl_store1;(·exact eT rfl);(·exact eT rfl);(·rfl);(·(repeat (first|exact Upd.here|apply Upd.there|apply Upd.app)));(·rfl))|(apply spl_stores;(·exact eT rfl);(·exact eT rfl);(·(repeat (first|exact Upd.here|apply Upd.there|apply Upd.app)));(·(rfl));(·(rfl));(·exact ones_of_all rfl)))
  rename_i g4 hg4 g6 hg6 g7 hg7
  have hst3 := ho3.st
  have hsk := skip_want (en := en) ho1.st hL1
  have hch := slot_chain (K := K) hn1 (a := a) (fun x q h => by rw [h] at ho1; exact ho1.1)
  rw [← hsk.1] at hch
  obtain ⟨n3, hn3⟩ : ∃ v, onR (skipR en colon (dropR n1)) (kindsP K en []) = v := ⟨_, rfl⟩
  rw [hn3] at ho3 hst3 hch ⊢
  rw [hch]
  have hpl := (skip_want (en := en) hst3 hL2).2
  refine sp_cond (eT rfl) (fun hp => ?_) (fun hp => ?_)
  · cases n3 with
    | error e => cases hp
    | ok z =>
      obtain ⟨l, q⟩ := z
      have hpt : isTk plus 4 q = true := by rw [← hp]; exact hpl.symm
      cases q with
      | nil => cases hpt
      | cons t q =>
        obtain ⟨rfl, hs3⟩ := ho3
        have hs4 := hs3.step (by omega)
        obtain ⟨n4, hn4⟩ : ∃ v, kindsP K en l1 q = v := ⟨_, rfl⟩
        have hs2 : slot2 K en a (.ok (l1, t :: q)) = pl a l1.length n4 := by
          simp only [slot2, hpt, if_true, List.tail_cons, hn4]
        rw [hs2]
        have hl1 := hk3.len
        rcases y3 with ⟨yi, ye, yp⟩
        have hl1b : l1.length ≤ 200000 := by
          cases hr2 : skipR en colon (dropR n1) with
          | error e => rw [hr2] at hn3; cases hn3
          | ok q2 =>
            rw [hr2] at hn3 hy2
            have h1 := kindsP_cnt (show kindsP K en [] q2 = .ok (l1, t :: q) from hn3)
            have h2 := meas_drop hy2
            simp only [meas, List.length_nil] at h1 h2
            omega
        repeat (first|(apply spl_callM (X:=Heap × Sl × List ByteArray × RSt) (V:=fun x => .agg #[.string a, .slice x.2.1.a x.2.1.n x.2.1.c, .int .i64 (sl1.n : Int)]) (A:=[RB gp s en (RSt.inc ⟨yi, ye, yp⟩)]) (AA:=fun x => RB gp s en x.2.2.2 :: x.1) (I:=fun x => Out L n4 x.2.2.1 x.2.2.2 ∧ StrIn (x.1 ++ HO1) x.2.1 x.2.2.1 ∧ FreshH w0.heap.size x.1) rfl;(·(repeat (first|exact eN|(apply eS;(·exact eT rfl)))));(·(repeat (exact Split.one)));(·(rw [← hn4, ← hKe];simp only [List.cons_append, List.nil_append];exact fun w' q => refkinds_c (sl:=sl1) (l:=l1) (Rk:=HO1) (r:=.ok _) hT (fun p hp => InSub.sub p (h0 p hp)) hs4 (by omega) (hC.up (fun p hp => InSub.sub p hp)) hk3 (fun p hp => InSub.sub p hp) (by have := meas_drop hs4; omega) q));(rintro ⟨HO2, sl2, l2, y4⟩ ⟨ho4, hk4, hf4⟩;dsimp only at ho4 hk4 hf4;have hf4' : ∀ p ∈ HO2, w0.heap.size ≤ p.1 := hf4;simp only [List.cons_append, List.nil_append]))|apply then_n|apply sp_seq|apply sp_region|apply spl_nil|apply sp_ret|((apply spl_pure rfl);(·(first|(apply ex_add;(·exact eT rfl);(·exact eC))|((first|apply ex_move|apply ex_fieldAddr'|apply ex_nilCheck)<;>(exact eT rfl))|(apply ex_loadown<;>(first|exact eT rfl|exact Bk.own InH.mem|rfl))|(apply ex_loadowns<;>(first|exact eT rfl|exact Bk.own InH.mem|(rfl))))))|(apply spl_store1;(·exact eT rfl);(·exact eT rfl);(·rfl);(·(repeat (exact Upd.here)));(·rfl))|(apply spl_stores;(·exact eT rfl);(·exact eT rfl);(·(repeat (first|exact Upd.here|apply Upd.there|apply Upd.app)));(·(rfl));(·(rfl));(·exact ones_of_all rfl)))
        (apply retX_ok rfl;(·((apply Res.ofOne;((apply Res1.cell;(·rfl);(·exact InH.mem);(·(rfl))))))))
        refine ⟨(HO2 ++ HO1, ⟨a, sl2, sl1.n, l2⟩, y4), rfl, ⟨?_, hk4, hf4.app hf3⟩, by simp only [List.append_assoc]; (repeat (first|exact HKeep.refl|apply HKeep.keep|(apply HKeep.app;(·(repeat (exact Split.here))))|apply HKeep.drop (by first|assumption|omega)))⟩
        cases n4 with
        | error e => exact ho4
        | ok z =>
          obtain ⟨l5, q5⟩ := z
          obtain ⟨e1, e2⟩ := ho4
          refine ⟨?_, e2⟩
          show (⟨a, l2, (sl1.n : Int).toNat⟩ : PSlot) = ⟨a, l5, l1.length⟩
          rw [show l2 = l5 from e1, hl1, Int.toNat_natCast]
  · have hs2 : Out L (slot2 K en a n3) (⟨a, l1, l1.length⟩ : PSlot) y3 := by
      cases n3 with
      | error e => exact ho3
      | ok z =>
        obtain ⟨l, q⟩ := z
        have hpt : isTk plus 4 q = false := by rw [← hp]; exact hpl.symm
        obtain ⟨rfl, hs3⟩ := ho3
        show Out L (if isTk plus 4 q then _ else _) _ _
        rw [hpt]
        exact ⟨rfl, hs3⟩
    have hl1 := hk3.len
    repeat (first|apply then_n|apply sp_seq|apply sp_region|apply spl_nil|apply sp_skip|apply sp_ret|((apply spl_pure rfl);(·((apply ex_loadowns<;>(first|exact eT rfl|exact Bk.own InH.mem|(rfl))))))|(apply spl_stores;(·exact eT rfl);(·exact eT rfl);(·(repeat (first|exact Upd.here|apply Upd.there|apply Upd.app)));(·(rfl));(·(rfl));(·exact ones_of_all rfl)))
    (apply retX_ok rfl;(·((apply Res.ofOne;((apply Res1.cell;(·rfl);(·exact InH.mem);(·(rfl))))))))
    refine ⟨(HO1, ⟨a, sl1, sl1.n, l1⟩, y3), rfl, ⟨?_, hk3, hf3⟩, by (repeat (first|exact HKeep.refl|apply HKeep.keep|(apply HKeep.app;(·(repeat (exact Split.here))))|apply HKeep.drop (by first|assumption|omega)))⟩
    have : SlotR.pure ⟨a, sl1, sl1.n, l1⟩ = ⟨a, l1, l1.length⟩ := by
      show (⟨a, l1, (sl1.n : Int).toNat⟩ : PSlot) = _
      rw [hl1, Int.toNat_natCast]
    rw [this]
    exact hs2
end Go.Proofs.Ytfdjlphfohnnnaa
/-
  Rules for reading the tokens that Lex hands back, and for comparing them.
-/
namespace Go.Proofs.Ytfdjlphfohnnnaa
open Go.RowKit Go.Sy
set_option linter.unusedVariables false
set_option linter.unusedSimpArgs false
theorem mem_hp {p : Nat × Obj} {A R : Heap} (h : p ∈ A) : p ∈ A ++ R := List.mem_append_left _ h
section
variable {Be : Nat} {w0 : World} {H : Heap} {G : Bool} {e : Env} {ty t' : TypeId} {x y : Operand} {s t : Tk}
theorem ex_tkneq (h1 : Ev G e x (.agg (tkC s))) (h2 : Ev G e y (.agg (tkC t))) : Ex Try.prog Be w0 H G e (.binOp .neq 53 x y t') ty (.bool (!tkEq s t)) := by
  intro N a w o ho _ hf hh hG
  have hm : Try.prog.eqGuardType Try.prog.depth 53 = false := by kernel_rfl
  simp only [execOp, ho, h1 N a hf hG, h2 N a hf hG, Sem.run_bind, run_eqGuard_agg w _ _ _ _ _ _ hm, Result.andThen_ok, run_neq_struct, tkEq_run s t w, Sem.run_pure]
theorem ex_tkneF (h1 : Ev G e x (.agg (tkC s))) (h2 : Ev G e y (.agg (tkC t))) (h : s = t) : Ex Try.prog Be w0 H G e (.binOp .neq 53 x y t') ty (.bool false) := by
  have := ex_tkneq (Be := Be) (w0 := w0) (H := H) (ty := ty) (t' := t') h1 h2
  rwa [h, tkEq_refl] at this
theorem ex_tkeqB {b : Bool} (h : tkEq s t = b) (h1 : Ev G e x (.agg (tkC s))) (h2 : Ev G e y (.agg (tkC t))) : Ex Try.prog Be w0 H G e (.binOp .eql 53 x y t') ty (.bool b) := by
  have := ex_tkeql (Be := Be) (w0 := w0) (H := H) (ty := ty) (t' := t') h1 h2
  rwa [h] at this
/-- A token of a row. -/
theorem ex_tkload {t : TypeId} {i : Nat} {l : List Tk} {g cap : Nat} {tl : List Value} (h : Ev G e x (.pointer (some ((⟨g, 0, none⟩ : Addr).add (i * 3))))) (hx : (RowS.mk (some g) cap tl).ok 3 l.length (flatT l)) (hn : l.length ≤ 9223372036854775807)
    (hs : (g, Obj.cells (flatT l ++ tl).toArray 53 (0, 0)) ∈ H) {y : Tk} (hy : l[i]? = some y) [TAgg Try.prog t] [hz : TSize Try.prog t 3] : Ex Try.prog Be w0 H G e (.load t x) ty (.agg (tkC y)) :=
  ex_loadelemH (ad := ⟨g, 0, none⟩) h (fun w hh => row_rd (x := ⟨some g, cap, tl⟩) hx hn (fun p hp => by cases hp with | head => exact hs | tail _ h => cases h) w hh) rfl rfl hy
end
section
variable {P : Program} {Be : Nat} {w0 : World} {H : Heap} {G : Bool} {e : Env} {ty t t' : TypeId} {x y z : Operand} {k : IntKind} {m n : Int}
/-! Tests whose answer is known. -/
theorem ex_eqlF (h : m ≠ n) (h1 : Ev G e x (.int k m)) (h2 : Ev G e y (.int k n)) : Ex P Be w0 H G e (.binOp .eql t x y t') ty (.bool false) := by
  have := ex_eql (P := P) (Be := Be) (w0 := w0) (H := H) (ty := ty) (t := t) (t' := t') h1 h2
  rwa [decide_eq_false h] at this
theorem ex_eqlT (h : m = n) (h1 : Ev G e x (.int k m)) (h2 : Ev G e y (.int k n)) : Ex P Be w0 H G e (.binOp .eql t x y t') ty (.bool true) := by
  have := ex_eql (P := P) (Be := Be) (w0 := w0) (H := H) (ty := ty) (t := t) (t' := t') h1 h2
  rwa [decide_eq_true h] at this
theorem ex_neqT (h : m ≠ n) (h1 : Ev G e x (.int k m)) (h2 : Ev G e y (.int k n)) : Ex P Be w0 H G e (.binOp .neq t x y t') ty (.bool true) := by
  have := ex_neq (P := P) (Be := Be) (w0 := w0) (H := H) (ty := ty) (t := t) (t' := t') h1 h2
  rwa [decide_eq_false h] at this
theorem ex_neqF (h : m = n) (h1 : Ev G e x (.int k m)) (h2 : Ev G e y (.int k n)) : Ex P Be w0 H G e (.binOp .neq t x y t') ty (.bool false) := by
  have := ex_neq (P := P) (Be := Be) (w0 := w0) (H := H) (ty := ty) (t := t) (t' := t') h1 h2
  rwa [decide_eq_true h] at this
theorem ex_geqT (h : m ≥ n) (h1 : Ev G e x (.int k m)) (h2 : Ev G e y (.int k n)) : Ex P Be w0 H G e (.binOp .geq t x y t') ty (.bool true) := by
  have := ex_geq (P := P) (Be := Be) (w0 := w0) (H := H) (ty := ty) (t := t) (t' := t') h1 h2
  rwa [decide_eq_true (show n ≤ m from h)] at this
theorem ex_remE {m n q : Nat} (hq : m % n = q) (hn : n ≠ 0) (h1 : Ev G e x (.int k (m : Int))) (h2 : Ev G e y (.int k (n : Int))) : Ex P Be w0 H G e (.binOp .rem t x y t') ty (.int k (q : Int)) := by
  have := ex_rem (P := P) (Be := Be) (w0 := w0) (H := H) (ty := ty) (t := t) (t' := t') h1 h2 (by omega)
  rwa [show (m : Int).tmod (n : Int) = (q : Int) from by rw [← hq]; rfl] at this
theorem ex_ssliceE {s r : ByteArray} {k k2 : IntKind} {l h : Int} (hr : s.extract l.toNat h.toNat = r) (hb : 0 ≤ l ∧ l ≤ h ∧ h ≤ s.size) (h1 : Ev G e x (.string s)) (h2 : Ev G e y (.int k l)) (h3 : Ev G e z (.int k2 h)) [ht : TStr P t] : Ex P Be w0 H G e (.slice t x (some y) (some z) none) ty (.string r) := by
  have := ex_sslice (P := P) (Be := Be) (w0 := w0) (H := H) (ty := ty) (t := t) h1 h2 h3 hb
  rwa [hr] at this
end
theorem rd_drop {α : Type} {w : World} {Be sz n c l : Nat} {C : α → Array Value} {A : Option Addr} {xs : List α} (h : RdS w Be sz C A n xs) (hl : l ≤ n) (hc : n ≤ c) : RdS w Be sz C (if c = l then A else A.map (·.add (l * sz))) (n - l) (xs.drop l) :=
  ⟨by rw [List.length_drop, h.len], by have := h.bound; omega, fun i x hx => by
    rw [List.getElem?_drop] at hx
    have hi := (List.getElem?_eq_some_iff.1 hx).1
    rw [h.len] at hi
    obtain ⟨ad, e, hb, hs, hcc⟩ := h.elems _ x hx
    subst e
    refine ⟨ad.add (l * sz), by rw [if_neg (by omega)]; rfl, by rw [block_add]; exact hb, hs, fun j v hj => ?_⟩
    rw [show (ad.add (l * sz)).add (i * sz) = ad.add ((l + i) * sz) by rw [add_add', Nat.add_mul]]
    exact hcc j v hj⟩
theorem ex_slice_l {P : Program} {Be : Nat} {w0 : World} {H : Heap} {G : Bool} {e : Env} {ty t el : TypeId} {x y : Operand} {A : Option Addr} {n c sz l : Nat} {k : IntKind} (hb : l ≤ n) (h1 : Ev G e x (.slice A n c)) (h2 : Ev G e y (.int k (l : Int))) [ht : TSlice P t el] [hs : TSize P el sz] :
    Ex P Be w0 H G e (.slice t x (some y) none none) ty (.slice (if c = l then A else A.map (·.add (l * sz))) (n - l) (c - l)) := by
  intro N a w o ho _ hf hh hG
  have he : P.elem t = el := by simp [Program.elem, ht.slice]
  simp only [execOp, ho, h1 N a hf hG, Option.map_none, Option.map_some, h2 N a hf hG, Instr.sliceAt, Sem.run_bind, run_underlying ht.slice, Result.andThen_ok]
  rw [run_slice_l w t _ n c (by rw [he]; exact ht.slice) k l (by omega) (by omega), he, hs.run w]
  simp [sliced]
/-- What Lex hands back, read. -/
theorem row_rdB {w w' : World} {x : RowS} {l : List Tk} (hok : x.ok 3 l.length (flatT l)) (hn : l.length ≤ 9223372036854775807) {Be : Nat} {H : Heap} (hs : ∀ p ∈ x.hp (flatT l) 53, p ∈ H) (hh : Hp Be w H w') : RdS w' w'.heap.size 3 tkC (x.g.map fun g => ⟨g, 0, none⟩) l.length l := row_rd hok hn hs w' hh
theorem row_cap {x : RowS} {l : List Tk} (hok : x.ok 3 l.length (flatT l)) : l.length ≤ x.cap := by
  rcases x with ⟨_ | g, cap, tl⟩
  · obtain ⟨h, -, -⟩ := hok; omega
  · exact hok.1
theorem ex_lss_dead {P : Program} {Be : Nat} {w0 : World} {H : Heap} {G : Bool} {e : Env} {ty t t' : TypeId} {x y : Operand} (h : G = false) : Ex P Be w0 H G e (.binOp .lss t x y t') ty (.bool false) := fun _ _ _ _ _ _ _ _ hG => by rw [h] at hG; cases hG
theorem ex_gtrT {P : Program} {Be : Nat} {w0 : World} {H : Heap} {G : Bool} {e : Env} {ty t t' : TypeId} {x y : Operand} {k : IntKind} {m n : Int} (h : n < m) (h1 : Ev G e x (.int k m)) (h2 : Ev G e y (.int k n)) : Ex P Be w0 H G e (.binOp .gtr t x y t') ty (.bool true) := by
  have := ex_gtr (P := P) (Be := Be) (w0 := w0) (H := H) (ty := ty) (t := t) (t' := t') h1 h2
  rwa [decide_eq_true h] at this
end Go.Proofs.Ytfdjlphfohnnnaa
/-
  Contracts: the reference's strings and tokens.
-/
namespace Go.Proofs.Ytfdjlphfohnnnaa
open Go.RowKit Go.Sy
set_option linter.unusedVariables false
set_option linter.unusedSimpArgs false
def esc3 : ByteArray := ⟨#[92, 34, 110]⟩
theorem esc3_has (d : UInt8) : hasB esc3 d = (escOf d).isSome := by
  simp only [hasB, esc3, List.any_cons, List.any_nil, Bool.or_false]
  unfold escOf
  by_cases h1 : d.toNat = 92
  · rw [if_pos h1]; simp [h1]
  · rw [if_neg h1]
    by_cases h2 : d.toNat = 34
    · rw [if_pos h2]; simp [h2]
    · rw [if_neg h2]
      by_cases h3 : d.toNat = 110
      · rw [if_pos h3]; simp [h3]
      · rw [if_neg h3]
        have e1 : ¬ (92 : Int) = (d.toNat : Int) := by omega
        have e2 : ¬ (34 : Int) = (d.toNat : Int) := by omega
        have e3 : ¬ (110 : Int) = (d.toNat : Int) := by omega
        simp [e1, e2, e3]
def strR (t : ByteArray) (a : Nat) : ByteArray × Nat × Bool := match unqL ((tx t).drop (a + 1)) with | some p => (ofL p.1, a + 1 + p.2, true) | none => (⟨#[]⟩, 0, false)
def SInv (t : ByteArray) (a : Nat) (out : ByteArray) (i : Nat) : Prop := a + 1 ≤ i ∧ i ≤ t.size ∧ out.size ≤ i ∧ unqL ((tx t).drop (a + 1)) = (unqL ((tx t).drop i)).map fun p => (tx out ++ p.1, i - (a + 1) + p.2)
theorem SInv.none_ {t : ByteArray} {a i : Nat} {out : ByteArray} (h : SInv t a out i) (hn : unqL ((tx t).drop i) = none) : strR t a = (⟨#[]⟩, 0, false) := by
  obtain ⟨-, -, -, h⟩ := h
  unfold strR
  rw [h, hn]; rfl
theorem SInv.hit {t : ByteArray} {a i : Nat} {out : ByteArray} (h : SInv t a out i) (hn : unqL ((tx t).drop i) = some ([], 1)) : strR t a = (out, i + 1, true) := by
  obtain ⟨h1, -, -, h⟩ := h
  unfold strR
  rw [h, hn]
  simp only [Option.map_some, List.append_nil, ofL_tx]
  congr 2
  omega
theorem SInv.step {t : ByteArray} {a i i2 : Nat} {out : ByteArray} {e : UInt8} (h : SInv t a out i) (hi : i < i2) (h2 : i2 ≤ t.size) (hn : unqL ((tx t).drop i) = (unqL ((tx t).drop i2)).map fun p => (e :: p.1, p.2 + (i2 - i))) : SInv t a (out ++ ofL [e]) i2 := by
  obtain ⟨h1, -, h3, h⟩ := h
  refine ⟨by omega, h2, by rw [ByteArray.size_append, size_ofL]; simp only [List.length_cons, List.length_nil]; omega, ?_⟩
  rw [h, hn, Option.map_map]
  congr 1
  funext p
  simp only [Function.comp, tx_append, tx_ofL, List.append_assoc, List.cons_append, List.nil_append]
  congr 1
  omega
theorem extract1 {t : ByteArray} {i : Nat} {c : UInt8} {hlt : i < t.size} (hb : t[i] = c) : t.extract i (i + 1) = ofL [c] := by
  apply tx_inj
  rw [tx_extract, tx_ofL, take_at hb, List.drop_append_of_le_length (by rw [List.length_take, tx_len]; omega), List.drop_eq_nil_of_le (List.length_take_le _ _)]
  all_goals rfl
theorem extract1' {t : ByteArray} {i : Nat} {c : UInt8} {hlt : i < t.size} (hb : t[i] = c) : t.extract (i : Int).toNat ((i : Int) + 1).toNat = ofL [c] := by
  rw [show ((i : Int) + 1).toNat = i + 1 by omega]
  exact extract1 hb
attribute [local irreducible] Calls thenQ blockQ retQ Spc Spl SplI SpcM Spq Ex Ev Evs Gd Upd ESub HKeep Res Res1 wlk effQ Rem SrcAt Split lexR
set_option maxRecDepth 100000 in
set_option maxHeartbeats 2000000 in
theorem str_c {w : World} (t : ByteArray) (ht : t.size < 10000000) (a : Nat) (ha : a < t.size) : Calls Try.prog 80 #[.string t, .int .i64 (a : Int)] w (Ret w (.tuple #[.string (strR t a).1, .int .i64 ((strR t a).2.1 : Nat), .bool (strR t a).2.2])) := by
  have hhas := fun (w' : World) (d : UInt8) => has_c (w := w') esc3 (by decide) d
  refine sp_enter (vs := [_, _]) Try.func80 rfl Try.ntmps80 rfl ?_
  repeat (first|apply then_n|apply sp_seq|apply sp_region|apply spl_nil|apply sp_block|((apply spl_pure rfl);(·(first|((first|apply ex_move|apply ex_assign)<;>(first|exact eT rfl|exact eC))|((apply ex_addn)<;>(first|exact eT rfl|exact eC|(constructor<;>omega)))))))
  refine sp_loop (X := ByteArray × Nat) (fun x => [(7, true, .string x.1), (8, true, .int .i64 (x.2 : Int)), (0, true, .string t)]) (fun _ => w) (fun _ => [])
    (fun x => SInv t a x.1 x.2) (fun x => t.size - x.2) (⟨#[]⟩, a + 1) ⟨Nat.le_refl _, ha, Nat.zero_le _, by show _ = (unqL _).map _; cases unqL ((tx t).drop (a + 1)) <;> simp [tx]⟩ (by (repeat (first|exact ESub.nil|apply ESub.cons rfl))) rfl (by (repeat (exact HKeep.refl))) ?_
  rintro ⟨out, i⟩ hS
  replace hS : SInv t a out i := hS
  obtain ⟨h1, h2, h3, -⟩ := id hS
  dsimp only
  by_cases hlt : i < t.size
  · obtain ⟨c, hb, hd⟩ := drop_at hlt
    by_cases h34 : c.toNat = 34
    · have h34' : (c.toNat : Int) = 34 := by omega
      have hR := hS.hit (by rw [hd, uq_q h34])
      repeat (first|(apply sp_cond_t;(·exact eT rfl);(·(simp [*];done)))|apply sp_skip|apply then_n|apply sp_seq|apply sp_region|apply spl_nil|apply then_r|apply block_r|apply sp_ret|apply sp_block|((apply spl_pure rfl);(·(first|(apply ex_sindexE hlt hb;(·exact eT rfl);(·exact eT rfl))|((first|apply ex_move|apply ex_assign|apply ex_lss|apply ex_seql)<;>(first|exact eT rfl|exact eC))|((first|apply ex_eql|apply ex_slen)<;>(first|exact eT rfl|exact eC))|((apply ex_addn)<;>(first|exact eT rfl|exact eC|(constructor<;>omega)))))))
      (apply ret_ok rfl;(·((apply Res.ofThree<;>((apply Res1.tmp;(·rfl))))))); rw [hR]; rfl
    · have h34' : ¬ (c.toNat : Int) = 34 := by omega
      by_cases h10 : c.toNat = 10
      · have h10' : (c.toNat : Int) = 10 := by omega
        have hR := hS.none_ (by rw [hd, uq_nl h34 h10])
        repeat (first|(apply sp_cond_t;(·exact eT rfl);(·(simp [*];done)))|(apply sp_cond_f;(·exact eT rfl);(·(simp [*];done)))|apply sp_skip|apply then_n|apply sp_seq|apply sp_region|apply spl_nil|apply then_r|apply block_r|apply sp_ret|apply sp_block|((apply spl_pure rfl);(·(first|(apply ex_sindexE hlt hb;(·exact eT rfl);(·exact eT rfl))|((first|apply ex_move|apply ex_assign|apply ex_lss|apply ex_seql)<;>(first|exact eT rfl|exact eC))|((first|apply ex_eql|apply ex_slen)<;>(first|exact eT rfl|exact eC))))))
        (apply ret_ok rfl;(·((apply Res.ofThree<;>((apply Res1.tmp;(·rfl))))))); rw [hR]; rfl
      · have h10' : ¬ (c.toNat : Int) = 10 := by omega
        by_cases h92 : c.toNat = 92
        · have h92' : (c.toNat : Int) = 92 := by omega
          by_cases hlt2 : i + 1 < t.size
          · obtain ⟨d, hb2, hd2⟩ := drop_at hlt2
            have hge : ¬ ((i : Int) + 1 ≥ (t.size : Int)) := by omega
            have hfal : decide ((i : Int) + 1 ≥ (t.size : Int)) = false := decide_eq_false (by omega)
            cases he : escOf d with
            | none =>
              have hR := hS.none_ (by rw [hd, hd2, uq_b h92, he])
              have hh : ∀ w', Calls Try.prog 78 #[.string esc3, .int .u8 (d.toNat : Int)] w' (Ret w' (.bool false)) := fun w' => by
                have := hhas w' d
                rw [esc3_has, he] at this
                exact this
              repeat (first|(apply sp_cond_t;(·exact eT rfl);(·(first|(simp;done)|(simp [*];done))))|(apply sp_cond_f;(·exact eT rfl);(·(simp [*];done)))|(apply spl_callp_g rfl;(·exact Gd.tf rfl rfl);(·(repeat (first|exact eN|(apply eS;(·(first|exact eC|exact eG rfl))))));(·exact fun _ w' hh2 => hh w'))|apply then_n|apply sp_seq|apply sp_region|apply spl_nil|apply then_r|apply block_r|apply sp_skip|apply sp_ret|apply sp_block|((first|apply spl_pure rfl|(apply spl_pure_g rfl;(·exact Gd.tf rfl rfl)));(·(first|(apply ex_addE (m:=(i:Int)) (n:=1) (r:=((i + 1 : Nat) : Int)) rfl;(·exact eT rfl);(·exact eC);(·omega))|(apply ex_sindexE hlt2 hb2;(·(first|exact eT rfl|exact eG rfl));(·exact eG rfl))|(apply ex_sindexE hlt hb;(·exact eT rfl);(·exact eT rfl))|((first|apply ex_move|apply ex_assign|apply ex_not|apply ex_lss|apply ex_geq|apply ex_seql|apply ex_sneq)<;>(first|exact eT rfl|exact eC|exact eG rfl))|((first|apply ex_eql|apply ex_neq|apply ex_slen|apply ex_orT)<;>(first|exact eT rfl|exact eC|exact eG rfl))))))
              (apply ret_ok rfl;(·((apply Res.ofThree<;>((apply Res1.tmp;(·rfl))))))); rw [hR]; rfl
            | some e =>
              have hh : ∀ w', Calls Try.prog 78 #[.string esc3, .int .u8 (d.toNat : Int)] w' (Ret w' (.bool true)) := fun w' => by
                have := hhas w' d
                rw [esc3_has, he] at this
                exact this
              have hS2 := hS.step (e := e) (i2 := i + 2) (by omega) (by omega) (by
                rw [hd, hd2, uq_b h92, he]
                simp only
                congr 1
                funext p
                rw [show i + 2 - i = 2 by omega])
              have hso : (out ++ ofL [e]).size < 9223372036854775808 := by have := hS2.2.2.1; omega
              by_cases hn : d.toNat = 110
              · have hn' : (d.toNat : Int) = 110 := by omega
                have hee : e = 10 := by
                  unfold escOf at he
                  rw [if_neg (by omega), if_neg (by omega), if_pos hn] at he
                  exact (Option.some.inj he).symm
                subst hee
                repeat (first|(apply sp_cond_t;(·exact eT rfl);(·(simp [*];done)))|(apply sp_cond_f;(·exact eT rfl);(·(simp [*];done)))|(apply spl_callp_g rfl;(·exact Gd.tf rfl rfl);(·(repeat (first|exact eN|(apply eS;(·(first|exact eC|exact eG rfl))))));(·exact fun _ w' hh2 => hh w'))|apply then_n|apply block_n|apply sp_seq|apply sp_region|apply spl_nil|apply sp_skip|apply sp_block|((first|apply spl_pure rfl|(apply spl_pure_g rfl;(·exact Gd.tf rfl rfl)));(·(first|(apply ex_addE (m:=(i:Int)) (n:=1) (r:=((i + 1 : Nat) : Int)) rfl;(·exact eT rfl);(·exact eC);(·omega))|(apply ex_addE (m:=((i + 1 : Nat) : Int)) (n:=1) (r:=((i + 2 : Nat) : Int)) rfl;(·exact eT rfl);(·exact eC);(·omega))|(apply ex_sadd (r:=out) (s:=ofL [10]);(·exact eT rfl);(·exact eC);(·(rw [← ByteArray.size_append];exact hso)))|(apply ex_sindexE hlt2 hb2;(·(first|exact eT rfl|exact eG rfl));(·(first|exact eT rfl|exact eG rfl)))|(apply ex_sindexE hlt hb;(·exact eT rfl);(·exact eT rfl))|((first|apply ex_move|apply ex_assign|apply ex_not|apply ex_lss|apply ex_geq|apply ex_seql|apply ex_sneq)<;>(first|exact eT rfl|exact eG rfl))|((first|apply ex_eql|apply ex_neq|apply ex_slen|apply ex_orT)<;>(first|exact eT rfl|exact eC|exact eG rfl))))))
                exact ⟨(_, i + 2), hS2, by show t.size - (i + 2) < t.size - i; omega, (by (repeat (first|exact ESub.nil|apply ESub.cons rfl))), rfl, (by (repeat (exact HKeep.refl)))⟩
              · have hn' : ¬ (d.toNat : Int) = 110 := by omega
                have hee : e = d := by
                  unfold escOf at he
                  split at he
                  · rename_i h
                    cases he
                    exact (UInt8.toNat.inj (by rw [h]; rfl)).symm
                  · split at he
                    · rename_i h
                      cases he
                      exact (UInt8.toNat.inj (by rw [h]; rfl)).symm
                    · first | cases he | (rw [if_neg hn] at he; cases he)
                subst hee
                have hb3 : (0 : Int) ≤ ((i + 1 : Nat) : Int) ∧ ((i + 1 : Nat) : Int) ≤ ((i + 2 : Nat) : Int) ∧ ((i + 2 : Nat) : Int) ≤ t.size := by omega
                repeat (first|(apply sp_cond_t;(·exact eT rfl);(·(simp [*];done)))|(apply sp_cond_f;(·exact eT rfl);(·(simp [*];done)))|(apply spl_callp_g rfl;(·exact Gd.tf rfl rfl);(·(repeat (first|exact eN|(apply eS;(·(first|exact eC|exact eG rfl))))));(·exact fun _ w' hh2 => hh w'))|apply then_n|apply block_n|apply sp_seq|apply sp_region|apply spl_nil|apply sp_skip|apply sp_block|((first|apply spl_pure rfl|(apply spl_pure_g rfl;(·exact Gd.tf rfl rfl)));(·(first|(apply ex_addE (m:=(i:Int)) (n:=1) (r:=((i + 1 : Nat) : Int)) rfl;(·exact eT rfl);(·exact eC);(·omega))|(apply ex_addE (m:=((i + 1 : Nat) : Int)) (n:=1) (r:=((i + 2 : Nat) : Int)) rfl;(·exact eT rfl);(·exact eC);(·omega))|(apply ex_sadd (r:=out) (s:=ofL [e]);(·exact eT rfl);(·exact eT rfl);(·(rw [← ByteArray.size_append];exact hso)))|(apply ex_ssliceE (l:=((i + 1 : Nat) : Int)) (h:=((i + 2 : Nat) : Int)) (extract1 hb2) hb3;(·exact eT rfl);(·exact eT rfl);(·exact eT rfl))|(apply ex_sindexE hlt2 hb2;(·(first|exact eT rfl|exact eG rfl));(·(first|exact eT rfl|exact eG rfl)))|(apply ex_sindexE hlt hb;(·exact eT rfl);(·exact eT rfl))|((first|apply ex_move|apply ex_assign|apply ex_not|apply ex_lss|apply ex_geq|apply ex_seql|apply ex_sneq)<;>(first|exact eT rfl|exact eG rfl))|((first|apply ex_eql|apply ex_neq|apply ex_slen|apply ex_orT)<;>(first|exact eT rfl|exact eC|exact eG rfl))))))
                exact ⟨(_, i + 2), hS2, by show t.size - (i + 2) < t.size - i; omega, (by (repeat (first|exact ESub.nil|apply ESub.cons rfl))), rfl, (by (repeat (exact HKeep.refl)))⟩
          · have hR := hS.none_ (by rw [hd, drop_end (by omega), uq_b0 h92])
            have hge : (i : Int) + 1 ≥ (t.size : Int) := by omega
            have htr : (decide ((i : Int) + 1 ≥ (t.size : Int))) = true := decide_eq_true hge
            repeat (first|(apply sp_cond_t;(·exact eT rfl);(·(first|(simp;done)|(simp [*];done))))|(apply sp_cond_f;(·exact eT rfl);(·(simp [*];done)))|(apply spl_callp_g (v:=.bool false) rfl;(·exact Gd.tf rfl rfl);(·(repeat (first|exact eN|(apply eS;(·(first|exact eC|exact eG rfl))))));(·(intro hG;cases hG)))|apply then_n|apply sp_seq|apply sp_region|apply spl_nil|apply then_r|apply block_r|apply sp_skip|apply sp_ret|apply sp_block|((first|apply spl_pure rfl|(apply spl_pure_g rfl;(·exact Gd.tf rfl rfl)));(·(first|(apply ex_geqT hge;(·exact eT rfl);(·exact eT rfl))|(apply ex_index_dead rfl)|(apply ex_sindexE hlt hb;(·exact eT rfl);(·exact eT rfl))|((first|apply ex_move|apply ex_assign|apply ex_not|apply ex_lss|apply ex_seql|apply ex_sneq)<;>(first|exact eT rfl|exact eC|exact eG rfl))|((first|apply ex_eql|apply ex_neq|apply ex_slen|apply ex_orT)<;>(first|exact eT rfl|exact eC|exact eG rfl))|((apply ex_addn)<;>(first|exact eT rfl|exact eC|(constructor<;>omega)))))))
            (apply ret_ok rfl;(·((apply Res.ofThree<;>((apply Res1.tmp;(·rfl))))))); rw [hR]; rfl
        · have h92' : ¬ (c.toNat : Int) = 92 := by omega
          have hS2 := hS.step (e := c) (i2 := i + 1) (by omega) (by omega) (by
            rw [hd, uq_c h34 h10 h92]
            congr 1
            funext p
            rw [show i + 1 - i = 1 by omega])
          have hso : (out ++ ofL [c]).size < 9223372036854775808 := by have := hS2.2.2.1; omega
          have hb3 : (0 : Int) ≤ (i : Int) ∧ (i : Int) ≤ ((i + 1 : Nat) : Int) ∧ ((i + 1 : Nat) : Int) ≤ t.size := by omega
          repeat (first|(apply sp_cond_t;(·exact eT rfl);(·(simp [*];done)))|(apply sp_cond_f;(·exact eT rfl);(·(simp [*];done)))|apply sp_skip|apply then_n|apply sp_seq|apply sp_region|apply spl_nil|apply then_e|apply block_here|apply sp_exit|apply sp_block|((apply spl_pure rfl);(·(first|(apply ex_addE (m:=(i:Int)) (n:=1) (r:=((i + 1 : Nat) : Int)) rfl;(·exact eT rfl);(·exact eC);(·omega))|(apply ex_ssliceE (l:=(i : Int)) (h:=((i + 1 : Nat) : Int)) (extract1 hb) hb3;(·exact eT rfl);(·exact eT rfl);(·exact eT rfl))|(apply ex_sadd (r:=out) (s:=ofL [c]);(·exact eT rfl);(·exact eT rfl);(·(rw [← ByteArray.size_append];exact hso)))|(apply ex_sindexE hlt hb;(·exact eT rfl);(·exact eT rfl))|((first|apply ex_move|apply ex_assign|apply ex_lss|apply ex_seql|apply ex_sneq)<;>(exact eT rfl))|((first|apply ex_eql|apply ex_neq|apply ex_slen)<;>(first|exact eT rfl|exact eC))))))
          exact ⟨(_, i + 1), hS2, by show t.size - (i + 1) < t.size - i; omega, (by (repeat (first|exact ESub.nil|apply ESub.cons rfl))), rfl, (by (repeat (exact HKeep.refl)))⟩
  · have hR := hS.none_ (by rw [drop_end (by omega)]; rfl)
    repeat (first|apply then_n|apply sp_seq|apply sp_region|apply spl_nil|apply then_e|apply block_here|(apply sp_cond_f;(·exact eT rfl);(·(exact decide_eq_false (by omega))))|apply sp_ret|apply sp_exit|((apply spl_pure rfl);(·(first|((first|apply ex_move|apply ex_assign|apply ex_lss)<;>(first|exact eT rfl|exact eC))|((apply ex_slen)<;>(exact eT rfl))))))
    (apply ret_ok rfl;(·((apply Res.ofThree<;>((apply Res1.tmp;(·rfl))))))); rw [hR]; rfl
end Go.Proofs.Ytfdjlphfohnnnaa
/-
  Laws of comparisons whose outcome is known.
-/
namespace Go.Proofs.Ytfdjlphfohnnnaa
open Go.RowKit Go.Sy
set_option linter.unusedVariables false
set_option linter.unusedSimpArgs false
attribute [local irreducible] Calls thenQ blockQ retQ Spc Spl SplI SpcM Spq Ex Ev Evs Gd Upd ESub HKeep Res Res1 wlk effQ Rem SrcAt Split
theorem ex_lssF {P : Program} {Be : Nat} {w0 : World} {H : Heap} {G : Bool} {e : Env} {ty t t' : TypeId} {x y : Operand} {k : IntKind} {m n : Int} (h : ¬ m < n) (h1 : Ev G e x (.int k m)) (h2 : Ev G e y (.int k n)) : Ex P Be w0 H G e (.binOp .lss t x y t') ty (.bool false) := by
  have := ex_lss (P := P) (Be := Be) (w0 := w0) (H := H) (ty := ty) (t := t) (t' := t') h1 h2
  rwa [decide_eq_false h] at this
theorem ex_lssT {P : Program} {Be : Nat} {w0 : World} {H : Heap} {G : Bool} {e : Env} {ty t t' : TypeId} {x y : Operand} {k : IntKind} {m n : Int} (h : m < n) (h1 : Ev G e x (.int k m)) (h2 : Ev G e y (.int k n)) : Ex P Be w0 H G e (.binOp .lss t x y t') ty (.bool true) := by
  have := ex_lss (P := P) (Be := Be) (w0 := w0) (H := H) (ty := ty) (t := t) (t' := t') h1 h2
  rwa [decide_eq_true h] at this
theorem ex_gtrF {P : Program} {Be : Nat} {w0 : World} {H : Heap} {G : Bool} {e : Env} {ty t t' : TypeId} {x y : Operand} {k : IntKind} {m n : Int} (h : ¬ n < m) (h1 : Ev G e x (.int k m)) (h2 : Ev G e y (.int k n)) : Ex P Be w0 H G e (.binOp .gtr t x y t') ty (.bool false) := by
  have := ex_gtr (P := P) (Be := Be) (w0 := w0) (H := H) (ty := ty) (t := t) (t' := t') h1 h2
  rwa [decide_eq_false h] at this
end Go.Proofs.Ytfdjlphfohnnnaa
/-
  Contracts: the reference's next token.
-/
namespace Go.Proofs.Ytfdjlphfohnnnaa
open Go.RowKit Go.Sy
set_option linter.unusedVariables false
set_option linter.unusedSimpArgs false
def tk0 : Tk := ⟨0, ⟨#[]⟩, 0⟩
def nextR (t : ByteArray) (a : Nat) : Tk × Nat × Nat := match tokL ((tx t).drop a) with | .tok k s n => (⟨k, ofL s, a⟩, a + n, 0) | .err e => (tk0, 0, e)
theorem nextR_at {t : ByteArray} {a : Nat} {c : UInt8} (hd : (tx t).drop a = c :: (tx t).drop (a + 1)) : nextR t a = match tokC c ((tx t).drop (a + 1)) with | .tok k s n => (⟨k, ofL s, a⟩, a + n, 0) | .err e => (tk0, 0, e) := by
  unfold nextR
  rw [hd]
  all_goals rfl
/-- How far a run goes. -/
def runE (p : UInt8 → Bool) (t : ByteArray) (a : Nat) : Nat := a + (((tx t).drop a).takeWhile p).length
theorem run_step {p : UInt8 → Bool} {t : ByteArray} {j : Nat} {b : UInt8} (hd : (tx t).drop j = b :: (tx t).drop (j + 1)) (h : p b = true) : runE p t j = runE p t (j + 1) := by
  unfold runE
  rw [hd, List.takeWhile_cons_of_pos h, List.length_cons]; omega
theorem run_stop {p : UInt8 → Bool} {t : ByteArray} {j : Nat} (h : headIs p ((tx t).drop j) = false) : runE p t j = j := by
  unfold runE
  rw [takeWhile_head h]; rfl
theorem extract_run' {p : UInt8 → Bool} (t : ByteArray) (k : Nat) : ofL (((tx t).drop k).takeWhile p) = t.extract k (runE p t k) := by
  apply tx_inj
  unfold runE
  rw [tx_ofL, tx_extract, List.drop_take, Nat.add_sub_cancel_left, takeWhile_take]
theorem head_at {p : UInt8 → Bool} {l r : List UInt8} {b : UInt8} (h : l = b :: r) : headIs p l = p b := by rw [h]; simp [headIs]
theorem head_end {p : UInt8 → Bool} {l : List UInt8} (h : l = []) : headIs p l = false := by rw [h]; rfl
attribute [local irreducible] Calls thenQ blockQ retQ Spc Spl SplI SpcM Spq Ex Ev Evs Gd Upd ESub HKeep Res Res1 wlk effQ Rem SrcAt Split lexR
theorem name_next {t : ByteArray} {a j : Nat} {c : UInt8} (hd : (tx t).drop a = c :: (tx t).drop (a + 1)) (hp : isLetter c = true) (hj : runE isWord t a = j) : (24 < j - a → nextR t a = (tk0, 0, 7)) ∧ (¬ 24 < j - a → nextR t a = (⟨1, t.extract a j, a⟩, j, 0)) := by
  have hl : ((c :: (tx t).drop (a + 1)).takeWhile isWord).length = j - a := by rw [← hd, ← hj]; unfold runE; omega
  have hx : ofL ((c :: (tx t).drop (a + 1)).takeWhile isWord) = t.extract a j := by rw [← hd, extract_run', hj]
  have hja : a ≤ j := by rw [← hj]; unfold runE; omega
  rw [nextR_at hd, tokC_word hp, hl]
  constructor
  · intro h; rw [if_pos h]
  · intro h; rw [if_neg h]
    simp only [hx]
    rw [show a + (j - a) = j by omega]
theorem num_next {t : ByteArray} {a j : Nat} {c : UInt8} (hd : (tx t).drop a = c :: (tx t).drop (a + 1)) (hp0 : isLetter c = false) (hp : isDigit c = true) (hj : runE isDigit t a = j) : ((7 < j - a ∨ headIs isWord ((tx t).drop j) = true) → nextR t a = (tk0, 0, 11)) ∧ (¬ (7 < j - a ∨ headIs isWord ((tx t).drop j) = true) → nextR t a = (⟨2, t.extract a j, a⟩, j, 0)) := by
  have hl : ((c :: (tx t).drop (a + 1)).takeWhile isDigit).length = j - a := by rw [← hd, ← hj]; unfold runE; omega
  have hx : ofL ((c :: (tx t).drop (a + 1)).takeWhile isDigit) = t.extract a j := by rw [← hd, extract_run', hj]
  have hja : a ≤ j := by rw [← hj]; unfold runE; omega
  have hdw : (c :: (tx t).drop (a + 1)).dropWhile isDigit = (tx t).drop j := by rw [dropWhile_drop, hl, ← hd, List.drop_drop]; congr 1; omega
  rw [nextR_at hd, tokC_digit hp0 hp, hl, hdw]
  constructor
  · intro h; rw [if_pos h]
  · intro h; rw [if_neg h]
    simp only [hx]
    rw [show a + (j - a) = j by omega]
theorem sym_next {t : ByteArray} {a : Nat} {c : UInt8} (hd : (tx t).drop a = c :: (tx t).drop (a + 1)) (hp0 : isLetter c = false) (hp1 : isDigit c = false) (h34 : ¬ c.toNat = 34) : (isSym c = true → nextR t a = (⟨4, ofL [c], a⟩, a + 1, 0)) ∧ (isSym c = false → nextR t a = (tk0, 0, 10)) := by
  rw [nextR_at hd, tokC_sym hp0 hp1 h34]
  exact ⟨fun h => by rw [if_pos h], fun h => by rw [if_neg (by rw [h]; simp)]⟩
theorem str_next {t : ByteArray} {a : Nat} {c : UInt8} (hd : (tx t).drop a = c :: (tx t).drop (a + 1)) (hp0 : isLetter c = false) (hp1 : isDigit c = false) (h34 : c.toNat = 34) : (∀ p, unqL ((tx t).drop (a + 1)) = some p → nextR t a = (⟨3, ofL p.1, a⟩, a + 1 + p.2, 0) ∧ strR t a = (ofL p.1, a + 1 + p.2, true)) ∧ (unqL ((tx t).drop (a + 1)) = none → nextR t a = (tk0, 0, 10) ∧ strR t a = (⟨#[]⟩, 0, false)) := by
  rw [nextR_at hd, tokC_quote hp0 hp1 h34]
  unfold strR
  refine ⟨fun p h => ?_, fun h => ?_⟩
  · rw [h]
    simp only [and_true]
    rw [show a + (p.2 + 1) = a + 1 + p.2 by omega]
  · rw [h]; exact ⟨rfl, rfl⟩
set_option maxRecDepth 100000 in
set_option maxHeartbeats 4000000 in
theorem rnext_c {w : World} (t : ByteArray) (ht : t.size < 10000000) (a : Nat) (hlt : a < t.size) : Calls Try.prog 57 #[.string t, .int .i64 (a : Int)] w (Ret w (.tuple #[.agg (tkC (nextR t a).1), .int .i64 ((nextR t a).2.1 : Nat), .int .i64 ((nextR t a).2.2 : Nat)])) := by
  have hone : ∀ x : Tk, ∀ v ∈ tkC x, v.oneCell' = true := fun x v hv => by simp [tkC] at hv; rcases hv with rfl | rfl | rfl <;> rfl
  have hone0 := hone tk0
  have h0s : (tkC tk0).size = 3 := rfl
  obtain ⟨c, hb, hd⟩ := drop_at hlt
  have hl := fun w' : World => letter_c (w := w') c
  have hg := fun w' : World => digit_c (w := w') c
  refine sp_enter (vs := [_, _]) Try.func57 rfl Try.ntmps57 rfl ?_
  cases hp0 : isLetter c with
  | true =>
    rw [hp0] at hl
    repeat (first|(apply sp_cond_t;(·exact eT rfl);(·(simp;done)))|(apply spl_callp rfl;(·(repeat (first|exact eN|(apply eS;(·exact eT rfl)))));(·exact fun w' hh => hl w'))|apply then_n|apply sp_seq|apply sp_region|apply spl_nil|apply sp_block|((apply spl_pure rfl);(·(first|(apply ex_sindexE hlt hb;(·exact eT rfl);(·exact eT rfl))|((first|apply ex_move|apply ex_assign)<;>(first|exact eT rfl|exact eC))|((apply ex_addn)<;>(first|exact eT rfl|exact eC|(constructor<;>omega))))))|(apply spl_alloc rfl;intro _ _))
    rename_i g hgg
    have hp : isWord c = true := word_letter c hp0
    refine sp_loop (X := Nat) (fun j => [(7, true, .int .i64 (j : Int)), (0, true, .string t), (1, true, .int .i64 (a : Int)), (4, true, .pointer (some ⟨g, 0, none⟩))]) (fun _ => w) (fun _ => [(g, .cells (tkC tk0) 53 (0, 0))])
      (fun j => a + 1 ≤ j ∧ j ≤ t.size ∧ runE isWord t a = runE isWord t j) (fun j => t.size - j) (a + 1) ⟨Nat.le_refl _, hlt, run_step hd hp⟩ (by (repeat (first|exact ESub.nil|apply ESub.cons rfl))) rfl (by (repeat (exact HKeep.refl))) ?_
    rintro j ⟨hj1, hj2, hj3⟩
    by_cases hltj : j < t.size
    · obtain ⟨b, hbj, hdj⟩ := drop_at hltj
      have hj0 : (j : Int) < (t.size : Int) := by omega
      cases hpb : isWord b with
      | true =>
        rw [run_step hdj hpb] at hj3
        have hcb := fun w' : World => word_c (w := w') b
        rw [hpb] at hcb
        repeat (first|(apply spl_callp_g rfl;(·exact Gd.tt rfl rfl);(·(repeat (first|exact eN|(apply eS;(·exact eT rfl)))));(·exact fun _ w' hh => hcb w'))|apply then_n|apply block_n|apply sp_seq|apply sp_region|apply spl_nil|((apply sp_cond_t);(·exact eT rfl);(·(rfl)))|apply sp_skip|apply sp_block|((first|apply spl_pure rfl|(apply spl_pure_g rfl;(·exact Gd.tt rfl rfl)));(·(first|(apply ex_lssT hj0;(·exact eT rfl);(·exact eT rfl))|(apply ex_sindexE hltj hbj;(·exact eT rfl);(·exact eT rfl))|((first|apply ex_move|apply ex_assign|apply ex_andT)<;>(exact eT rfl))|((apply ex_slen)<;>(exact eT rfl))|((apply ex_addn)<;>(first|exact eT rfl|exact eC|(constructor<;>omega)))))))
        exact ⟨j + 1, ⟨by omega, hltj, hj3⟩, by omega, (by (repeat (first|exact ESub.nil|apply ESub.cons rfl))), rfl, (by (repeat (exact HKeep.refl)))⟩
      | false =>
        rw [run_stop (j := j) ((head_at hdj).trans hpb)] at hj3
        have hcb := fun w' : World => word_c (w := w') b
        rw [hpb] at hcb
        repeat (first|(apply spl_callp_g rfl;(·exact Gd.tt rfl rfl);(·(repeat (first|exact eN|(apply eS;(·exact eT rfl)))));(·exact fun _ w' hh => hcb w'))|apply then_n|apply sp_seq|apply sp_region|apply spl_nil|apply then_e|apply block_here|(apply sp_cond_f;(·exact eT rfl);(·(rfl)))|apply sp_exit|((first|apply spl_pure rfl|(apply spl_pure_g rfl;(·exact Gd.tt rfl rfl)));(·(first|(apply ex_lssT hj0;(·exact eT rfl);(·exact eT rfl))|(apply ex_sindexE hltj hbj;(·exact eT rfl);(·exact eT rfl))|((first|apply ex_move|apply ex_gtr|apply ex_andT)<;>(first|exact eT rfl|exact eC))|((apply ex_slen)<;>(exact eT rfl))|((apply ex_subn)<;>(first|exact eT rfl|(constructor<;>omega)))))))
        have hb3 : (0 : Int) ≤ (a : Int) ∧ (a : Int) ≤ (j : Int) ∧ (j : Int) ≤ t.size := by omega
        by_cases h24 : 24 < j - a
        · have h24' : (24 : Int) < (j : Int) - (a : Int) := by omega
          repeat (first|(apply sp_cond_t;(·exact eT rfl);(·(simp [*];done)))|apply then_n|apply sp_seq|apply sp_region|apply spl_nil|apply then_r|apply sp_ret|((apply spl_pure rfl);(·(first|(apply ex_buildE (r:=tkC tk0);(·(repeat (exact eN)));(·rfl);(·rfl))|((apply ex_assign)<;>(exact eC)))))|(apply spl_stores;(·exact eT rfl);(·exact eT rfl);(·(repeat (exact Upd.here)));(·(rfl));(·(rfl));(·(assumption))))
          (apply ret_ok rfl;(·((apply Res.ofThree<;>(first|(apply Res1.tmp;(·rfl))|(apply Res1.cell;(·rfl);(·exact InH.mem);(·(rfl)))))))); rw [(name_next hd hp0 hj3).1 h24]; rfl
        · have h24' : ¬ (24 : Int) < (j : Int) - (a : Int) := by omega
          repeat (first|(apply sp_cond_f;(·exact eT rfl);(·(simp [*];done)))|apply then_n|apply sp_seq|apply sp_region|apply spl_nil|apply then_r|apply sp_skip|apply sp_ret|((apply spl_pure rfl);(·(first|(apply ex_ssliceE (l:=(a:Int)) (h:=(j:Int)) (r:=t.extract a j) rfl hb3;(·exact eT rfl);(·exact eT rfl);(·exact eT rfl))|(apply ex_buildE (r:=tkC ⟨1, t.extract a j, a⟩);(·(repeat (first|exact eN|(apply eS;(·(first|exact eT rfl|exact eC))))));(·rfl);(·rfl))|((first|apply ex_move|apply ex_assign)<;>(first|exact eT rfl|exact eC)))))|(apply spl_stores;(·exact eT rfl);(·exact eT rfl);(·(repeat (exact Upd.here)));(·(rfl));(·(rfl));(·exact ones_of_all rfl)))
          (apply ret_ok rfl;(·((apply Res.ofThree<;>(first|(apply Res1.tmp;(·rfl))|(apply Res1.cell;(·rfl);(·exact InH.mem);(·(rfl)))))))); rw [(name_next hd hp0 hj3).2 h24]; rfl
    · have hj0 : ¬ (j : Int) < (t.size : Int) := by omega
      rw [run_stop (j := j) (head_end (drop_end (by omega)))] at hj3
      repeat (first|(apply spl_callp_g (v:=.bool false) rfl;(·exact Gd.tt rfl rfl);(·(repeat (first|exact eN|(apply eS;(·exact eG rfl)))));(·(intro hG;exact absurd hG Bool.false_ne_true)))|apply then_n|apply sp_seq|apply sp_region|apply spl_nil|apply then_e|apply block_here|(apply sp_cond_f;(·exact eT rfl);(·(rfl)))|apply sp_exit|((first|apply spl_pure rfl|(apply spl_pure_g rfl;(·exact Gd.tt rfl rfl)));(·(first|(apply ex_lssF hj0;(·exact eT rfl);(·exact eT rfl))|(apply ex_index_dead rfl)|((first|apply ex_move|apply ex_gtr|apply ex_andT)<;>(first|exact eT rfl|exact eC|exact eG rfl))|((apply ex_slen)<;>(exact eT rfl))|((apply ex_subn)<;>(first|exact eT rfl|(constructor<;>omega)))))))
      have hb3 : (0 : Int) ≤ (a : Int) ∧ (a : Int) ≤ (j : Int) ∧ (j : Int) ≤ t.size := by omega
      by_cases h24 : 24 < j - a
      · have h24' : (24 : Int) < (j : Int) - (a : Int) := by omega
        repeat (first|(apply sp_cond_t;(·exact eT rfl);(·(simp [*];done)))|apply then_n|apply sp_seq|apply sp_region|apply spl_nil|apply then_r|apply sp_ret|((apply spl_pure rfl);(·(first|(apply ex_buildE (r:=tkC tk0);(·(repeat (exact eN)));(·rfl);(·rfl))|((apply ex_assign)<;>(exact eC)))))|(apply spl_stores;(·exact eT rfl);(·exact eT rfl);(·(repeat (exact Upd.here)));(·(rfl));(·(rfl));(·(assumption))))
        (apply ret_ok rfl;(·((apply Res.ofThree<;>(first|(apply Res1.tmp;(·rfl))|(apply Res1.cell;(·rfl);(·exact InH.mem);(·(rfl)))))))); rw [(name_next hd hp0 hj3).1 h24]; rfl
      · have h24' : ¬ (24 : Int) < (j : Int) - (a : Int) := by omega
        repeat (first|(apply sp_cond_f;(·exact eT rfl);(·(simp [*];done)))|apply then_n|apply sp_seq|apply sp_region|apply spl_nil|apply then_r|apply sp_skip|apply sp_ret|((apply spl_pure rfl);(·(first|(apply ex_ssliceE (l:=(a:Int)) (h:=(j:Int)) (r:=t.extract a j) rfl hb3;(·exact eT rfl);(·exact eT rfl);(·exact eT rfl))|(apply ex_buildE (r:=tkC ⟨1, t.extract a j, a⟩);(·(repeat (first|exact eN|(apply eS;(·(first|exact eT rfl|exact eC))))));(·rfl);(·rfl))|((first|apply ex_move|apply ex_assign)<;>(first|exact eT rfl|exact eC)))))|(apply spl_stores;(·exact eT rfl);(·exact eT rfl);(·(repeat (exact Upd.here)));(·(rfl));(·(rfl));(·exact ones_of_all rfl)))
        (apply ret_ok rfl;(·((apply Res.ofThree<;>(first|(apply Res1.tmp;(·rfl))|(apply Res1.cell;(·rfl);(·exact InH.mem);(·(rfl)))))))); rw [(name_next hd hp0 hj3).2 h24]; rfl
  | false =>
    rw [hp0] at hl
    have hp1 := hp0
    clear hp0
    cases hp0 : isDigit c with
    | true =>
      rw [hp0] at hg
      repeat (first|(apply sp_cond_t;(·exact eT rfl);(·(simp;done)))|(apply sp_cond_f;(·exact eT rfl);(·(simp;done)))|(apply spl_callp rfl;(·(repeat (first|exact eN|(apply eS;(·exact eT rfl)))));(·exact fun w' hh => hl w'))|(apply spl_callp rfl;(·(repeat (first|exact eN|(apply eS;(·exact eT rfl)))));(·exact fun w' hh => hg w'))|apply then_n|apply sp_seq|apply sp_region|apply spl_nil|apply sp_skip|apply sp_block|((apply spl_pure rfl);(·(first|(apply ex_sindexE hlt hb;(·exact eT rfl);(·exact eT rfl))|((first|apply ex_move|apply ex_assign)<;>(first|exact eT rfl|exact eC))|((apply ex_addn)<;>(first|exact eT rfl|exact eC|(constructor<;>omega))))))|(apply spl_alloc rfl;intro _ _))
      rename_i g hgg
      have hp := hp0
      refine sp_loop (X := Nat) (fun j => [(7, true, .int .i64 (j : Int)), (0, true, .string t), (1, true, .int .i64 (a : Int)), (4, true, .pointer (some ⟨g, 0, none⟩))]) (fun _ => w) (fun _ => [(g, .cells (tkC tk0) 53 (0, 0))])
        (fun j => a + 1 ≤ j ∧ j ≤ t.size ∧ runE isDigit t a = runE isDigit t j) (fun j => t.size - j) (a + 1) ⟨Nat.le_refl _, hlt, run_step hd hp⟩ (by (repeat (first|exact ESub.nil|apply ESub.cons rfl))) rfl (by (repeat (exact HKeep.refl))) ?_
      rintro j ⟨hj1, hj2, hj3⟩
      by_cases hltj : j < t.size
      · obtain ⟨b, hbj, hdj⟩ := drop_at hltj
        have hj0 : (j : Int) < (t.size : Int) := by omega
        cases hpb : isDigit b with
        | true =>
          rw [run_step hdj hpb] at hj3
          have hcb := fun w' : World => digit_c (w := w') b
          rw [hpb] at hcb
          repeat (first|(apply spl_callp_g rfl;(·exact Gd.tt rfl rfl);(·(repeat (first|exact eN|(apply eS;(·exact eT rfl)))));(·exact fun _ w' hh => hcb w'))|apply then_n|apply block_n|apply sp_seq|apply sp_region|apply spl_nil|((apply sp_cond_t);(·exact eT rfl);(·(rfl)))|apply sp_skip|apply sp_block|((first|apply spl_pure rfl|(apply spl_pure_g rfl;(·exact Gd.tt rfl rfl)));(·(first|(apply ex_lssT hj0;(·exact eT rfl);(·exact eT rfl))|(apply ex_sindexE hltj hbj;(·exact eT rfl);(·exact eT rfl))|((first|apply ex_move|apply ex_assign|apply ex_andT)<;>(exact eT rfl))|((apply ex_slen)<;>(exact eT rfl))|((apply ex_addn)<;>(first|exact eT rfl|exact eC|(constructor<;>omega)))))))
          exact ⟨j + 1, ⟨by omega, hltj, hj3⟩, by omega, (by (repeat (first|exact ESub.nil|apply ESub.cons rfl))), rfl, (by (repeat (exact HKeep.refl)))⟩
        | false =>
          rw [run_stop (j := j) ((head_at hdj).trans hpb)] at hj3
          have hcb := fun w' : World => digit_c (w := w') b
          rw [hpb] at hcb
          have hb3 : (0 : Int) ≤ (a : Int) ∧ (a : Int) ≤ (j : Int) ∧ (j : Int) ≤ t.size := by omega
          have hwb := fun w' : World => word_c (w := w') b
          by_cases h7 : 7 < j - a
          · have h7' : (7 : Int) < (j : Int) - (a : Int) := by omega
            repeat (first|(apply sp_cond_t;(·exact eT rfl);(·(simp;done)))|(apply sp_cond_f;(·exact eT rfl);(·(simp;done)))|(apply spl_callp_g rfl;(·(first|exact Gd.tt rfl rfl|exact Gd.gt rfl rfl));(·(repeat (first|exact eN|(apply eS;(·(first|exact eT rfl|exact eG rfl))))));(·exact fun _ w' hh => hcb w'))|(apply spl_callp_g rfl;(·exact Gd.gt rfl rfl);(·(repeat (first|exact eN|(apply eS;(·exact eG rfl)))));(·exact fun _ w' hh => hwb w'))|apply then_n|apply sp_seq|apply sp_region|apply spl_nil|apply then_r|apply then_e|apply block_here|apply sp_ret|apply sp_exit|((first|apply spl_pure rfl|(apply spl_pure_g rfl;(·(first|exact Gd.tt rfl rfl|exact Gd.tf rfl rfl|exact Gd.gt rfl rfl))));(·(first|(apply ex_gtrT h7';(·exact eT rfl);(·exact eC))|(apply ex_lssT hj0;(·(first|exact eT rfl|exact eG rfl));(·(first|exact eT rfl|exact eG rfl)))|(apply ex_sindexE hltj hbj;(·(first|exact eT rfl|exact eG rfl));(·(first|exact eT rfl|exact eG rfl)))|(apply ex_buildE (r:=tkC tk0);(·(repeat (exact eN)));(·rfl);(·rfl))|((first|apply ex_move|apply ex_assign|apply ex_andT)<;>(first|exact eT rfl|exact eC|exact eG rfl))|((first|apply ex_slen|apply ex_orT)<;>(first|exact eT rfl|exact eG rfl))|((apply ex_and)<;>(exact eG rfl))|((apply ex_subn)<;>(first|exact eT rfl|(constructor<;>omega))))))|(apply spl_stores;(·exact eT rfl);(·exact eT rfl);(·(repeat (exact Upd.here)));(·(rfl));(·(rfl));(·(assumption))))
            (apply ret_ok rfl;(·((apply Res.ofThree<;>(first|(apply Res1.tmp;(·rfl))|(apply Res1.cell;(·rfl);(·exact InH.mem);(·(rfl)))))))); rw [(num_next hd hp1 hp0 hj3).1 (.inl h7)]; rfl
          · have h7' : ¬ (7 : Int) < (j : Int) - (a : Int) := by omega
            cases hhd : headIs isWord ((tx t).drop j) with
            | true =>
              have hb' : isWord b = true := (head_at hdj).symm.trans hhd
              rw [hb'] at hwb
              repeat (first|(apply sp_cond_t;(·exact eT rfl);(·(simp;done)))|(apply sp_cond_f;(·exact eT rfl);(·(simp;done)))|(apply spl_callp_g rfl;(·exact Gd.tt rfl rfl);(·(repeat (first|exact eN|(apply eS;(·exact eT rfl)))));(·exact fun _ w' hh => hcb w'))|(apply spl_callp_g rfl;(·exact Gd.tt rfl rfl);(·(repeat (first|exact eN|(apply eS;(·exact eT rfl)))));(·exact fun _ w' hh => hwb w'))|apply then_n|apply sp_seq|apply sp_region|apply spl_nil|apply then_r|apply then_e|apply block_here|apply sp_ret|apply sp_exit|((first|apply spl_pure rfl|(apply spl_pure_g rfl;(·(first|exact Gd.tt rfl rfl|exact Gd.tf rfl rfl))));(·(first|(apply ex_gtrF h7';(·exact eT rfl);(·exact eC))|(apply ex_lssT hj0;(·exact eT rfl);(·exact eT rfl))|(apply ex_sindexE hltj hbj;(·exact eT rfl);(·exact eT rfl))|(apply ex_buildE (r:=tkC tk0);(·(repeat (exact eN)));(·rfl);(·rfl))|((first|apply ex_move|apply ex_assign|apply ex_andT)<;>(first|exact eT rfl|exact eC))|((first|apply ex_slen|apply ex_orT)<;>(exact eT rfl))|((apply ex_subn)<;>(first|exact eT rfl|(constructor<;>omega))))))|(apply spl_stores;(·exact eT rfl);(·exact eT rfl);(·(repeat (exact Upd.here)));(·(rfl));(·(rfl));(·(assumption))))
              (apply ret_ok rfl;(·((apply Res.ofThree<;>(first|(apply Res1.tmp;(·rfl))|(apply Res1.cell;(·rfl);(·exact InH.mem);(·(rfl)))))))); rw [(num_next hd hp1 hp0 hj3).1 (.inr hhd)]; rfl
            | false =>
              have hb' : isWord b = false := (head_at hdj).symm.trans hhd
              rw [hb'] at hwb
              repeat (first|(apply sp_cond_f;(·exact eT rfl);(·(simp;done)))|(apply spl_callp_g rfl;(·exact Gd.tt rfl rfl);(·(repeat (first|exact eN|(apply eS;(·exact eT rfl)))));(·exact fun _ w' hh => hcb w'))|(apply spl_callp_g rfl;(·exact Gd.tt rfl rfl);(·(repeat (first|exact eN|(apply eS;(·exact eT rfl)))));(·exact fun _ w' hh => hwb w'))|apply then_n|apply sp_seq|apply sp_region|apply spl_nil|apply then_r|apply then_e|apply block_here|apply sp_skip|apply sp_ret|apply sp_exit|((first|apply spl_pure rfl|(apply spl_pure_g rfl;(·(first|exact Gd.tt rfl rfl|exact Gd.tf rfl rfl))));(·(first|(apply ex_gtrF h7';(·exact eT rfl);(·exact eC))|(apply ex_lssT hj0;(·exact eT rfl);(·exact eT rfl))|(apply ex_sindexE hltj hbj;(·exact eT rfl);(·exact eT rfl))|(apply ex_ssliceE (l:=(a:Int)) (h:=(j:Int)) (r:=t.extract a j) rfl hb3;(·exact eT rfl);(·exact eT rfl);(·exact eT rfl))|(apply ex_buildE (r:=tkC ⟨2, t.extract a j, a⟩);(·(repeat (first|exact eN|(apply eS;(·(first|exact eT rfl|exact eC))))));(·rfl);(·rfl))|((first|apply ex_move|apply ex_assign|apply ex_andT)<;>(first|exact eT rfl|exact eC))|((first|apply ex_slen|apply ex_orT)<;>(exact eT rfl))|((apply ex_subn)<;>(first|exact eT rfl|(constructor<;>omega))))))|(apply spl_stores;(·exact eT rfl);(·exact eT rfl);(·(repeat (exact Upd.here)));(·(rfl));(·(rfl));(·exact ones_of_all rfl)))
              (apply ret_ok rfl;(·((apply Res.ofThree<;>(first|(apply Res1.tmp;(·rfl))|(apply Res1.cell;(·rfl);(·exact InH.mem);(·(rfl)))))))); rw [(num_next hd hp1 hp0 hj3).2 (fun h => h.elim (fun h => h7 h) (fun h => by rw [hhd] at h; cases h))]; rfl
      · have hj0 : ¬ (j : Int) < (t.size : Int) := by omega
        rw [run_stop (j := j) (head_end (drop_end (by omega)))] at hj3
        have hb3 : (0 : Int) ≤ (a : Int) ∧ (a : Int) ≤ (j : Int) ∧ (j : Int) ≤ t.size := by omega
        have hhd : headIs isWord ((tx t).drop j) = false := head_end (drop_end (by omega))
        by_cases h7 : 7 < j - a
        · have h7' : (7 : Int) < (j : Int) - (a : Int) := by omega
          repeat (first|(apply sp_cond_t;(·exact eT rfl);(·(simp;done)))|(apply sp_cond_f;(·exact eT rfl);(·(simp;done)))|(apply spl_callp_g (v:=.bool false) rfl;(·(first|exact Gd.tt rfl rfl|exact Gd.gt rfl rfl));(·(repeat (first|exact eN|(apply eS;(·exact eG rfl)))));(·(intro hG;exact absurd hG Bool.false_ne_true)))|apply then_n|apply sp_seq|apply sp_region|apply spl_nil|apply then_r|apply then_e|apply block_here|apply sp_ret|apply sp_exit|((first|apply spl_pure rfl|(apply spl_pure_g rfl;(·(first|exact Gd.tt rfl rfl|exact Gd.tf rfl rfl|exact Gd.gt rfl rfl))));(·(first|(apply ex_gtrT h7';(·exact eT rfl);(·exact eC))|(apply ex_lssF hj0;(·(first|exact eT rfl|exact eG rfl));(·(first|exact eT rfl|exact eG rfl)))|(apply ex_index_dead rfl)|(apply ex_buildE (r:=tkC tk0);(·(repeat (exact eN)));(·rfl);(·rfl))|((first|apply ex_move|apply ex_assign|apply ex_andT)<;>(first|exact eT rfl|exact eC|exact eG rfl))|((first|apply ex_slen|apply ex_orT)<;>(first|exact eT rfl|exact eG rfl))|((apply ex_and)<;>(exact eG rfl))|((apply ex_subn)<;>(first|exact eT rfl|(constructor<;>omega))))))|(apply spl_stores;(·exact eT rfl);(·exact eT rfl);(·(repeat (exact Upd.here)));(·(rfl));(·(rfl));(·(assumption))))
          (apply ret_ok rfl;(·((apply Res.ofThree<;>(first|(apply Res1.tmp;(·rfl))|(apply Res1.cell;(·rfl);(·exact InH.mem);(·(rfl)))))))); rw [(num_next hd hp1 hp0 hj3).1 (.inl h7)]; rfl
        · have h7' : ¬ (7 : Int) < (j : Int) - (a : Int) := by omega
          repeat (first|(apply sp_cond_f;(·exact eT rfl);(·(simp;done)))|(apply spl_callp_g (v:=.bool false) rfl;(·exact Gd.tt rfl rfl);(·(repeat (first|exact eN|(apply eS;(·exact eG rfl)))));(·(intro hG;exact absurd hG Bool.false_ne_true)))|apply then_n|apply sp_seq|apply sp_region|apply spl_nil|apply then_r|apply then_e|apply block_here|apply sp_skip|apply sp_ret|apply sp_exit|((first|apply spl_pure rfl|(apply spl_pure_g rfl;(·(first|exact Gd.tt rfl rfl|exact Gd.tf rfl rfl))));(·(first|(apply ex_gtrF h7';(·exact eT rfl);(·exact eC))|(apply ex_lssF hj0;(·exact eT rfl);(·exact eT rfl))|(apply ex_index_dead rfl)|(apply ex_ssliceE (l:=(a:Int)) (h:=(j:Int)) (r:=t.extract a j) rfl hb3;(·exact eT rfl);(·exact eT rfl);(·exact eT rfl))|(apply ex_buildE (r:=tkC ⟨2, t.extract a j, a⟩);(·(repeat (first|exact eN|(apply eS;(·(first|exact eT rfl|exact eC))))));(·rfl);(·rfl))|((first|apply ex_move|apply ex_assign|apply ex_andT)<;>(first|exact eT rfl|exact eC|exact eG rfl))|((first|apply ex_slen|apply ex_orT)<;>(exact eT rfl))|((apply ex_subn)<;>(first|exact eT rfl|(constructor<;>omega))))))|(apply spl_stores;(·exact eT rfl);(·exact eT rfl);(·(repeat (exact Upd.here)));(·(rfl));(·(rfl));(·exact ones_of_all rfl)))
          (apply ret_ok rfl;(·((apply Res.ofThree<;>(first|(apply Res1.tmp;(·rfl))|(apply Res1.cell;(·rfl);(·exact InH.mem);(·(rfl)))))))); rw [(num_next hd hp1 hp0 hj3).2 (fun h => h.elim (fun h => h7 h) (fun h => by rw [hhd] at h; cases h))]; rfl
    | false =>
      rw [hp0] at hg
      by_cases h34 : c.toNat = 34
      · have h34' : (c.toNat : Int) = 34 := by omega
        have hs := fun w' : World => str_c (w := w') t ht a hlt
        obtain ⟨q1, q2⟩ := str_next hd hp1 hp0 h34
        cases hu : unqL ((tx t).drop (a + 1)) with
        | some p =>
          obtain ⟨q3, q4⟩ := q1 p hu
          rw [q4] at hs
          repeat (first|(apply sp_cond_t;(·exact eT rfl);(·(simp [*];done)))|(apply sp_cond_f;(·exact eT rfl);(·(simp;done)))|(apply spl_callp rfl;(·(repeat (first|exact eN|(apply eS;(·exact eT rfl)))));(·exact fun w' hh => hl w'))|(apply spl_callp rfl;(·(repeat (first|exact eN|(apply eS;(·exact eT rfl)))));(·exact fun w' hh => hg w'))|(apply spl_callp rfl;(·(repeat (first|exact eN|(apply eS;(·exact eT rfl)))));(·exact fun w' hh => hs w'))|apply then_n|apply sp_seq|apply sp_region|apply spl_nil|apply then_r|apply sp_skip|apply sp_ret|((apply spl_pure rfl);(·(first|(apply ex_buildE (r:=tkC ⟨3, ofL p.1, a⟩);(·(repeat (first|exact eN|(apply eS;(·(first|exact eT rfl|exact eC))))));(·rfl);(·rfl))|(apply ex_sindexE hlt hb;(·exact eT rfl);(·exact eT rfl))|((first|apply ex_move|apply ex_assign|apply ex_not|apply ex_seql)<;>(first|exact eT rfl|exact eC))|((apply ex_eql)<;>(first|exact eT rfl|exact eC))|((apply ex_addn)<;>(first|exact eT rfl|exact eC|(constructor<;>omega)))|(apply ex_extract<;>(first|exact eT rfl|rfl)))))|(apply spl_alloc rfl;intro _ _)|(apply spl_stores;(·exact eT rfl);(·exact eT rfl);(·(repeat (exact Upd.here)));(·(rfl));(·(rfl));(·exact ones_of_all rfl)))
          (apply ret_ok rfl;(·((apply Res.ofThree<;>(first|(apply Res1.tmp;(·rfl))|(apply Res1.cell;(·rfl);(·exact InH.mem);(·(rfl)))))))); rw [q3]; rfl
        | none =>
          obtain ⟨q3, q4⟩ := q2 hu
          rw [q4] at hs
          repeat (first|(apply sp_cond_t;(·exact eT rfl);(·(first|(simp;done)|(simp [*];done))))|(apply sp_cond_f;(·exact eT rfl);(·(simp;done)))|(apply spl_callp rfl;(·(repeat (first|exact eN|(apply eS;(·exact eT rfl)))));(·exact fun w' hh => hl w'))|(apply spl_callp rfl;(·(repeat (first|exact eN|(apply eS;(·exact eT rfl)))));(·exact fun w' hh => hg w'))|(apply spl_callp rfl;(·(repeat (first|exact eN|(apply eS;(·exact eT rfl)))));(·exact fun w' hh => hs w'))|apply then_n|apply sp_seq|apply sp_region|apply spl_nil|apply then_r|apply sp_skip|apply sp_ret|((apply spl_pure rfl);(·(first|(apply ex_sindexE hlt hb;(·exact eT rfl);(·exact eT rfl))|(apply ex_buildE (r:=tkC tk0);(·(repeat (exact eN)));(·rfl);(·rfl))|((first|apply ex_move|apply ex_assign|apply ex_not|apply ex_seql)<;>(first|exact eT rfl|exact eC))|((apply ex_eql)<;>(first|exact eT rfl|exact eC))|((apply ex_addn)<;>(first|exact eT rfl|exact eC|(constructor<;>omega)))|(apply ex_extract<;>(first|exact eT rfl|rfl)))))|(apply spl_alloc rfl;intro _ _)|(apply spl_stores;(·exact eT rfl);(·exact eT rfl);(·(repeat (exact Upd.here)));(·(rfl));(·(rfl));(·(assumption))))
          (apply ret_ok rfl;(·((apply Res.ofThree<;>(first|(apply Res1.tmp;(·rfl))|(apply Res1.cell;(·rfl);(·exact InH.mem);(·(rfl)))))))); rw [q3]; rfl
      · have h34' : ¬ (c.toNat : Int) = 34 := by omega
        have hs := fun w' : World => has_c (w := w') symbols (by decide) c
        rw [show hasB symbols c = isSym c from rfl] at hs
        obtain ⟨q1, q2⟩ := sym_next hd hp1 hp0 h34
        cases hu : isSym c with
        | true =>
          rw [hu] at hs
          have hb3 : (0 : Int) ≤ (a : Int) ∧ (a : Int) ≤ ((a + 1 : Nat) : Int) ∧ ((a + 1 : Nat) : Int) ≤ t.size := by omega
          repeat (first|(apply sp_cond_f;(·exact eT rfl);(·(first|(simp;done)|(simp [*];done))))|(apply spl_callp rfl;(·(repeat (first|exact eN|(apply eS;(·(first|exact eT rfl|exact eC))))));(·exact fun w' hh => hl w'))|(apply spl_callp rfl;(·(repeat (first|exact eN|(apply eS;(·(first|exact eT rfl|exact eC))))));(·exact fun w' hh => hg w'))|(apply spl_callp rfl;(·(repeat (first|exact eN|(apply eS;(·(first|exact eT rfl|exact eC))))));(·exact fun w' hh => hs w'))|apply then_n|apply sp_seq|apply sp_region|apply spl_nil|apply sp_skip|apply sp_ret|((apply spl_pure rfl);(·(first|(apply ex_addE (m:=(a:Int)) (n:=1) (r:=((a + 1 : Nat) : Int)) rfl;(·exact eT rfl);(·exact eC);(·omega))|(apply ex_ssliceE (l:=(a : Int)) (h:=((a + 1 : Nat) : Int)) (extract1 hb) hb3;(·exact eT rfl);(·exact eT rfl);(·exact eT rfl))|(apply ex_buildE (r:=tkC ⟨4, ofL [c], a⟩);(·(repeat (first|exact eN|(apply eS;(·(first|exact eT rfl|exact eC))))));(·rfl);(·rfl))|(apply ex_sindexE hlt hb;(·exact eT rfl);(·exact eT rfl))|((first|apply ex_move|apply ex_assign|apply ex_not|apply ex_seql)<;>(first|exact eT rfl|exact eC))|((apply ex_eql)<;>(first|exact eT rfl|exact eC)))))|(apply spl_alloc rfl;intro _ _)|(apply spl_stores;(·exact eT rfl);(·exact eT rfl);(·(repeat (exact Upd.here)));(·(rfl));(·(rfl));(·exact ones_of_all rfl)))
          (apply ret_ok rfl;(·((apply Res.ofThree<;>(first|(apply Res1.tmp;(·rfl))|(apply Res1.cell;(·rfl);(·exact InH.mem);(·(rfl)))))))); rw [q1 hu]; rfl
        | false =>
          rw [hu] at hs
          repeat (first|(apply sp_cond_t;(·exact eT rfl);(·(simp;done)))|(apply sp_cond_f;(·exact eT rfl);(·(first|(simp;done)|(simp [*];done))))|(apply spl_callp rfl;(·(repeat (first|exact eN|(apply eS;(·(first|exact eT rfl|exact eC))))));(·exact fun w' hh => hl w'))|(apply spl_callp rfl;(·(repeat (first|exact eN|(apply eS;(·(first|exact eT rfl|exact eC))))));(·exact fun w' hh => hg w'))|(apply spl_callp rfl;(·(repeat (first|exact eN|(apply eS;(·(first|exact eT rfl|exact eC))))));(·exact fun w' hh => hs w'))|apply then_n|apply sp_seq|apply sp_region|apply spl_nil|apply then_r|apply sp_skip|apply sp_ret|((apply spl_pure rfl);(·(first|(apply ex_sindexE hlt hb;(·exact eT rfl);(·exact eT rfl))|(apply ex_buildE (r:=tkC tk0);(·(repeat (exact eN)));(·rfl);(·rfl))|((first|apply ex_move|apply ex_assign|apply ex_not|apply ex_seql)<;>(first|exact eT rfl|exact eC))|((apply ex_eql)<;>(first|exact eT rfl|exact eC))|((apply ex_addn)<;>(first|exact eT rfl|exact eC|(constructor<;>omega))))))|(apply spl_alloc rfl;intro _ _)|(apply spl_stores;(·exact eT rfl);(·exact eT rfl);(·(repeat (exact Upd.here)));(·(rfl));(·(rfl));(·(assumption))))
          (apply ret_ok rfl;(·((apply Res.ofThree<;>(first|(apply Res1.tmp;(·rfl))|(apply Res1.cell;(·rfl);(·exact InH.mem);(·(rfl)))))))); rw [q2 hu]; rfl
end Go.Proofs.Ytfdjlphfohnnnaa
/-
  Contracts: the reference's Lex.
-/
namespace Go.Proofs.Ytfdjlphfohnnnaa
open Go.RowKit Go.Sy
set_option linter.unusedVariables false
set_option linter.unusedSimpArgs false
/-- Behind the gaps. -/
theorem gap_drop {t : ByteArray} {i : Nat} (hi : i ≤ t.size) : (tx t).drop (gapEnd t i) = skipM false ((tx t).drop i) ∧ i ≤ gapEnd t i ∧ gapEnd t i ≤ t.size := by
  obtain ⟨g, hg⟩ := skipM_suffix false ((tx t).drop i)
  have hl := congrArg List.length hg
  rw [List.length_drop, tx_len, List.length_append] at hl
  have hle := skipM_le false ((tx t).drop i)
  rw [List.length_drop, tx_len] at hle
  unfold gapEnd
  refine ⟨?_, by omega, by omega⟩
  have : t.size - (skipM false ((tx t).drop i)).length = i + g.length := by omega
  rw [this, ← List.drop_drop]
  conv => lhs; rw [hg]
  rw [List.drop_left]
theorem skip_skip (l : List UInt8) : skipM false (skipM false l) = skipM false l := by
  cases h : skipM false l with
  | nil => rfl
  | cons c r => exact skipM_idem h
theorem lexN_gapEnd {t : ByteArray} {i : Nat} (hi : i ≤ t.size) : lexN ((tx t).drop i) i = lexN ((tx t).drop (gapEnd t i)) (gapEnd t i) := by
  obtain ⟨h1, h2, h3⟩ := gap_drop hi
  have := lexN_skip (l := (tx t).drop i) (l' := (tx t).drop (gapEnd t i)) (a := i) (d := gapEnd t i - i) (by rw [h1, skip_skip]) (by rw [List.length_drop, List.length_drop, tx_len]; omega)
  rw [this]
  congr 1
  omega
def RL (t : ByteArray) (r : RowS) (pre : List Tk) (i : Nat) : Prop := i ≤ t.size ∧ skipM false ((tx t).drop i) = (tx t).drop i ∧ lexA t = (pre ++ (lexN ((tx t).drop i) i).1, (lexN ((tx t).drop i) i).2) ∧ r.ok 3 pre.length (flatT pre) ∧ pre.length ≤ 5000
theorem next_ok {t : ByteArray} {i : Nat} {c : UInt8} (hd : (tx t).drop i = c :: (tx t).drop (i + 1)) (hs : skipM false ((tx t).drop i) = (tx t).drop i) (hi : i < t.size) :
    (∃ k s n, nextR t i = (⟨k, ofL s, i⟩, i + n, 0) ∧ 1 ≤ n ∧ i + n ≤ t.size ∧ lexN ((tx t).drop i) i = (⟨k, ofL s, i⟩ :: (lexN ((tx t).drop (gapEnd t (i + n))) (gapEnd t (i + n))).1, (lexN ((tx t).drop (gapEnd t (i + n))) (gapEnd t (i + n))).2)) ∨ (∃ e, nextR t i = (tk0, 0, e) ∧ e ≠ 0 ∧ lexN ((tx t).drop i) i = ([], some (e, i))) := by
  have hn := nextR_at hd
  have hs' : skipM false ((tx t).drop i) = c :: (tx t).drop (i + 1) := by rw [hs, hd]
  obtain ⟨h1, h2⟩ := skipM_head _ _ _ _ hs'
  cases ht : tokC c ((tx t).drop (i + 1)) with
  | tok k s n =>
    rw [ht] at hn
    have hl := tokL_len c _ k s n ht
    rw [List.length_cons, List.length_drop, tx_len] at hl
    refine .inl ⟨k, s, n, hn, hl.1, by omega, ?_⟩
    rw [lexN_at hd h1 h2 ht, lexN_gapEnd (t := t) (i := i + n) (by omega)]
  | err e =>
    rw [ht] at hn
    exact .inr ⟨e, hn, tokC_err ht, lexN_at_err hd h1 h2 ht⟩
attribute [local irreducible] Calls thenQ blockQ retQ Spc Spl SplI SpcM Spq Ex Ev Evs Gd Upd ESub HKeep Res Res1 wlk effQ Rem SrcAt Split lexR
set_option maxRecDepth 100000 in
set_option maxHeartbeats 4000000 in
theorem refLex_c {w : World} (t : ByteArray) (ht : t.size < 1000000) : Calls Try.prog 33 #[.string t] w (RetH w (fun x : RowS => .tuple #[x.val (lexR t).1.length, .int .i64 (lexR t).2.1, .int .i64 (lexR t).2.2]) (fun x => x.hp (flatT (lexR t).1) 53) (fun x => x.ok 3 (lexR t).1.length (flatT (lexR t).1))) := by
  refine sp_enter (vs := [_]) Try.func33 rfl Try.ntmps33 rfl ?_
  have hone1 : ∀ x : Tk, ∀ v ∈ tkC x, v.oneCell' = true := fun x v hv => by simp [tkC] at hv; rcases hv with rfl | rfl | rfl <;> rfl
  have hone : ∀ (tk : Tk), ∀ u ∈ (tkC tk).toList, u.oneCell' = true := fun tk u hu => by simp [tkC] at hu; rcases hu with rfl | rfl | rfl <;> rfl
  have h0s : (tkC tk0).size = 3 := rfl
  by_cases hbig : 20000 < t.size
  · have hR := lexR_big hbig
    repeat (first|apply then_n|apply sp_seq|apply sp_region|apply spl_nil|apply then_r|((apply sp_cond_t);(·exact eT rfl);(·(exact decide_eq_true (by omega))))|apply sp_ret|((apply spl_pure rfl);(·(first|((first|apply ex_move|apply ex_assign|apply ex_gtr)<;>(first|exact eT rfl|exact eC))|((apply ex_slen)<;>(exact eT rfl))))))
    (apply retH_ok rfl;(·((apply Res.ofThree<;>((apply Res1.tmp;(·rfl)))))))
    rw [hR]
    exact ⟨RowS.start, rfl, ⟨rfl, rfl, rfl⟩, HKeep.nil⟩
  · obtain ⟨g1, g2, g3⟩ := gap_drop (t := t) (i := 0) (Nat.zero_le _)
    have hgp := fun w' : World => gap_c (w := w') t (by omega) 0 (Nat.zero_le _)
    repeat (first|(apply spl_callp rfl;(·(repeat (first|exact eN|(apply eS;(·(first|exact eT rfl|exact eC))))));(·exact fun w' hh => hgp w'))|apply then_n|apply sp_seq|apply sp_region|apply spl_nil|(apply sp_cond_f;(·exact eT rfl);(·(exact decide_eq_false (by omega))))|apply sp_skip|apply sp_block|((apply spl_pure rfl);(·(first|((first|apply ex_move|apply ex_assign|apply ex_gtr)<;>(first|exact eT rfl|exact eC))|((apply ex_slen)<;>(exact eT rfl))))))
    clear hgp
    refine sp_loop (X := RowS × List Tk × Nat) (fun x => [(5, true, x.1.val x.2.1.length), (6, true, .int .i64 (x.2.2 : Int)), (0, true, .string t)]) (fun _ => w) (fun x => x.1.hp (flatT x.2.1) 53)
      (fun x => RL t x.1 x.2.1 x.2.2 ∧ ∀ g, x.1.g = some g → w.heap.size ≤ g) (fun x => t.size - x.2.2) (RowS.start, [], gapEnd t 0) ⟨⟨g3, by rw [g1, skip_skip], by rw [lexA_N, ← lexN_gapEnd (Nat.zero_le _)]; rfl, ⟨rfl, rfl, rfl⟩, Nat.zero_le _⟩, fun g h => by cases h⟩ (by (repeat (first|exact ESub.nil|apply ESub.cons rfl))) rfl (by (repeat (exact HKeep.refl))) ?_
    clear g1 g2 g3
    rintro ⟨r, pre, i⟩ ⟨⟨hi, hs, hL, hok, hle⟩, hfr⟩
    replace hi : i ≤ t.size := hi
    replace hs : skipM false ((tx t).drop i) = (tx t).drop i := hs
    replace hL : lexA t = (pre ++ (lexN ((tx t).drop i) i).1, (lexN ((tx t).drop i) i).2) := hL
    replace hok : r.ok 3 pre.length (flatT pre) := hok
    replace hle : pre.length ≤ 5000 := hle
    replace hfr : ∀ g, r.g = some g → w.heap.size ≤ g := hfr
    dsimp only
    by_cases hlt : i < t.size
    · have hi0 : (i : Int) < (t.size : Int) := by omega
      obtain ⟨c, hb, hd⟩ := drop_at hlt
      have hnx := fun w' : World => rnext_c (w := w') t (by omega) i hlt
      rcases next_ok hd hs hlt with ⟨k, s, n, hn, hn1, hn2, hl⟩ | ⟨e, hn, he, hl⟩
      · rw [hn] at hnx
        obtain ⟨q1, q2, q3⟩ := gap_drop hn2
        have hgp := fun w' : World => gap_c (w := w') t (by omega) (i + n) hn2
        obtain ⟨tk, htk⟩ : ∃ tk : Tk, tk = ⟨k, ofL s, i⟩ := ⟨_, rfl⟩
        rw [← htk] at hnx hl
        have hon := hone tk
        have hon1 := hone1 tk
        have hz3 : (tkC tk).size = 3 := rfl
        rw [hl] at hL
        by_cases h5 : pre.length = 5000
        · have h5' : (pre.length : Int) = 5000 := by omega
          have hR := lexR_lim hbig (congrArg Prod.fst hL) h5
          have hpos : tk.pos = i := by rw [htk]
          repeat (first|(apply spl_callp rfl;(·(repeat (first|exact eN|(apply eS;(·exact eT rfl)))));(·exact fun w' hh => hnx w'))|apply sp_skip|apply then_n|apply sp_seq|apply sp_region|apply spl_nil|apply then_r|apply block_r|((apply sp_cond_t);(·exact eT rfl);(·(rfl)))|(apply sp_cond_f;(·exact eT rfl);(·(rfl)))|apply sp_ret|apply sp_block|((apply spl_pure rfl);(·(first|(apply ex_eqlT h5';(·exact eT rfl);(·exact eC))|(apply ex_lssT hi0;(·exact eT rfl);(·exact eT rfl))|((first|apply ex_move|apply ex_assign|apply ex_sneq|apply ex_len)<;>(first|exact eT rfl|exact eC))|((first|apply ex_neq|apply ex_slen)<;>(first|exact eT rfl|exact eC))|((apply ex_extract)<;>(first|exact eT rfl|rfl)))))|(apply spl_alloc rfl;intro _ _)|(apply spl_stores;(·exact eT rfl);(·exact eT rfl);(·(repeat (exact Upd.here)));(·(rfl));(·(rfl));(·(assumption))))
          (apply retH_ok rfl;(·((apply Res.ofThree<;>((apply Res1.tmp;(·rfl)))))))
          rw [hR, hpos]
          exact ⟨RowS.start, rfl, ⟨rfl, rfl, rfl⟩, by
            rcases r with ⟨_ | g, cap, tl⟩
            · exact HKeep.drop (by assumption) HKeep.nil
            · exact HKeep.drop (by assumption) (HKeep.drop (hfr g rfl) HKeep.nil)⟩
        · have h5' : ¬ (pre.length : Int) = 5000 := by omega
          have hI : ∀ r', RowS.ok r' 3 (pre.length + 1) (flatT (pre ++ [tk])) → RL t r' (pre ++ [tk]) (gapEnd t (i + n)) := fun r' h => ⟨q3, by rw [q1, skip_skip], by rw [hL]; simp, by simpa using h, by simp; omega⟩
          rcases r with ⟨_ | g, cap, tl⟩
          · obtain ⟨h0, rfl, hb0⟩ := hok
            repeat (first|(apply spl_callp rfl;(·(repeat (first|exact eN|(apply eS;(·exact eT rfl)))));(·exact fun w' hh => hnx w'))|(apply spl_callp rfl;(·(repeat (first|exact eN|(apply eS;(·exact eT rfl)))));(·exact fun w' hh => hgp w'))|apply then_n|apply block_n|apply sp_seq|apply sp_region|apply spl_nil|((apply sp_cond_t);(·exact eT rfl);(·(exact decide_eq_true (by omega))))|(apply sp_cond_f;(·exact eT rfl);(·(rfl)))|apply sp_skip|apply sp_block|((apply spl_pure rfl);(·(first|(apply ex_eqlF h5';(·exact eT rfl);(·exact eC))|(apply ex_lssT hi0;(·exact eT rfl);(·exact eT rfl))|(apply ex_loadowns (cs:=tkC tk);(·exact eT rfl);(·exact Bk.own InH.mem);(·rfl))|((first|apply ex_move|apply ex_assign|apply ex_sneq|apply ex_len)<;>(exact eT rfl))|((first|apply ex_neq|apply ex_slen)<;>(first|exact eT rfl|exact eC))|((apply ex_extract)<;>(first|exact eT rfl|rfl)))))|(apply spl_alloc rfl;intro _ _)|(apply spl_stores;(·exact eT rfl);(·exact eT rfl);(·(repeat (exact Upd.here)));(·(rfl));(·(rfl));(·(assumption)))|(apply spl_buildSlice rfl;(·rfl);(·(repeat (first|exact eN|(apply eS;(·exact eT rfl)))));(·rfl);(·rfl);(·rfl);intro _ _)|(refine spl_append_grow (olds := []) (news := (tkC tk).toList) (m := 1) (by (exact eT rfl)) (by (exact eT rfl)) (fun w' hh => CellsAt.nil) (by rw [h0]; rfl) (fun w' hh => SrcAt.slice (CellsAt.own hh.ownI (fun j u hj => by rw [List.getElem?_toArray]; exact hj)) rfl rfl hon) (Nat.succ_pos _) (by omega) rfl rfl rfl rfl ?_;intro gN capN tN hgN hcN hlN))
            refine ⟨(⟨some gN, capN, tN⟩, pre ++ [tk], gapEnd t (i + n)), ⟨hI _ ⟨?_, ?_, ?_⟩, ?_⟩, by show t.size - gapEnd t (i + n) < t.size - i; omega, ?_, rfl, ?_⟩
            · exact hcN
            · show (flatT (pre ++ [tk]) ++ tN).length = capN * 3
              rw [flatT_snoc, hb0]; exact hlN
            · rw [flatT_len]; simp
            · rintro g h; cases h; exact hgN
            · have : (pre ++ [tk]).length = pre.length + 1 := by simp
              show ESub [(5, true, RowS.val ⟨some gN, capN, tN⟩ (pre ++ [tk]).length), _, _] _
              rw [this]
              (repeat (first|exact ESub.nil|apply ESub.cons rfl))
            · show HKeep w [(gN, .cells (flatT (pre ++ [tk]) ++ tN).toArray 53 (0, 0))] _
              rw [flatT_snoc, hb0]
              (repeat (first|exact HKeep.refl|apply HKeep.keep|apply HKeep.drop (by first|assumption|omega)))
          · obtain ⟨h0, h1, h2⟩ := hok
            have h3 := hfr g rfl
            repeat (first|(apply spl_callp rfl;(·(repeat (first|exact eN|(apply eS;(·exact eT rfl)))));(·exact fun w' hh => hnx w'))|(apply spl_callp rfl;(·(repeat (first|exact eN|(apply eS;(·exact eT rfl)))));(·exact fun w' hh => hgp w'))|apply then_n|apply block_n|apply sp_seq|apply sp_region|apply spl_nil|((apply sp_cond_t);(·exact eT rfl);(·(rfl)))|(apply sp_cond_f;(·exact eT rfl);(·(rfl)))|apply sp_skip|apply sp_block|((apply spl_pure rfl);(·(first|(apply ex_eqlF h5';(·exact eT rfl);(·exact eC))|(apply ex_lssT hi0;(·exact eT rfl);(·exact eT rfl))|(apply ex_loadowns (cs:=tkC tk);(·exact eT rfl);(·exact Bk.own InH.mem);(·rfl))|((first|apply ex_move|apply ex_assign|apply ex_sneq|apply ex_len)<;>(exact eT rfl))|((first|apply ex_neq|apply ex_slen)<;>(first|exact eT rfl|exact eC))|((apply ex_extract)<;>(first|exact eT rfl|rfl)))))|(apply spl_alloc rfl;intro _ _)|(apply spl_stores;(·exact eT rfl);(·exact eT rfl);(·(repeat (exact Upd.here)));(·(rfl));(·(rfl));(·(assumption)))|(apply spl_buildSlice rfl;(·rfl);(·(repeat (first|exact eN|(apply eS;(·exact eT rfl)))));(·rfl);(·rfl);(·rfl);intro _ _)|(refine spl_append_own (xs := flatT pre) (tail := tl) (news := (tkC tk).toList) (m := 1) (by (exact eT rfl)) (by (exact eT rfl)) (by (repeat (first|exact Rem.here|apply Rem.there))) (by assumption) h2 h1 h0 (fun w' hh => SrcAt.slice (CellsAt.own hh.ownI (fun j u hj => by rw [List.getElem?_toArray]; exact hj)) rfl rfl hon) rfl (by omega) rfl rfl rfl rfl ?_;intro gN capN tN hgN hcN hlN))
            refine ⟨(⟨some gN, capN, tN⟩, pre ++ [tk], gapEnd t (i + n)), ⟨hI _ ⟨?_, ?_, ?_⟩, ?_⟩, by show t.size - gapEnd t (i + n) < t.size - i; omega, ?_, rfl, ?_⟩
            · exact hcN
            · show (flatT (pre ++ [tk]) ++ tN).length = capN * 3
              rw [flatT_snoc]; exact hlN
            · rw [flatT_len]; simp
            · rintro g h; cases h; exact hgN
            · have : (pre ++ [tk]).length = pre.length + 1 := by simp
              show ESub [(5, true, RowS.val ⟨some gN, capN, tN⟩ (pre ++ [tk]).length), _, _] _
              rw [this]
              (repeat (first|exact ESub.nil|apply ESub.cons rfl))
            · show HKeep w [(gN, .cells (flatT (pre ++ [tk]) ++ tN).toArray 53 (0, 0))] _
              rw [flatT_snoc]
              (repeat (first|exact HKeep.refl|apply HKeep.keep|apply HKeep.drop (by first|assumption|omega)))
      · rw [hn] at hnx
        rw [hl, List.append_nil] at hL
        have hei : ¬ (e : Int) = 0 := by omega
        have hgp := hnx
        obtain ⟨tk, htk⟩ : ∃ tk : Tk, tk = tk0 := ⟨_, rfl⟩
        have hon1 := hone1 tk0
        have hR := lexR_err hbig (by rw [hL]; exact hle) (congrArg Prod.snd hL)
        repeat (first|(apply spl_callp rfl;(·(repeat (first|exact eN|(apply eS;(·exact eT rfl)))));(·exact fun w' hh => hnx w'))|apply sp_skip|apply then_n|apply sp_seq|apply sp_region|apply spl_nil|apply then_r|apply block_r|((apply sp_cond_t);(·exact eT rfl);(·(rfl)))|apply sp_ret|apply sp_block|((apply spl_pure rfl);(·(first|(apply ex_neqT hei;(·exact eT rfl);(·exact eC))|(apply ex_lssT hi0;(·exact eT rfl);(·exact eT rfl))|((first|apply ex_move|apply ex_assign)<;>(first|exact eT rfl|exact eC))|((apply ex_slen)<;>(exact eT rfl))|((apply ex_extract)<;>(first|exact eT rfl|rfl)))))|(apply spl_alloc rfl;intro _ _)|(apply spl_stores;(·exact eT rfl);(·exact eT rfl);(·(repeat (exact Upd.here)));(·(rfl));(·(rfl));(·(assumption))))
        (apply retH_ok rfl;(·((apply Res.ofThree<;>((apply Res1.tmp;(·rfl)))))))
        rw [hR]
        exact ⟨RowS.start, rfl, ⟨rfl, rfl, rfl⟩, by
          rcases r with ⟨_ | g, cap, tl⟩
          · exact HKeep.drop (by assumption) HKeep.nil
          · exact HKeep.drop (by assumption) (HKeep.drop (hfr g rfl) HKeep.nil)⟩
    · rw [drop_end (by omega), lexN_nil rfl, List.append_nil] at hL
      have hR := lexR_done hbig (by rw [hL]; exact hle) (congrArg Prod.snd hL)
      rw [hL] at hR
      repeat (first|apply then_n|apply sp_seq|apply sp_region|apply spl_nil|apply then_e|apply block_here|(apply sp_cond_f;(·exact eT rfl);(·(exact decide_eq_false (by omega))))|apply sp_ret|apply sp_exit|((apply spl_pure rfl);(·(first|((first|apply ex_move|apply ex_assign|apply ex_lss)<;>(first|exact eT rfl|exact eC))|((apply ex_slen)<;>(exact eT rfl))))))
      (apply retH_ok rfl;(·((apply Res.ofThree<;>((apply Res1.tmp;(·rfl)))))))
      rw [hR]
      exact ⟨r, rfl, hok, HKeep.refl⟩
end Go.Proofs.Ytfdjlphfohnnnaa
/-
  Contracts of the reference's parser: Parse.
-/
namespace Go.Proofs.Ytfdjlphfohnnnaa
open Go.RowKit Go.Sy
set_option linter.unusedVariables false
set_option linter.unusedSimpArgs false
/-! What the pieces of a kind come to. -/
def hdC (t : Tk) (q : List Tk) : Bool := ((!isW wVehicle (t :: q)) && (!isW wKind (t :: q))) || !decide ((t.kind : Int) = 1)
theorem head_eq {en : Int} {t : Tk} {q : List Tk} : headP en (t :: q) = if hdC t q then .error (8, (t.pos : Int)) else .ok (isW wVehicle (t :: q), q) := by
  unfold headP hdC isTk isW
  by_cases h1 : (t.kind : Int) = 1
  · by_cases h2 : t.text = wVehicle
    · simp [h1, h2]
    · by_cases h3 : t.text = wKind
      · have h4 : ¬ wKind = wVehicle := by decide
        simp [h1, h2, h3, h4]
      · simp [h1, h2, h3, failP]
  · have h5 : ¬ (t.kind : Int) = ((1 : Nat) : Int) := h1
    simp [h1, failP]
def kind4 (a : ByteArray) (v : Bool) (ss : List PSlot) : PR → Except PE (PKind × List Tk)
  | .error e => .error e
  | .ok q => .ok (⟨a, v, ss⟩, q)
theorem kind_chain {K : List PKind} {en : Int} {t : Tk} {q : List Tk} {a : ByteArray} {v : Bool} {ss : List PSlot} {n1 : Except PE (ByteArray × List Tk)} {b1 : Except PE (List PSlot × List Tk)} {r1 : PR}
    (hr1 : r1 = dropR (headP en (t :: q))) (hv : ∀ x, headP en (t :: q) = .ok x → v = x.1) (h1 : onR r1 (nameP (freshC (K.map (·.name)) 60) en) = n1) (ha : ∀ x q', n1 = .ok (x, q') → a = x) (hb : onR (dropR n1) (bodyP K en) = b1) (hs : ∀ x q', b1 = .ok (x, q') → ss = x) :
    kindP K en (t :: q) = kind4 a v ss (onR (dropR b1) (fun q => wantP semi en q)) := by
  subst hr1 h1 hb
  unfold kindP
  cases hh : headP en (t :: q) with
  | error e => rfl
  | ok x =>
    obtain ⟨v', q1⟩ := x
    have := hv _ hh
    subst this
    rw [hh] at ha hs
    have ha' : ∀ x q', nameP (freshC (K.map (·.name)) 60) en q1 = .ok (x, q') → a = x := ha
    show (match nameP (freshC (K.map (·.name)) 60) en q1 with | .error e => .error e | .ok (nm, r) => _) = kind4 a v ss (onR (dropR (onR (dropR (nameP (freshC (K.map (·.name)) 60) en q1)) (bodyP K en))) fun q => wantP semi en q)
    have hs' : ∀ x q', onR (dropR (nameP (freshC (K.map (·.name)) 60) en q1)) (bodyP K en) = .ok (x, q') → ss = x := hs
    cases hn : nameP (freshC (K.map (·.name)) 60) en q1 with
    | error e => rfl
    | ok x =>
      obtain ⟨nm, q2⟩ := x
      have := ha' _ _ hn
      subst this
      rw [hn] at hs'
      have hs2 : ∀ x q', bodyP K en q2 = .ok (x, q') → ss = x := hs'
      show (match bodyP K en q2 with | .error e => .error e | .ok (ss, r) => _) = kind4 a v ss (onR (dropR (bodyP K en q2)) fun q => wantP semi en q)
      cases hb2 : bodyP K en q2 with
      | error e => rfl
      | ok z =>
        obtain ⟨s2, q3⟩ := z
        have := hs2 _ _ hb2
        subst this
        show (match wantP semi en q3 with | .error e => .error e | .ok r => _) = kind4 a v ss (wantP semi en q3)
        cases wantP semi en q3 <;> rfl
/-- Where the slots of a kind stand. -/
def slotsInv (K : List PKind) (en : Int) (B : Except PE (List PSlot × List Tk)) (ss : List PSlot) (more : Bool) : PR → Prop
  | .error e => B = .error e
  | .ok q => if more then ∃ f, q.length < f ∧ B = slotsP K en f ss q else B = .ok (ss, q)
theorem slots_step {K : List PKind} {en : Int} {B : Except PE (List PSlot × List Tk)} {ss : List PSlot} {q : List Tk} {sp : PSlot} {n : Except PE (PSlot × List Tk)} (h : slotsInv K en B ss true (.ok q)) (hn : slotP K en (ss.map (·.name)) q = n) (hs : ∀ x q', n = .ok (x, q') → sp = x) :
    slotsInv K en B (ss ++ [sp]) (match dropR n with | .ok q => isTk semi 4 q | .error _ => false) (match dropR n with | .ok q => if isTk semi 4 q then .ok q.tail else .ok q | .error e => .error e) := by
  obtain ⟨f, hf, hB⟩ := h
  obtain ⟨f', rfl⟩ : ∃ f', f = f' + 1 := ⟨f - 1, by omega⟩
  cases n with
  | error e => rw [slotsP_err hn] at hB; exact hB
  | ok z =>
    obtain ⟨s', q'⟩ := z
    have := hs _ _ rfl
    subst this
    rw [slotsP_ok hn] at hB
    have hl := slotP_len hn
    show slotsInv K en B (ss ++ [sp]) (isTk semi 4 q') (if isTk semi 4 q' then .ok q'.tail else .ok q')
    cases hi : isTk semi 4 q' with
    | true =>
      rw [hi, if_pos rfl] at hB
      rw [if_pos rfl]
      have := isTk_tail hi
      exact ⟨f', by omega, hB⟩
    | false =>
      rw [hi, if_neg (by decide)] at hB
      rw [if_neg (by decide)]
      exact hB
def bodyM (en : Int) : Except PE (List PSlot × List Tk) → Except PE (List PSlot × List Tk)
  | .error e => .error e
  | .ok (ss, r) => match wantP rpar en r with | .error e => .error e | .ok r => .ok (ss, r)
theorem body_chain {K : List PKind} {en : Int} {t : Tk} {q : List Tk} {B : Except PE (List PSlot × List Tk)} (hl : isTk lpar 4 (t :: q) = true) (hB : B = slotsP K en (t :: q).length [] q) :
    bodyP K en (t :: q) = bodyM en B := by
  subst hB
  unfold bodyP
  rw [if_pos hl]
  simp only [List.tail_cons]
  cases slotsP K en (t :: q).length [] q <;> rfl
/-- The tokens of a text. -/
theorem tok_NoNm {t x : ByteArray} (hx : nameL (tx x) = false) : NoNm (lexR t).1 x := by
  intro y hy hk heq
  have hg := lexN_good (en := (t.size : Int)) (tx t) 0 (by rw [tx_len]; omega)
  have hy2 : y ∈ (lexN (tx t) 0).1 := by
    unfold lexR at hy
    rw [lexA_N] at hy
    split at hy
    · cases hy
    · split at hy
      · cases hy
      · split at hy
        · exact hy
        · cases hy
  have := (hg y hy2).1 (by omega)
  rw [heq, hx] at this
  cases this
theorem Stt.start {L : List Tk} : Stt L (.ok L) ⟨0, 0, 0⟩ := ⟨⟨0, rfl, Nat.zero_le _, rfl⟩, rfl⟩
theorem Stt.err {L : List Tk} {e : PE} {y : RSt} (h : Stt L (.error e) y) : y.er = e.1 ∧ y.pos = e.2 ∧ y.er ≠ 0 := ⟨h.1, h.2.1, by rw [h.1]; exact h.2.2⟩
theorem Stt.er0 {L : List Tk} {q : List Tk} {y : RSt} (h : Stt L (.ok q) y) : y.er = 0 := h.2
theorem Stt.nil {L : List Tk} {y : RSt} (h : Stt L (.ok []) y) : ¬ y.i < (L.length : Int) := by
  obtain ⟨⟨k, h1, h2, h3⟩, h4⟩ := h
  have : L.length ≤ k := by
    rcases Nat.lt_or_ge k L.length with h5 | h5
    · have := congrArg List.length h3; rw [List.length_drop] at this; simp at this; omega
    · exact h5
  omega
def finInv (en : Int) (Fin : Except PE (List PKind)) (K : List PKind) : PR → Prop
  | .ok q => ∃ f, q.length ≤ f ∧ Fin = parseP en f K q
  | .error e => Fin = .error e
theorem fin_step {en : Int} {Fin : Except PE (List PKind)} {K : List PKind} {t : Tk} {q : List Tk} {a : ByteArray} {v : Bool} {ss : List PSlot} {r : PR} (h : finInv en Fin K (.ok (t :: q))) (hk : kindP K en (t :: q) = kind4 a v ss r) : finInv en Fin (K ++ [⟨a, v, ss⟩]) r ∧ meas r < meas (.ok (t :: q)) := by
  obtain ⟨f, hf, hF⟩ := h
  obtain ⟨f', rfl⟩ : ∃ f', f = f' + 1 := ⟨f - 1, by simp only [List.length_cons] at hf; omega⟩
  cases r with
  | error e => exact ⟨by rw [hF]; exact parseP_err hk, by simp [meas]⟩
  | ok q' =>
    have h1 := kindP_len hk
    simp only [List.length_cons] at hf h1
    refine ⟨⟨f', by omega, by rw [hF]; exact parseP_go hk⟩, ?_⟩
    show q'.length + 1 < (t :: q).length + 1
    simp only [List.length_cons]; omega
theorem InnerIn.add {HO HI : Heap} {ss : List SlotR} {x : SlotR} (h : InnerIn HI ss) (hx : StrIn HO x.ks x.kinds) : InnerIn (HO ++ HI) (ss ++ [x]) := by
  intro w hw y hy
  rcases List.mem_append.1 hy with hy | hy
  · exact h w (hw.sub fun p hp => List.mem_append.2 (.inr hp)) y hy
  · rw [List.mem_singleton] at hy
    subst hy
    exact ⟨hx.rd w (hw.sub fun p hp => List.mem_append.2 (.inl hp)), hx.cap⟩
theorem body_no {L : List Tk} {K : List PKind} {en : Int} {r : PR} {y : RSt} (hy : Stt L r y) (hN : NoNm L lpar) (hp : isR lpar r = false) : Out L (onR r (bodyP K en)) ([] : List PSlot) y := by
  have h1 := (skip_want (en := en) hy hN).2
  cases r with
  | error e => exact hy
  | ok q =>
    have h2 : isTk lpar 4 q = false := by rw [← hp]; exact h1.symm
    have h3 : bodyP K en q = .ok ([], q) := by unfold bodyP; rw [h2]; rfl
    show Out L (bodyP K en q) _ _
    rw [h3]
    exact ⟨rfl, hy⟩
theorem body_yes {L : List Tk} {K : List PKind} {en : Int} {t : Tk} {q : List Tk} {B : Except PE (List PSlot × List Tk)} {r : PR} {y y' : RSt} {ss : List PSlot} (hl : isTk lpar 4 (t :: q) = true) (hB : B = slotsP K en (t :: q).length [] q) (hy : Stt L r y) (hN : NoNm L rpar) (hI : slotsInv K en B ss false r) (hy' : Stt L (skipR en rpar r) y') : Out L (onR (.ok (t :: q)) (bodyP K en)) ss y' := by
  show Out L (bodyP K en (t :: q)) ss y'
  rw [body_chain hl hB]
  rw [(skip_want (en := en) hy hN).1] at hy'
  cases r with
  | error e =>
    have : B = .error e := hI
    subst this
    exact hy'
  | ok q1 =>
    have h1 : B = .ok (ss, q1) := hI
    rw [h1]
    have h2 : Stt L (wantP rpar en q1) y' := hy'
    show Out L (match wantP rpar en q1 with | .error e => .error e | .ok r => .ok (ss, r)) ss y'
    cases hw : wantP rpar en q1 with
    | error e => rw [hw] at h2; exact h2
    | ok q2 => rw [hw] at h2; exact ⟨rfl, h2⟩
theorem slots_end {K : List PKind} {en : Int} {B : Except PE (List PSlot × List Tk)} {ss : List PSlot} {more : Bool} {r : PR} (h : slotsInv K en B ss more r) (hm : more = false ∨ ∃ e, r = .error e) : slotsInv K en B ss false r := by
  rcases hm with rfl | ⟨e, rfl⟩
  · exact h
  · exact h
theorem meas_slot {K : List PKind} {en : Int} {names : List ByteArray} {q : List Tk} : meas (dropR (slotP K en names q)) < meas (.ok q) := by
  cases hn : slotP K en names q with
  | error e => show 0 < q.length + 1; omega
  | ok x =>
    have := slotP_len hn
    show x.2.length + 1 < q.length + 1
    omega
attribute [local irreducible] Calls thenQ blockQ retQ retFQ Spc Spl Spq Ex Ev Evs Gd Upd ESub HKeep Res Res1 wlk effQ wlkT effT wlkP effP Rem SrcAt Split Stt lexR hdC bodyP slotP kindP
set_option maxRecDepth 100000 in
set_option maxHeartbeats 16000000 in
theorem refParse_c {w : World} {t : ByteArray} (ht : t.size < 1000000) :
    Calls Try.prog 14 #[.string t] w (RetH w (fun y : Heap × Sl × List KindR => .tuple #[.agg #[.slice y.2.1.a y.2.1.n y.2.1.c], .int .i64 (parseR t).2.1, .int .i64 (parseR t).2.2]) (fun y => y.1) (fun y => CatIn y.1 y.2.1 y.2.2 ∧ y.2.2.map KindR.pure = (parseR t).1 ∧ y.2.1.n ≤ y.2.1.c)) := by
  have hlx := fun w' => refLex_c (w := w') t ht
  have hNm : ∀ z, nameL (tx z) = false → NoNm (lexR t).1 z := fun z hz => tok_NoNm hz
  have hLc : (lexR t).1.length ≤ 5000 := lexR_cnt t
  obtain ⟨L, E, AT, hR⟩ : ∃ L E AT, lexR t = (L, E, AT) := ⟨_, _, _, rfl⟩
  rw [hR] at hlx hNm hLc
  dsimp only at hlx hNm hLc
  refine sp_enter (vs := [_]) Try.func14 rfl Try.ntmps14 rfl ?_
  by_cases hE : E = 0
  · subst hE
    repeat (first|(apply spl_callh (X:=RowS) rfl;(·(repeat (first|exact eN|(apply eS;(·exact eT rfl)))));(·exact fun w' hh => hlx w');(rintro x hx hfx))|apply then_n|apply sp_seq|apply sp_region|apply spl_nil|(apply sp_cond_f;(·exact eT rfl);(·(rfl)))|apply sp_skip|apply sp_block|((apply spl_pure rfl);(·(first|(apply ex_buildE (r:=#[x.val L.length, .int .i64 0, .int .i64 (t.size : Int), .int .i64 0, .int .i64 0]);(·(repeat (first|exact eN|(apply eS;(·exact eT rfl)))));(·rfl);(·rfl))|((first|apply ex_move|apply ex_assign|apply ex_sneq)<;>(first|exact eT rfl|exact eC))|((first|apply ex_neq|apply ex_slen)<;>(first|exact eT rfl|exact eC))|((apply ex_extract)<;>(first|exact eT rfl|rfl)))))|(apply spl_box;(·exact eT rfl);(·rfl);intro _ _)|(apply spl_alloc rfl;intro _ _))
    rename_i g2 hg2 gp hgp g9 hg9
    obtain ⟨R0, hR0⟩ : ∃ q, q = x.hp (flatT L) 53 := ⟨_, rfl⟩
    rw [← hR0] at hfx ⊢
    have hfx' : ∀ p ∈ R0, w.heap.size ≤ p.1 := hfx
    have hT0 : TokIn R0 (slR x L.length) L := by
      rw [hR0]
      exact ⟨fun w1 hw1 => RdS.ofRowW (xs := L) (T := 53) hw1 rfl (by show L.length ≤ _; omega) (fun _ _ => rfl) hx, rfl, RowS.le hx⟩
    obtain ⟨Fin, hFin⟩ : ∃ F, F = parseP (t.size : Int) L.length [] L := ⟨_, rfl⟩
    have hPE : ∀ e, Fin = .error e → parseR t = ([], e.1, e.2) := by intro e h; unfold parseR; rw [hR]; simp only [if_true, ← hFin, h]
    have hPK : ∀ ks, Fin = .ok ks → parseR t = (ks, 0, 0) := by intro ks h; unfold parseR; rw [hR]; simp only [if_true, ← hFin, h]
    refine sp_loop (X := (RowS × RowS × Heap × List KindR) × PR × RSt) (fun y => [(10, true, y.1.2.1.val y.1.2.2.2.length), (9, true, .pointer (some ⟨g9, 0, none⟩)), (8, true, .pointer (some ⟨gp, 0, none⟩)), (5, true, x.val L.length), (2, true, .pointer (some ⟨g2, 0, none⟩))]) (fun _ => w)
      (fun y => (g9, .cells #[y.1.1.val y.1.2.2.2.length] 24 (0, 0)) :: RB gp (slR x L.length) (t.size : Int) y.2.2 :: (g2, .cells #[.slice none 0 0] 24 (0, 0)) :: (y.1.1.hp (flatKd y.1.2.2.2) 34 ++ (y.1.2.1.hp (flatS (y.1.2.2.2.map (·.name))) 9 ++ (y.1.2.2.1 ++ (R0 ++ [])))))
      (fun y => Stt L y.2.1 y.2.2 ∧ finInv (t.size : Int) Fin (y.1.2.2.2.map KindR.pure) y.2.1 ∧ y.1.1.ok 3 y.1.2.2.2.length (flatKd y.1.2.2.2) ∧ y.1.1.fresh w.heap.size ∧ y.1.2.1.ok 1 y.1.2.2.2.length (flatS (y.1.2.2.2.map (·.name))) ∧ y.1.2.1.fresh w.heap.size ∧ KInner y.1.2.2.1 y.1.2.2.2 ∧ FreshH w.heap.size y.1.2.2.1 ∧ y.1.2.2.2.length + meas y.2.1 ≤ 6000) (fun y => meas y.2.1)
      ((RowS.start, RowS.start, [], []), .ok L, ⟨0, 0, 0⟩) ⟨Stt.start, ⟨L.length, Nat.le_refl _, hFin⟩, RowS.ok_start, RowS.fresh_start, RowS.ok_start, RowS.fresh_start, (fun w1 _ y hy => by cases hy), (fun p hp => by cases hp), (by show 0 + (L.length + 1) ≤ 6000; omega)⟩ (by (repeat (first|exact ESub.nil|apply ESub.cons rfl))) rfl (by show HKeep w (_ :: _ :: _ :: ([] ++ ([] ++ ([] ++ (R0 ++ []))))) _; rw [List.nil_append, List.nil_append, List.nil_append]; (repeat (first|exact HKeep.refl|apply HKeep.keep|(apply HKeep.pick;(·(repeat (first|exact Rem.here|apply Rem.app))))))) ?_
    clear hx
    rintro ⟨⟨rk, rn, HI, ks⟩, r, y⟩ ⟨hy, hF, hrk, hfk, hrn, hfn, hIn, hfI, hM⟩
    dsimp only at hy hF hrk hfk hrn hfn hIn hfI hM ⊢
    have hrowk := RowS.drop (xs := flatKd ks) (T := 34) hfk
    have hrown := RowS.drop (xs := flatS (ks.map (·.name))) (T := 9) hfn
    have hfI' : ∀ p ∈ HI, w.heap.size ≤ p.1 := hfI
    have hsn : (slR x L.length).n = L.length := rfl
    cases r with
    | error e =>
      obtain ⟨he1, he2, he3⟩ := hy.err
      rw [hPE e hF]
      have c1 : decide (y.er = 0) = false := decide_eq_false he3
      have c2 : (!decide (y.er = 0)) = true := by rw [c1]; rfl
      repeat (first|(refine sp_drawn [(0, true), (1, true), (2, true), (3, true), (4, true), (5, true), (6, true), (7, true), (8, true), (9, false), (10, true), (11, true)] 12 [RB gp (slR x L.length) (t.size : Int) y] mixed ?_ ?_ ?_;(·kernel_rfl);(·(repeat (first|exact HKeep.refl|(apply HKeep.pick;(·(repeat (first|exact Rem.here|apply Rem.there))))|apply HKeep.drop (by first|assumption|omega)|apply HKeep.dropA (by assumption)))))|(apply sp_cond_f;(·exact eT rfl);(·(rw [c1];rfl)))|(apply sp_cond_t;(·exact eT rfl);(·exact c2))|apply then_n|apply sp_seq|apply sp_region|apply spl_nil|apply then_r|apply then_e|apply block_here|apply sp_ret|apply sp_exit|((first|apply spl_pure rfl|(apply spl_pure_g rfl;(·exact Gd.tt rfl rfl))|apply wlk_read rfl rfl);(·(first|((first|apply ex_move|apply ex_assign|apply ex_fieldAddr'|apply ex_lss|apply ex_seql|apply ex_sneq|apply ex_len|apply ex_andT|apply ex_nilCheck)<;>(first|exact eT rfl|exact eG rfl))|((first|apply ex_eql|apply ex_neq)<;>(first|exact eT rfl|exact eC))|((apply ex_loadown)<;>(first|exact eT rfl|exact eG rfl|exact Bk.own InH.mem|rfl))|(apply ex_build<;>(first|((repeat (exact eN));done)|rfl)))))|(apply spl_stores;(·exact eT rfl);(·exact eT rfl);(·(repeat (first|exact Upd.here|apply Upd.there)));(·(rfl));(·(rfl));(·exact ones_of_all rfl))|(apply effq;(·(intro h_;((repeat (first|exact HKeep.refl|(apply HKeep.pick;(·(repeat (first|exact Rem.here|apply Rem.there))))|apply HKeep.drop (by first|assumption|omega)|apply HKeep.dropA (by assumption)))))))|apply wlk_nil|apply wlk_eff rfl)
      (apply retH_ok rfl;(·((apply Res.ofThree<;>(first|(apply Res1.tmp;(·rfl))|(apply Res1.cell;(·rfl);(·exact InH.mem);(·(rfl))))))))
      exact ⟨([], ⟨none, 0, 0⟩, []), by rw [he1, he2]; rfl, ⟨fun w1 _ => ⟨RdS.none_, fun x hx => by cases hx⟩, rfl, Nat.le_refl _⟩, by (repeat (first|exact HKeep.refl|apply HKeep.drop (by first|assumption|omega)|apply HKeep.dropA (by assumption)))⟩
    | ok q =>
      have her := hy.er0
      cases q with
      | nil =>
        have hnl := hy.nil
        have hfin : Fin = .ok (ks.map KindR.pure) := by obtain ⟨f, -, h⟩ := hF; rw [h]; exact parseP_nil
        rw [hPK _ hfin]
        have c1 : decide (y.i < (L.length : Int)) = false := decide_eq_false hnl
        have c2 : (!decide (y.er = 0)) = false := by rw [her]; rfl
        repeat (first|(apply sp_cond_f;(·exact eT rfl);(·exact c2))|(apply sp_cond_f;(·exact eT rfl);(·(rw [c1];exact Bool.and_false _)))|apply then_n|apply sp_seq|apply sp_region|apply spl_nil|apply then_e|apply block_here|apply sp_skip|apply sp_ret|apply sp_exit|((first|apply spl_pure rfl|(apply spl_pure_g rfl;(·exact Gd.tt rfl rfl)));(·(first|((first|apply ex_move|apply ex_assign|apply ex_fieldAddr'|apply ex_lss|apply ex_seql|apply ex_sneq|apply ex_len|apply ex_andT|apply ex_nilCheck)<;>(first|exact eT rfl|exact eC|exact eG rfl))|((first|apply ex_eql|apply ex_neq)<;>(first|exact eT rfl|exact eC))|((apply ex_loadown)<;>(first|exact eT rfl|exact eG rfl|exact Bk.own InH.mem|rfl))|((apply ex_loadowns)<;>(first|exact eT rfl|exact Bk.own InH.mem|(rfl))))))|(apply spl_stores;(·exact eT rfl);(·exact eT rfl);(·(repeat (first|exact Upd.here|apply Upd.there)));(·(rfl));(·(rfl));(·exact ones_of_all rfl)))
        (apply retH_ok rfl;(·((apply Res.ofThree<;>(first|(apply Res1.tmp;(·rfl))|(apply Res1.cell;(·rfl);(·exact InH.mem);(·(rfl))))))))
        exact ⟨(rk.hp (flatKd ks) 34 ++ (HI ++ []), slR rk ks.length, ks), rfl, ⟨by rw [List.append_nil]; exact CatIn.row hrk (by omega) hIn, rfl, RowS.le hrk⟩, by (repeat (first|exact HKeep.refl|(apply HKeep.app;(·(repeat (first|exact Split.here|apply Split.cons|apply Split.app))))|apply HKeep.drop (by first|assumption|omega)|apply HKeep.dropA (by assumption)))⟩
      | cons tk q =>
        obtain ⟨kx, hkx, hkl, hLk⟩ := hy.at0
        rcases y with ⟨yi, ye, yp⟩
        dsimp only at hkx her
        subst hkx her
        have c7 : (decide ((0 : Int) = 0) && decide ((kx : Int) < (L.length : Int))) = true := by rw [decide_eq_true (show (kx : Int) < (L.length : Int) by omega)]; rfl
        obtain ⟨v, hv⟩ : ∃ v, isR wVehicle (.ok (tk :: q)) = v := ⟨_, rfl⟩
        obtain ⟨kd, hkd⟩ : ∃ v, isR wKind (.ok (tk :: q)) = v := ⟨_, rfl⟩
        have hisV := fun (w' : World) (q1 : w'.heap[gp]? = some (RB gp (slR x L.length) (t.size : Int) ⟨kx, 0, yp⟩).2) (q2 : Holds R0 w') => refis_c (x := wVehicle) q1 (hT0.rd w' q2) hy
        have hisK := fun (w' : World) (q1 : w'.heap[gp]? = some (RB gp (slR x L.length) (t.size : Int) ⟨kx, 0, yp⟩).2) (q2 : Holds R0 w') => refis_c (x := wKind) q1 (hT0.rd w' q2) hy
        rw [hv] at hisV
        rw [hkd] at hisK
        obtain ⟨hc, hhc⟩ : ∃ c, hdC tk q = c := ⟨_, rfl⟩
        have hcv : ((!v && !kd) || !decide ((tk.kind : Int) = 1)) = hc := by rw [← hhc, ← hv, ← hkd]; unfold hdC; rfl
        have hheq := head_eq (en := (t.size : Int)) (t := tk) (q := q)
        rw [hhc] at hheq
        refine spc_know (X := ∃ ad, (slR x L.length).a = some ad) (fun w' hh => by obtain ⟨ad, _, h1, _⟩ := (hT0.rd w' hh.holds).at_ (show kx < (slR x L.length).n from hkl); exact ⟨ad, h1⟩) fun hA => ?_
        obtain ⟨ad, hA⟩ := hA
        have hTa : ∀ w', Holds R0 w' → RdS w' w'.heap.size 3 tkC (slR x L.length).a (slR x L.length).n L := fun w' hw => hT0.rd w' hw
        repeat (first|(apply halt_at 46 (.bool v);(·rfl))|(apply sp_cond_t;(·exact eT rfl);(·exact c7))|(apply spl_callp rfl;(·(repeat (first|exact eN|(apply eS;(·(first|exact eT rfl|exact eC))))));(·exact fun w' hh => hisV w' hh.ownI hh.holds))|apply then_n|apply sp_seq|apply sp_region|apply spl_nil|apply sp_skip|apply sp_block|((first|apply spl_pure rfl|(apply spl_pure_g rfl;(·exact Gd.tt rfl rfl)));(·(first|((first|apply ex_move|apply ex_fieldAddr'|apply ex_lss|apply ex_seql|apply ex_len|apply ex_andT|apply ex_nilCheck)<;>(exact eT rfl))|((apply ex_eql)<;>(first|exact eT rfl|exact eC))|((apply ex_loadown)<;>(first|exact eT rfl|exact Bk.own InH.mem|rfl)))))|(apply spl_alloc rfl;intro _ _)|(apply spl_store1;(·exact eT rfl);(·exact eT rfl);(·rfl);(·(repeat (exact Upd.here)));(·rfl)))
        rename_i g11 hg11
        refine Halt.mk ?_
        refine spc_cut (X := RSt) (fun y' => [(11, true, .pointer (some ⟨g11, 0, none⟩)), (10, true, rn.val ks.length), (9, true, .pointer (some ⟨g9, 0, none⟩)), (8, true, .pointer (some ⟨gp, 0, none⟩)), (5, true, x.val L.length), (2, true, .pointer (some ⟨g2, 0, none⟩))])
          (fun y' => (g11, .cells #[.string ⟨#[]⟩, .bool v, .slice none 0 0] 34 (0, 0)) :: (g9, .cells #[rk.val ks.length] 24 (0, 0)) :: RB gp (slR x L.length) (t.size : Int) y' :: (g2, .cells #[.slice none 0 0] 24 (0, 0)) :: (rk.hp (flatKd ks) 34 ++ (rn.hp (flatS (ks.map (·.name))) 9 ++ (HI ++ (R0 ++ []))))) (fun y' => Stt L (if hc then failR (t.size : Int) 8 (.ok (tk :: q)) else .ok (tk :: q)) y') ?_ ?_
        · cases hc with
          | true =>
            repeat (first|(apply sp_cond_t;(·exact eT rfl);(·with_reducible exact hcv))|(apply spl_callp_g rfl;(·(first|exact Gd.none|exact Gd.tt rfl rfl));(·(repeat (first|exact eN|(apply eS;(·(first|exact eT rfl|exact eC|exact eG rfl))))));(·exact fun _ w' hh => hisK w' hh.ownI hh.holds))|(apply spl_callM (X:=RSt) (V:=fun _ => .tuple #[]) (A:=[RB gp (slR x L.length) (t.size : Int) ⟨kx, 0, yp⟩]) (AA:=fun y' => [RB gp (slR x L.length) (t.size : Int) y']) (I:=fun y' => Stt L (failR (t.size : Int) 8 (.ok (tk :: q))) y') rfl;(·(repeat (first|exact eN|(apply eS;(·(first|exact eT rfl|exact eC))))));(·(repeat (first|exact Split.one|apply Split.cons)));(·(simp only [List.cons_append, List.nil_append];exact fun w' q => reffail_c (e:=8) hT0 (fun p hp => InSub.sub p hp) (by decide) hy q));(rintro y1 hy1;simp only [List.cons_append, List.nil_append]))|apply then_n|apply sp_seq|apply sp_region|apply spl_nil|((first|apply spl_pure rfl|(apply spl_pure_g rfl;(·(first|exact Gd.tt rfl rfl|exact Gd.tf rfl rfl))));(·(first|(apply ex_loadfieldH (ad:=ad) (i:=kx) (k:=0) (y:=tk);(·exact eG rfl);(·exact fun w' hh => hTa w' hh.holds);(·exact hA);(·exact hLk);(·rfl))|((first|apply ex_move|apply ex_fieldAddr'|apply ex_not|apply ex_sneq|apply ex_andT|apply ex_nilCheck)<;>(first|exact eT rfl|exact eG rfl))|((first|apply ex_fieldAddr|apply ex_neq|apply ex_orT)<;>(first|exact eT rfl|exact eC|exact eG rfl))|((first|apply ex_loadown|apply ex_indexAddr)<;>(first|exact eT rfl|exact eG rfl|exact Bk.own InH.mem|rfl|assumption))))))
            exact ⟨y1, hy1, (by (repeat (first|exact ESub.nil|apply ESub.cons rfl))), rfl, (by (repeat (first|exact HKeep.refl|(apply HKeep.pick;(·(repeat (first|exact Rem.here|apply Rem.there)))))))⟩
          | false =>
            repeat (first|(apply sp_cond_f;(·exact eT rfl);(·with_reducible exact hcv))|(apply spl_callp_g rfl;(·exact Gd.tt rfl rfl);(·(repeat (first|exact eN|(apply eS;(·(first|exact eC|exact eG rfl))))));(·exact fun _ w' hh => hisK w' hh.ownI hh.holds))|apply then_n|apply sp_seq|apply sp_region|apply spl_nil|apply sp_skip|((first|apply spl_pure rfl|(apply spl_pure_g rfl;(·(first|exact Gd.tt rfl rfl|exact Gd.tf rfl rfl))));(·(first|(apply ex_loadfieldH (ad:=ad) (i:=kx) (k:=0) (y:=tk);(·exact eG rfl);(·exact fun w' hh => hTa w' hh.holds);(·exact hA);(·exact hLk);(·rfl))|((first|apply ex_move|apply ex_fieldAddr'|apply ex_not|apply ex_sneq|apply ex_andT|apply ex_nilCheck)<;>(first|exact eT rfl|exact eG rfl))|((first|apply ex_fieldAddr|apply ex_neq|apply ex_orT)<;>(first|exact eT rfl|exact eC|exact eG rfl))|((first|apply ex_loadown|apply ex_indexAddr)<;>(first|exact eT rfl|exact eG rfl|exact Bk.own InH.mem|rfl|assumption))))))
            exact ⟨⟨kx, 0, yp⟩, hy, (by (repeat (first|exact ESub.nil|apply ESub.cons rfl))), rfl, (by (repeat (exact HKeep.refl)))⟩
        rintro y1 hy1
        try dsimp only
        have hs1 : Stt L (dropR (headP (t.size : Int) (tk :: q))) y1.inc := by
          rw [hheq]
          cases hc with
          | true => exact hy1.inc
          | false => exact hy1.step (by omega)
        have hv1 : ∀ z, headP (t.size : Int) (tk :: q) = .ok z → v = z.1 := by
          intro z hz
          rw [hheq] at hz
          cases hc with
          | true => cases hz
          | false => cases hz; exact hv.symm
        clear hy hisV hisK hcv hheq c7 hy1
        obtain ⟨r1, hr1⟩ : ∃ r1, dropR (headP (t.size : Int) (tk :: q)) = r1 := ⟨_, rfl⟩
        rw [hr1] at hs1
        obtain ⟨K, hKe⟩ : ∃ K, ks.map KindR.pure = K := ⟨_, rfl⟩
        have hKn : K.map (·.name) = ks.map (·.name) := by rw [← hKe]; exact names_pure ks
        obtain ⟨n1, hn1⟩ : ∃ n1, onR r1 (nameP (freshC (ks.map (·.name)) 60) (t.size : Int)) = n1 := ⟨_, rfl⟩
        have hNin : StrIn (rn.hp (flatS (ks.map (·.name))) 9) (slR rn ks.length) (ks.map (·.name)) := ⟨fun w1 hw1 => RdS.ofRowW (C := strC) (sz := 1) (xs := ks.map (·.name)) (T := 9) hw1 (List.length_map ..) (by show ks.length ≤ _; omega) (fun _ _ => rfl) hrn, List.length_map .., RowS.le hrn⟩
        have hCat : ∀ R', (∀ p ∈ rk.hp (flatKd ks) 34, p ∈ R') → (∀ p ∈ HI, p ∈ R') → CatIn R' (slR rk ks.length) ks := fun R' h1 h2 w1 hw1 => CatIn.row hrk (by omega) hIn w1 (fun p hp => hw1 p ((List.mem_append.1 hp).elim (h1 p) (h2 p)))
        repeat (first|(apply halt_at 78 (.string a);(·rfl))|(apply spl_callM (X:=ByteArray × RSt) (V:=fun x => .string x.1) (A:=[RB gp (slR x L.length) (t.size : Int) y1.inc]) (AA:=fun z => [RB gp (slR x L.length) (t.size : Int) z.2]) (I:=fun z => Out L n1 z.1 z.2) rfl;(·(repeat (first|exact eN|(apply eS;(·(first|exact eT rfl|exact eC))))));(·(repeat (first|exact Split.one|apply Split.cons)));(·(simp only [List.cons_append, List.nil_append];exact fun w' q => hn1 ▸ reffresh_c (most:=60) (nl:=slR rn ks.length) hT0 (fun p hp => InSub.sub p hp) hs1 (by omega) (hNin.app (fun p hp => InSub.sub p hp)) q));(rintro ⟨a, y2⟩ ho2;dsimp only at ho2;simp only [List.cons_append, List.nil_append]))|apply then_n|apply sp_seq|apply sp_region|apply spl_nil|((apply spl_pure rfl);(·(first|(apply ex_add;(·exact eT rfl);(·exact eC))|((first|apply ex_move|apply ex_fieldAddr'|apply ex_nilCheck)<;>(exact eT rfl))|((apply ex_loadown)<;>(first|exact eT rfl|exact Bk.own InH.mem|rfl)))))|(apply spl_store1;(·exact eT rfl);(·exact eT rfl);(·rfl);(·(repeat (first|exact Upd.here|apply Upd.there)));(·rfl)))
        refine Halt.mk ?_
        have ho2' : ∀ z q', n1 = .ok (z, q') → a = z := fun z q' h => by rw [h] at ho2; exact ho2.1
        have hs2 := ho2.st
        obtain ⟨r2, hr2⟩ : ∃ r2, dropR n1 = r2 := ⟨_, rfl⟩
        rw [hr2] at hs2
        obtain ⟨b1, hb1⟩ : ∃ b1, onR r2 (bodyP K (t.size : Int)) = b1 := ⟨_, rfl⟩
        refine spc_cut (X := (RowS × Heap × List SlotR) × RSt) (fun z => [(11, true, .pointer (some ⟨g11, 0, none⟩)), (10, true, rn.val ks.length), (9, true, .pointer (some ⟨g9, 0, none⟩)), (8, true, .pointer (some ⟨gp, 0, none⟩)), (5, true, x.val L.length), (2, true, .pointer (some ⟨g2, 0, none⟩))])
          (fun z => (g11, .cells #[.string a, .bool v, z.1.1.val z.1.2.2.length] 34 (0, 0)) :: (g9, .cells #[rk.val ks.length] 24 (0, 0)) :: RB gp (slR x L.length) (t.size : Int) z.2 :: (g2, .cells #[.slice none 0 0] 24 (0, 0)) :: (z.1.1.hp (flatK z.1.2.2) 46 ++ (z.1.2.1 ++ (rk.hp (flatKd ks) 34 ++ (rn.hp (flatS (ks.map (·.name))) 9 ++ (HI ++ (R0 ++ [])))))))
          (fun z => Out L b1 (z.1.2.2.map SlotR.pure) z.2 ∧ z.1.1.ok 3 z.1.2.2.length (flatK z.1.2.2) ∧ z.1.1.fresh w.heap.size ∧ InnerIn z.1.2.1 z.1.2.2 ∧ FreshH w.heap.size z.1.2.1 ∧ z.1.2.2.length ≤ 6000) ?_ ?_
        ·
          repeat (first|(apply spl_callp rfl;(·(repeat (first|exact eN|(apply eS;(·(first|exact eT rfl|exact eC))))));(·exact fun w' hh => refis_c (x := lpar) (gp := gp) (s := slR x L.length) (en := (t.size : Int)) hh.ownI (hTa w' hh.holds) hs2))|apply then_n|apply sp_seq|apply sp_region|apply spl_nil|((apply spl_pure rfl);(·(((apply ex_move)<;>(exact eT rfl))))))
          refine sp_cond (eT rfl) (fun hp => ?_) (fun hp => ?_)
          · cases r2 with
            | error e => cases hp
            | ok q0 =>
              have hlw := (skip_want (en := (t.size : Int)) hs2 (hNm lpar (by decide))).2
              cases q0 with
              | nil => cases hp
              | cons t5 q5 =>
                have hlp : isTk lpar 4 (t5 :: q5) = true := by rw [← hp]; exact hlw.symm
                have hs3 := hs2.step (by omega)
                have hq5 := meas_drop hs3
                obtain ⟨B, hB⟩ : ∃ B, B = slotsP K (t.size : Int) (t5 :: q5).length [] q5 := ⟨_, rfl⟩
                have hSI : slotsInv K (t.size : Int) B [] true (.ok q5) := ⟨(t5 :: q5).length, by simp, hB⟩
                clear hlw
                repeat (first|apply then_n|apply sp_seq|apply sp_region|apply spl_nil|apply sp_block|((apply spl_pure rfl);(·(first|(apply ex_add;(·exact eT rfl);(·exact eC))|((first|apply ex_move|apply ex_assign|apply ex_fieldAddr'|apply ex_nilCheck)<;>(first|exact eT rfl|exact eC))|((apply ex_loadown)<;>(first|exact eT rfl|exact Bk.own InH.mem|rfl)))))|(apply spl_store1;(·exact eT rfl);(·exact eT rfl);(·rfl);(·(repeat (exact Upd.here)));(·rfl)))
                refine sp_loop (X := (RowS × RowS × Heap × List SlotR) × Bool × PR × RSt) (fun z => [(13, true, .bool z.2.1), (12, true, z.1.2.1.val z.1.2.2.2.length), (11, true, .pointer (some ⟨g11, 0, none⟩)), (10, true, rn.val ks.length), (9, true, .pointer (some ⟨g9, 0, none⟩)), (8, true, .pointer (some ⟨gp, 0, none⟩)), (5, true, x.val L.length), (2, true, .pointer (some ⟨g2, 0, none⟩))]) (fun _ => w)
                  (fun z => (g11, .cells #[.string a, .bool v, z.1.1.val z.1.2.2.2.length] 34 (0, 0)) :: (g9, .cells #[rk.val ks.length] 24 (0, 0)) :: RB gp (slR x L.length) (t.size : Int) z.2.2.2 :: (g2, .cells #[.slice none 0 0] 24 (0, 0)) :: (z.1.1.hp (flatK z.1.2.2.2) 46 ++ (z.1.2.1.hp (flatS (z.1.2.2.2.map (·.name))) 9 ++ (z.1.2.2.1 ++ (rk.hp (flatKd ks) 34 ++ (rn.hp (flatS (ks.map (·.name))) 9 ++ (HI ++ (R0 ++ []))))))))
                  (fun z => Stt L z.2.2.1 z.2.2.2 ∧ slotsInv K (t.size : Int) B (z.1.2.2.2.map SlotR.pure) z.2.1 z.2.2.1 ∧ z.1.1.ok 3 z.1.2.2.2.length (flatK z.1.2.2.2) ∧ z.1.1.fresh w.heap.size ∧ z.1.2.1.ok 1 z.1.2.2.2.length (flatS (z.1.2.2.2.map (·.name))) ∧ z.1.2.1.fresh w.heap.size ∧ InnerIn z.1.2.2.1 z.1.2.2.2 ∧ FreshH w.heap.size z.1.2.2.1 ∧ z.1.2.2.2.length + meas z.2.2.1 ≤ 6000)
                  (fun z => if z.2.1 then meas z.2.2.1 else 0) ((RowS.start, RowS.start, [], []), true, .ok q5, y2.inc) ⟨hs3, hSI, RowS.ok_start, RowS.fresh_start, RowS.ok_start, RowS.fresh_start, InnerIn.nil, (fun p hp => by cases hp), (by show 0 + meas (.ok q5) ≤ 6000; omega)⟩ (by (repeat (first|exact ESub.nil|apply ESub.cons rfl))) rfl (by show HKeep w (_ :: _ :: _ :: _ :: ([] ++ ([] ++ ([] ++ _)))) _; rw [List.nil_append, List.nil_append, List.nil_append]; (repeat (first|exact HKeep.refl|(apply HKeep.pick;(·(repeat (first|exact Rem.here|apply Rem.there))))))) ?_
                clear hs2 hs3 ho2 hSI hs1 hp
                clear y1 y2
                rintro ⟨⟨rs, rsn, HIs, ss⟩, more, r, y⟩ ⟨hy, hS, hrs, hfs, hrm, hfm, hIn2, hfI2, hM2⟩
                dsimp only at hy hS hrs hfs hrm hfm hIn2 hfI2 hM2 ⊢
                have hrows := RowS.drop (xs := flatK ss) (T := 46) hfs
                have hrowm := RowS.drop (xs := flatS (ss.map (·.name))) (T := 9) hfm
                have hfI2' : ∀ p ∈ HIs, w.heap.size ≤ p.1 := hfI2
                cases r with
                | error e =>
                  have hcf : (more && decide (y.er = 0)) = false := by rw [decide_eq_false hy.err.2.2]; exact Bool.and_false _
                  have hend : more = false ∨ ∃ e', (Except.error e : PR) = .error e' := .inr ⟨_, rfl⟩
                  obtain ⟨r, hrr⟩ : ∃ r : PR, r = .error e := ⟨_, rfl⟩
                  rw [← hrr] at hy hS hend
                  have hsl : ss.length ≤ 6000 := by omega
                  clear hM2
                  repeat (first|(apply sp_cond_f;(·exact eT rfl);(·exact hcf))|(apply spl_callM (X:=RSt) (V:=fun _ => .tuple #[]) (A:=[RB gp (slR x L.length) (t.size : Int) y]) (AA:=fun y' => [RB gp (slR x L.length) (t.size : Int) y']) (I:=fun y' => Stt L (skipR (t.size : Int) rpar r) y') rfl;(·(repeat (first|exact eN|(apply eS;(·(first|exact eT rfl|exact eC))))));(·(repeat (first|exact Split.one|apply Split.cons)));(·(simp only [List.cons_append, List.nil_append];exact fun w' q => refskip_c (x:=rpar) hT0 (fun p hp => InSub.sub p hp) hy (by omega) q));(rintro y7 hy7;simp only [List.cons_append, List.nil_append]))|apply then_n|apply sp_seq|apply sp_region|apply spl_nil|apply then_e|apply block_here|apply sp_exit|((first|apply spl_pure rfl|(apply spl_pure_g rfl;(·exact Gd.tt rfl rfl)));(·(first|((first|apply ex_move|apply ex_fieldAddr'|apply ex_seql|apply ex_andT|apply ex_nilCheck)<;>(first|exact eT rfl|exact eG rfl))|((apply ex_eql)<;>(first|exact eC|exact eG rfl))|((apply ex_loadown)<;>(first|exact eG rfl|exact Bk.own InH.mem|rfl))))))
                  exact ⟨((rs, HIs, ss), y7), ⟨(by rw [← hb1]; exact body_yes hlp hB hy (hNm rpar (by decide)) (slots_end hS hend) hy7), hrs, hfs, hIn2, hfI2, hsl⟩, (by (repeat (first|exact ESub.nil|apply ESub.cons rfl))), rfl, (by simp only [List.append_assoc]; (repeat (first|exact HKeep.refl|apply HKeep.keep|(apply HKeep.app;(·(repeat (first|exact Split.here|apply Split.app))))|(apply HKeep.pick;(·(repeat (first|exact Rem.here|apply Rem.there))))|apply HKeep.dropA (by assumption))))⟩
                | ok qs =>
                  have her2 := hy.er0
                  cases more with
                  | false =>
                    have hcf : (false && decide (y.er = 0)) = false := rfl
                    obtain ⟨r, hrr⟩ : ∃ r : PR, r = .ok qs := ⟨_, rfl⟩
                    have hend : false = false ∨ ∃ e', r = .error e' := .inl rfl
                    rw [← hrr] at hy hS
                    have hsl : ss.length ≤ 6000 := by omega
                    clear hM2
                    repeat (first|(apply sp_cond_f;(·exact eT rfl);(·exact hcf))|(apply spl_callM (X:=RSt) (V:=fun _ => .tuple #[]) (A:=[RB gp (slR x L.length) (t.size : Int) y]) (AA:=fun y' => [RB gp (slR x L.length) (t.size : Int) y']) (I:=fun y' => Stt L (skipR (t.size : Int) rpar r) y') rfl;(·(repeat (first|exact eN|(apply eS;(·(first|exact eT rfl|exact eC))))));(·(repeat (first|exact Split.one|apply Split.cons)));(·(simp only [List.cons_append, List.nil_append];exact fun w' q => refskip_c (x:=rpar) hT0 (fun p hp => InSub.sub p hp) hy (by omega) q));(rintro y7 hy7;simp only [List.cons_append, List.nil_append]))|apply then_n|apply sp_seq|apply sp_region|apply spl_nil|apply then_e|apply block_here|apply sp_exit|((first|apply spl_pure rfl|(apply spl_pure_g rfl;(·exact Gd.tt rfl rfl)));(·(first|((first|apply ex_move|apply ex_fieldAddr'|apply ex_seql|apply ex_andT|apply ex_nilCheck)<;>(first|exact eT rfl|exact eG rfl))|((apply ex_eql)<;>(first|exact eC|exact eG rfl))|((apply ex_loadown)<;>(first|exact eG rfl|exact Bk.own InH.mem|rfl))))))
                    exact ⟨((rs, HIs, ss), y7), ⟨(by rw [← hb1]; exact body_yes hlp hB hy (hNm rpar (by decide)) (slots_end hS hend) hy7), hrs, hfs, hIn2, hfI2, hsl⟩, (by (repeat (first|exact ESub.nil|apply ESub.cons rfl))), rfl, (by simp only [List.append_assoc]; (repeat (first|exact HKeep.refl|apply HKeep.keep|(apply HKeep.app;(·(repeat (first|exact Split.here|apply Split.app))))|(apply HKeep.pick;(·(repeat (first|exact Rem.here|apply Rem.there))))|apply HKeep.dropA (by assumption))))⟩
                  | true =>
                    have hct : (true && decide (y.er = 0)) = true := by rw [her2]; rfl
                    obtain ⟨n, hn⟩ : ∃ n, slotP K (t.size : Int) (ss.map (·.name)) qs = n := ⟨_, rfl⟩
                    have hms := meas_slot (K := K) (en := (t.size : Int)) (names := ss.map (·.name)) (q := qs)
                    rw [hn] at hms
                    have hNin2 : StrIn (rsn.hp (flatS (ss.map (·.name))) 9) (slR rsn ss.length) (ss.map (·.name)) := ⟨fun w1 hw1 => RdS.ofRowW (C := strC) (sz := 1) (xs := ss.map (·.name)) (T := 9) hw1 (List.length_map ..) (by show ss.length ≤ _; omega) (fun _ _ => rfl) hrm, List.length_map .., RowS.le hrm⟩
                    obtain ⟨Pm, hPm⟩ : ∃ Pm, isR semi (dropR n) = Pm := ⟨_, rfl⟩
                    have hisS := fun (y' : RSt) (hy' : Stt L (dropR n) y') (w' : World) (q1 : w'.heap[gp]? = some (RB gp (slR x L.length) (t.size : Int) y').2) (q2 : Holds R0 w') => refis_c (x := semi) q1 (hT0.rd w' q2) hy'
                    rw [hPm] at hisS
                    repeat (first|(apply sp_cond_t;(·exact eT rfl);(·exact hct))|(apply spl_callM (X:=Heap × SlotR × RSt) (V:=fun z => .agg z.2.1.cells) (A:=[RB gp (slR x L.length) (t.size : Int) y]) (AA:=fun z => RB gp (slR x L.length) (t.size : Int) z.2.2 :: z.1) (I:=fun z => Out L n z.2.1.pure z.2.2 ∧ StrIn z.1 z.2.1.ks z.2.1.kinds ∧ FreshH w.heap.size z.1) rfl;(·(repeat (first|exact eN|(apply eS;(·(first|exact eT rfl|exact eC))))));(·(repeat (first|exact Split.one|apply Split.cons|apply Split.app)));(·(rw [← hn, ← hKe];simp only [List.cons_append, List.nil_append];exact fun w' q => refslotP_c (k:=slR rk ks.length) (nl:=slR rsn ss.length) hT0 (fun p hp => InSub.sub p hp) hy (by omega) (hCat _ (fun p hp => InSub.sub p hp) (fun p hp => InSub.sub p hp)) (hNin2.app (fun p hp => InSub.sub p hp)) (hNm colon (by decide)) (hNm plus (by decide)) q));(rintro ⟨HO, x5, y5⟩ ⟨ho5, hk5, hf5⟩;dsimp only at ho5 hk5 hf5;have hf5' : ∀ p ∈ HO, w.heap.size ≤ p.1 := hf5;simp only [List.cons_append, List.nil_append]))|(apply spl_callp rfl;(·(repeat (first|exact eN|(apply eS;(·(first|exact eT rfl|exact eC))))));(·exact fun w' hh => hisS y5 ho5.st w' hh.ownI hh.holds))|apply then_n|apply sp_seq|apply sp_region|apply spl_nil|apply sp_skip|apply sp_block|((first|apply spl_pure rfl|(apply spl_pure_g rfl;(·exact Gd.tt rfl rfl)));(·(first|((first|apply ex_move|apply ex_assign|apply ex_fieldAddr'|apply ex_seql|apply ex_andT|apply ex_nilCheck)<;>(exact eT rfl))|((apply ex_eql)<;>(first|exact eT rfl|exact eC))|((apply ex_loadown)<;>(first|exact eT rfl|exact Bk.own InH.mem|rfl))|((apply ex_loadowns)<;>(first|exact eT rfl|exact Bk.own InH.mem|(rfl))))))|(apply spl_alloc rfl;intro _ _)|(apply spl_store1;(·exact eT rfl);(·exact eT rfl);(·rfl);(·(repeat (first|exact Upd.here|apply Upd.there|apply Upd.app)));(·rfl))|(apply spl_stores;(·exact eT rfl);(·exact eT rfl);(·(repeat (exact Upd.here)));(·(rfl));(·(rfl));(·exact Ones.one))|(apply spl_buildSlice rfl;(·rfl);(·(repeat (first|exact eN|(apply eS;(·exact eT rfl)))));(·rfl);(·rfl);(·rfl);intro _ _)|(refine spl_append_row (r := rs) (n := ss.length) (xs := flatK ss) (news := x5.cells.toList) (m := 1) (by (exact eT rfl)) (by (exact eT rfl)) (by (repeat (first|exact Split.here|apply Split.cons|apply Split.app))) hrs hfs (by omega) (fun w' hh => SrcAt.slice (CellsAt.own hh.ownI (fun j u hj => by rw [List.getElem?_toArray]; exact hj)) rfl rfl (fun u hu => (Ones.one : ∀ v ∈ x5.cells, v.oneCell' = true) u (by simpa using hu))) rfl (by omega) rfl rfl rfl rfl ?_;intro rs2 hrs2 hfs2;have hrows2 := RowS.drop (xs := flatK ss ++ x5.cells.toList) (T := 46) hfs2)|(refine spl_append_row (r := rsn) (n := ss.length) (xs := flatS (ss.map (·.name))) (news := (strC x5.name).toList) (m := 1) (by (exact eT rfl)) (by (exact eT rfl)) (by (repeat (first|exact Split.here|apply Split.cons|apply Split.app))) hrm hfm (by omega) (fun w' hh => SrcAt.slice (CellsAt.own hh.ownI (fun j u hj => by rw [List.getElem?_toArray]; exact hj)) rfl rfl (fun v hv => by simp [strC] at hv; subst hv; rfl)) rfl (by omega) rfl rfl rfl rfl ?_;intro rm2 hrm2 hfm2;have hrowm2 := RowS.drop (xs := flatS (ss.map (·.name)) ++ (strC x5.name).toList) (T := 9) hfm2))
                    have hl1 : (ss ++ [x5]).length = ss.length + 1 := by simp
                    have hnm2 : ss.map (·.name) ++ [x5.name] = (ss ++ [x5]).map (·.name) := by simp
                    have hpu : ss.map SlotR.pure ++ [x5.pure] = (ss ++ [x5]).map SlotR.pure := by simp
                    have hstep := slots_step (n := n) (sp := x5.pure) hS (by rw [snames_pure]; exact hn) (fun z q' h => by rw [h] at ho5; exact ho5.1)
                    have hsw := (skip_want (en := (t.size : Int)) ho5.st (hNm semi (by decide))).2
                    rw [hpu] at hstep
                    rw [flatK_snoc] at hrs2 hrows2 ⊢
                    rw [flatS_snoc, hnm2] at hrm2 hrowm2 ⊢
                    rw [← hl1] at hrs2 hrm2 ⊢
                    cases Pm with
                    | true =>
                      cases hdn : dropR n with
                      | error e => rw [hdn] at hPm; cases hPm
                      | ok q6 =>
                        cases q6 with
                        | nil => rw [hdn] at hPm; cases hPm
                        | cons t6 q6 =>
                          have hy6 := ho5.st
                          rw [hPm, hdn] at hsw
                          rw [hdn] at hy6 hstep hms
                          have hst : isTk semi 4 (t6 :: q6) = true := hsw.symm
                          have hstep' : slotsInv K (t.size : Int) B ((ss ++ [x5]).map SlotR.pure) (isTk semi 4 (t6 :: q6)) (if isTk semi 4 (t6 :: q6) then .ok q6 else .ok (t6 :: q6)) := hstep
                          rw [hst, if_pos rfl] at hstep'
                          have hy7 := hy6.step (by omega)
                          have hms1 : q6.length + 1 < qs.length := by simp only [meas, List.length_cons] at hms; omega
                          have hM3 : ss.length + (qs.length + 1) ≤ 6000 := hM2
                          repeat (first|(apply sp_cond_t;(·exact eT rfl);(·rfl))|apply then_n|apply block_n|apply sp_region|apply spl_nil|((apply spl_pure rfl);(·(first|(apply ex_add;(·exact eT rfl);(·exact eC))|((first|apply ex_move|apply ex_fieldAddr'|apply ex_nilCheck)<;>(exact eT rfl))|((apply ex_loadown)<;>(first|exact eT rfl|exact Bk.own InH.mem|rfl)))))|(apply spl_store1;(·exact eT rfl);(·exact eT rfl);(·rfl);(·(repeat (first|exact Upd.here|apply Upd.there|apply Upd.app)));(·rfl)))
                          exact ⟨((rs2, rm2, HO ++ HIs, ss ++ [x5]), true, .ok q6, y5.inc), ⟨hy7, hstep', hrs2, hfs2, hrm2, hfm2, hIn2.add hk5, hf5.app hfI2, by show (ss ++ [x5]).length + (q6.length + 1) ≤ 6000; omega⟩, (by show q6.length + 1 < qs.length + 1; omega), (by (repeat (first|exact ESub.nil|apply ESub.cons rfl))), rfl, (by simp only [List.append_assoc]; (repeat (first|exact HKeep.refl|(apply HKeep.app;(·(repeat (first|exact Split.here|apply Split.cons|apply Split.app))))|(apply HKeep.pick;(·(repeat (first|exact Rem.here|apply Rem.there|apply Rem.app))))|apply HKeep.drop (by first|assumption|omega))))⟩
                    | false =>
                      have hS7 : slotsInv K (t.size : Int) B ((ss ++ [x5]).map SlotR.pure) false (dropR n) := by
                        rw [hPm] at hsw
                        cases hdn : dropR n with
                        | error e => rw [hdn] at hstep; exact hstep
                        | ok q6 =>
                          rw [hdn] at hstep hsw
                          have hst : isTk semi 4 q6 = false := hsw.symm
                          have hstep' : slotsInv K (t.size : Int) B ((ss ++ [x5]).map SlotR.pure) (isTk semi 4 q6) (if isTk semi 4 q6 then .ok q6.tail else .ok q6) := hstep
                          rw [hst, if_neg (by decide)] at hstep'
                          exact hstep'
                      have hM3 : ss.length + (qs.length + 1) ≤ 6000 := hM2
                      have hms2 : meas (dropR n) < qs.length + 1 := hms
                      repeat (first|(apply sp_cond_f;(·exact eT rfl);(·rfl))|apply then_n|apply block_n|apply sp_skip)
                      exact ⟨((rs2, rm2, HO ++ HIs, ss ++ [x5]), false, dropR n, y5), ⟨ho5.st, hS7, hrs2, hfs2, hrm2, hfm2, hIn2.add hk5, hf5.app hfI2, by show (ss ++ [x5]).length + meas (dropR n) ≤ 6000; omega⟩, (by show 0 < qs.length + 1; omega), (by (repeat (first|exact ESub.nil|apply ESub.cons rfl))), rfl, (by simp only [List.append_assoc]; (repeat (first|exact HKeep.refl|(apply HKeep.app;(·(repeat (first|exact Split.here|apply Split.cons|apply Split.app))))|(apply HKeep.pick;(·(repeat (first|exact Rem.here|apply Rem.there|apply Rem.app))))|apply HKeep.drop (by first|assumption|omega))))⟩
          · have hno := body_no (K := K) (en := (t.size : Int)) hs2 (hNm lpar (by decide)) hp
            rw [hb1] at hno
            repeat (first|apply then_n|apply sp_skip)
            exact ⟨((RowS.start, [], []), y2), ⟨hno, RowS.ok_start, RowS.fresh_start, InnerIn.nil, (fun p hp => by cases hp), Nat.zero_le _⟩, (by (repeat (first|exact ESub.nil|apply ESub.cons rfl))), rfl, (by show HKeep w (_ :: _ :: _ :: _ :: ([] ++ ([] ++ _))) _; rw [List.nil_append, List.nil_append]; (repeat (first|exact HKeep.refl|(apply HKeep.pick;(·(repeat (first|exact Rem.here|apply Rem.there)))))))⟩
        clear hs2 ho2 hs1
        clear y1 y2
        rintro ⟨⟨rs, HIs, ss⟩, y5⟩ ⟨ho5, hrs, hfs, hIn2, hfI2, hsl⟩
        dsimp only at ho5 hrs hfs hIn2 hfI2 hsl ⊢
        have hrows := RowS.drop (xs := flatK ss) (T := 46) hfs
        have hfI2' : ∀ p ∈ HIs, w.heap.size ≤ p.1 := hfI2
        obtain ⟨kr, hkr⟩ : ∃ kr : KindR, kr = ⟨a, v, slR rs ss.length, ss⟩ := ⟨_, rfl⟩
        have hkc : kr.cells = #[.string a, .bool v, rs.val ss.length] := by rw [hkr]; rfl
        obtain ⟨r6, hr6⟩ : ∃ r6, skipR (t.size : Int) semi (dropR b1) = r6 := ⟨_, rfl⟩
        have hksz : ks.length ≤ 6000 := by omega
        repeat (first|(apply spl_callM (X:=RSt) (V:=fun _ => .tuple #[]) (A:=[RB gp (slR x L.length) (t.size : Int) y5]) (AA:=fun y' => [RB gp (slR x L.length) (t.size : Int) y']) (I:=fun y' => Stt L r6 y') rfl;(·(repeat (first|exact eN|(apply eS;(·(first|exact eT rfl|exact eC))))));(·(repeat (first|exact Split.one|apply Split.cons)));(·(rw [← hr6];simp only [List.cons_append, List.nil_append];exact fun w' q => refskip_c (x:=semi) hT0 (fun p hp => InSub.sub p hp) ho5.st (by omega) q));(rintro y7 hy7;simp only [List.cons_append, List.nil_append]))|apply then_n|apply block_n|apply sp_seq|apply sp_region|apply spl_nil|((apply spl_pure rfl);(·(first|((first|apply ex_move|apply ex_assign|apply ex_fieldAddr')<;>(exact eT rfl))|((apply ex_loadown)<;>(first|exact eT rfl|exact Bk.own InH.mem|rfl))|((apply ex_loadowns)<;>(first|exact eT rfl|exact Bk.own InH.mem|(rfl))))))|(apply spl_store1;(·exact eT rfl);(·exact eT rfl);(·rfl);(·(repeat (first|exact Upd.here|apply Upd.there|apply Upd.app)));(·rfl))|(apply spl_buildSlice rfl;(·rfl);(·(repeat (first|exact eN|(apply eS;(·exact eT rfl)))));(·rfl);(·rfl);(·rfl);intro _ _)|(refine spl_append_row (r := rn) (n := ks.length) (xs := flatS (ks.map (·.name))) (news := (strC a).toList) (m := 1) (by (exact eT rfl)) (by (exact eT rfl)) (by (repeat (first|exact Split.here|apply Split.cons|apply Split.app))) hrn hfn (by omega) (fun w' hh => SrcAt.slice (CellsAt.own hh.ownI (fun j u hj => by rw [List.getElem?_toArray]; exact hj)) rfl rfl (fun v hv => by simp [strC] at hv; subst hv; rfl)) rfl (by omega) rfl rfl rfl rfl ?_;intro rn2 hrn2 hfn2;have hrown2 := RowS.drop (xs := flatS (ks.map (·.name)) ++ (strC a).toList) (T := 9) hfn2)|(refine spl_append_row (r := rk) (n := ks.length) (xs := flatKd ks) (news := #[.string a, .bool v, rs.val ss.length].toList) (m := 1) (by (exact eT rfl)) (by (exact eT rfl)) (by (repeat (first|exact Split.here|apply Split.cons|apply Split.app))) hrk hfk (by omega) (fun w' hh => SrcAt.slice (CellsAt.own hh.ownI (fun j u hj => by rw [List.getElem?_toArray]; exact hj)) rfl rfl (fun u hu => (Ones.one : ∀ v ∈ kr.cells, v.oneCell' = true) u (by rw [hkc]; simpa using hu))) rfl (by omega) rfl rfl rfl rfl ?_;intro rk2 hrk2 hfk2;have hrowk2 := RowS.drop (xs := flatKd ks ++ #[.string a, .bool v, rs.val ss.length].toList) (T := 34) hfk2))
        have hkl : flatKd ks ++ #[.string a, .bool v, rs.val ss.length].toList = flatKd (ks ++ [kr]) := by rw [← flatKd_snoc, hkc]
        rw [hkl] at hrk2 hrowk2 ⊢
        have hka : kr.name = a := by rw [hkr]
        have hnm2 : ks.map (·.name) ++ [a] = (ks ++ [kr]).map (·.name) := by simp [hka]
        rw [flatS_snoc, hnm2] at hrn2 hrown2 ⊢
        have hl1 : (ks ++ [kr]).length = ks.length + 1 := by simp
        rw [← hl1] at hrk2 hrn2 ⊢
        have hown : KindOwn (rs.hp (flatK ss) 46 ++ HIs) kr := by
          rw [hkr]
          exact fun w1 hw1 => ⟨RdS.ofRowW (xs := ss) (T := 46) (fun p hp => hw1 p (List.mem_append.2 (.inl hp))) rfl (by show ss.length ≤ _; omega) (fun _ _ => rfl) hrs, hIn2 w1 (hw1.sub fun p hp => List.mem_append.2 (.inr hp))⟩
        have hwant := (skip_want (en := (t.size : Int)) ho5.st (hNm semi (by decide))).1
        rw [hr6] at hwant
        have hkp := kind_chain (n1 := n1) (b1 := b1) (a := a) (v := v) (ss := ss.map SlotR.pure) hr1.symm hv1 (by rw [hKn]; exact hn1) ho2' (by rw [hr2]; exact hb1) (fun z q' h => by rw [h] at ho5; exact ho5.1)
        rw [← hwant] at hkp
        rw [hKe] at hF
        obtain ⟨hF2, hms⟩ := fin_step hF hkp
        have hpk : K ++ [⟨a, v, ss.map SlotR.pure⟩] = (ks ++ [kr]).map KindR.pure := by rw [List.map_append, hKe, hkr]; rfl
        rw [hpk] at hF2
        exact ⟨((rk2, rn2, (rs.hp (flatK ss) 46 ++ HIs) ++ HI, ks ++ [kr]), r6, y7), ⟨hy7, hF2, hrk2, hfk2, hrn2, hfn2, hIn.snoc hown, FreshH.app (FreshH.app hrows hfI2) hfI, by show (ks ++ [kr]).length + meas r6 ≤ 6000; omega⟩, hms, (by (repeat (first|exact ESub.nil|apply ESub.cons rfl))), rfl, (by simp only [List.append_assoc]; (repeat (first|exact HKeep.refl|(apply HKeep.app;(·(repeat (first|exact Split.here|apply Split.cons))))|(apply HKeep.pick;(·(repeat (first|exact Rem.here|apply Rem.there|apply Rem.app))))|apply HKeep.drop (by first|assumption|omega))))⟩
  · have hp : parseR t = ([], E, AT) := by unfold parseR; rw [hR]; simp only [if_neg hE]
    rw [hp]
    repeat (first|(apply spl_callh (X:=RowS) rfl;(·(repeat (first|exact eN|(apply eS;(·exact eT rfl)))));(·exact fun w' hh => hlx w');(rintro x hx hfx))|(apply sp_cond_t;(·exact eT rfl);(·(simp [hE])))|apply then_n|apply sp_seq|apply sp_region|apply spl_nil|apply then_r|apply sp_ret|((apply spl_pure rfl);(·(first|((first|apply ex_move|apply ex_assign|apply ex_sneq)<;>(first|exact eT rfl|exact eC))|((apply ex_neq)<;>(first|exact eT rfl|exact eC))|((apply ex_extract)<;>(first|exact eT rfl|rfl))|(apply ex_build<;>(first|((repeat (exact eN));done)|rfl)))))|(apply spl_alloc rfl;intro _ _)|(apply spl_stores;(·exact eT rfl);(·exact eT rfl);(·(repeat (first|exact Upd.here|apply Upd.app)));(·(rfl));(·(rfl));(·exact ones_of_all rfl)))
    (apply retH_ok rfl;(·((apply Res.ofThree<;>(first|(apply Res1.tmp;(·rfl))|(apply Res1.cell;(·rfl);(·exact InH.mem);(·(rfl))))))))
    exact ⟨([], ⟨none, 0, 0⟩, []), rfl, ⟨fun w1 _ => ⟨RdS.none_, fun x hx => by cases hx⟩, rfl, Nat.le_refl _⟩, by (repeat (first|exact HKeep.refl|apply HKeep.drop (by first|assumption|omega)|apply HKeep.dropA (by assumption)))⟩
end Go.Proofs.Ytfdjlphfohnnnaa
