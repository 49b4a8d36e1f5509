/-
  The fixed examples of the laws about the disk: they come out as told.
-/
import Derived.Test.YtmlodiiijicghaaD7
import Derived.KernelRfl
namespace Go.Proofs.Ytmlodiiijicghaa
open Go.RowKit Go.Sy
set_option linter.unusedVariables false
set_option linter.unusedSimpArgs false

def cA : ByteArray := ActR.full ⟨0, 0, 0, ⟨#[97]⟩, false, 0⟩
def cB : ByteArray := ActR.full ⟨0, 0, 0, ⟨#[98]⟩, false, 0⟩
def cZ : ByteArray := ActR.full ⟨0, 0, 0, ⟨#[0]⟩, false, 0⟩
def cBB : ByteArray := ⟨#[98, 98]⟩ ++ cA.extract 2 cA.size
def cAB : ByteArray := ⟨#[97, 98]⟩ ++ cA.extract 2 cA.size
theorem cA_size : cA.size = 64 := by kernel_rfl
theorem xBB : (⟨#[98, 98]⟩ : ByteArray).size + (cA.extract 2 cA.size).size < 9223372036854775808 := by decide +kernel
theorem xAB : (⟨#[97, 98]⟩ : ByteArray).size + (cA.extract 2 cA.size).size < 9223372036854775808 := by decide +kernel
theorem cBB_eq : (⟨#[98, 98]⟩ ++ cA.extract 2 cA.size : ByteArray) = cBB := rfl
theorem cAB_eq : (⟨#[97, 98]⟩ ++ cA.extract 2 cA.size : ByteArray) = cAB := rfl
def hs0 : St := St.new 2
theorem n_s0 : St.new 2 = hs0 := rfl
def ht0 : St := St.new 1
theorem n_t0 : St.new 1 = ht0 := rfl
def hu0 : St := St.new 1
theorem n_u0 : St.new 1 = hu0 := rfl
def hs1 : St := (hs0.write 0 cA).1
theorem e_s0_write : hs0.write 0 cA = (hs1, 0) := by kernel_rfl
theorem q_s0 : hs0.q.length < 1073741824 := by decide +kernel
def hs2 : St := (hs1.sync).1
theorem e_s1_sync : hs1.sync = (hs2, 0) := by kernel_rfl
def hs3 : St := (hs2.write 0 cB).1
theorem e_s2_write : hs2.write 0 cB = (hs3, 0) := by kernel_rfl
theorem q_s2 : hs2.q.length < 1073741824 := by decide +kernel
def hs4 : St := hs3.fail 0 2
theorem e_s3_fail : hs3.fail 0 2 = hs4 := rfl
theorem e_s4_sync : hs4.sync = (hs4, 18) := by kernel_rfl
def hs5 : St := hs4.start
theorem e_s4_start : hs4.start = hs5 := rfl
theorem e_s5_write : hs5.write 1 ⟨#[115, 104, 111, 114, 116]⟩ = (hs5, 1) := by kernel_rfl
theorem q_s5 : hs5.q.length < 1073741824 := by decide +kernel
def ht1 : St := (ht0.write 0 cA).1
theorem e_t0_write : ht0.write 0 cA = (ht1, 0) := by kernel_rfl
theorem q_t0 : ht0.q.length < 1073741824 := by decide +kernel
def ht2 : St := (ht1.sync).1
theorem e_t1_sync : ht1.sync = (ht2, 0) := by kernel_rfl
def ht3 : St := ht2.rot 0 1 3
theorem e_t2_rot : ht2.rot 0 1 3 = ht3 := rfl
def ht4 : St := (ht3.write 0 cB).1
theorem e_t3_write : ht3.write 0 cB = (ht4, 0) := by kernel_rfl
theorem q_t3 : ht3.q.length < 1073741824 := by decide +kernel
def hu1 : St := hu0.arm 1 1 2
theorem e_u0_arm : hu0.arm 1 1 2 = hu1 := rfl
def hu2 : St := (hu1.write 0 cA).1
theorem e_u1_write : hu1.write 0 cA = (hu2, 0) := by kernel_rfl
theorem q_u1 : hu1.q.length < 1073741824 := by decide +kernel
def hu3 : St := (hu2.write 0 cB).1
theorem e_u2_write : hu2.write 0 cB = (hu3, 18) := by kernel_rfl
theorem q_u2 : hu2.q.length < 1073741824 := by decide +kernel
def hu4 : St := hu3.start
theorem e_u3_start : hu3.start = hu4 := rfl
theorem r_s3_0 : hs3.read 0 = (cB, 0) := by kernel_rfl
theorem r_s5_0 : hs5.read 0 = (cBB, 0) := by kernel_rfl
theorem r_s5_1 : hs5.read 1 = (cZ, 0) := by kernel_rfl
theorem r_s5_2 : hs5.read 2 = (⟨#[]⟩, 1) := by kernel_rfl
theorem r_t3_0 : ht3.read 0 = (cAB, 0) := by kernel_rfl
theorem r_u4_0 : hu4.read 0 = (cBB, 0) := by kernel_rfl
theorem raw_t4 : ht4.raw = cAB := by kernel_rfl
attribute [local irreducible] Calls thenQ blockQ retQ Spc Spl Spq Ex Ev Evs Gd Upd ESub HKeep Res Res1 wlk effQ Rem SrcAt Split DH cA cB cZ cBB cAB hs0 ht0 hu0 hs1 hs2 hs3 hs4 hs5 ht1 ht2 ht3 ht4 hu1 hu2 hu3 hu4

section
variable {P : Program} {Be : Nat} {w0 : World} {H : Heap} {G : Bool} {e : Env} {ty : TypeId}
theorem ex_eqlT {t t' : TypeId} {x y : Operand} {k : IntKind} {m n : Int} (h1 : Ev G e x (.int k m)) (h2 : Ev G e y (.int k n)) (h : m = n) : Ex P Be w0 H G e (.binOp .eql t x y t') ty (.bool true) := by
  have := ex_eql (P := P) (Be := Be) (w0 := w0) (H := H) (ty := ty) (t := t) (t' := t') h1 h2
  rwa [decide_eq_true h] at this
theorem ex_seqlT {t t' : TypeId} {x y : Operand} {r s : ByteArray} (h1 : Ev G e x (.string r)) (h2 : Ev G e y (.string s)) (h : s = r) : Ex P Be w0 H G e (.binOp .eql t x y t') ty (.bool true) := by
  have := ex_seql (P := P) (Be := Be) (w0 := w0) (H := H) (ty := ty) (t := t) (t' := t') h1 h2
  rwa [decide_eq_true h.symm] at this
end
section
variable {Be : Nat} {w0 w : World} {g : Nat} {D : Rep} {S S' : St} {R : Heap}
theorem write_e (hg : w0.heap.size ≤ g) (hD : D.ok S w0.heap.size) (hl : S.q.length < 1073741824) {s : Int} {t : ByteArray} {e : Int} (he : S.write s t = (S', e)) (hh : Hp Be w0 (DH g D S ++ R) w) :
    Calls Try.prog 23 #[.pointer (some ⟨g, 0, none⟩), .int .i64 s, .string t] w (RetD Be w0 g R (.int .i64 e) S') := by
  have := write_c hg hD hh hl s t
  rw [he] at this; exact this
theorem sync_e (hg : w0.heap.size ≤ g) (hD : D.ok S w0.heap.size) {e : Int} (he : S.sync = (S', e)) (hh : Hp Be w0 (DH g D S ++ R) w) :
    Calls Try.prog 21 #[.pointer (some ⟨g, 0, none⟩)] w (RetD Be w0 g R (.int .i64 e) S') := by
  have := sync_c hg hD hh
  rw [he] at this; exact this
theorem fail_e (hg : w0.heap.size ≤ g) (hD : D.ok S w0.heap.size) {a b : Int} (he : S.fail a b = S') (hh : Hp Be w0 (DH g D S ++ R) w) :
    Calls Try.prog 25 #[.pointer (some ⟨g, 0, none⟩), .int .i64 a, .int .i64 b] w (RetD Be w0 g R (.tuple #[]) S') := by
  have := fail_c hg hD hh a b
  rw [he] at this; exact this
theorem start_e (hg : w0.heap.size ≤ g) (hD : D.ok S w0.heap.size) (he : S.start = S') (hh : Hp Be w0 (DH g D S ++ R) w) :
    Calls Try.prog 20 #[.pointer (some ⟨g, 0, none⟩)] w (RetD Be w0 g R (.tuple #[]) S') := by
  have := start_c hD hh
  rw [he] at this; exact this
theorem arm_e (hg : w0.heap.size ≤ g) (hD : D.ok S w0.heap.size) {a b c : Int} (ha : a < 9223372036854775808) (he : S.arm a b c = S') (hh : Hp Be w0 (DH g D S ++ R) w) :
    Calls Try.prog 29 #[.pointer (some ⟨g, 0, none⟩), .int .i64 a, .int .i64 b, .int .i64 c] w (RetD Be w0 g R (.tuple #[]) S') := by
  have := arm_c hD hh a b c ha
  rw [he] at this; exact this
theorem rot_e (hg : w0.heap.size ≤ g) (hD : D.ok S w0.heap.size) {a b c : Int} (he : S.rot a b c = S') (hh : Hp Be w0 (DH g D S ++ R) w) :
    Calls Try.prog 30 #[.pointer (some ⟨g, 0, none⟩), .int .i64 a, .int .i64 b, .int .i64 c] w (RetD Be w0 g R (.tuple #[]) S') := by
  have := rot_c hD hh a b c
  rw [he] at this; exact this
theorem read_e {b : Nat} (hD : D.ok S b) {s : Int} {t : ByteArray} {e : Int} (he : S.read s = (t, e)) (h : DB w g D S) :
    Calls Try.prog 18 #[.pointer (some ⟨g, 0, none⟩), .int .i64 s] w (Ret w (.tuple #[.string t, .int .i64 e])) := by
  have := read_c hD h s
  rw [he] at this; exact this
theorem raw_e {b : Nat} (hD : D.ok S b) {t : ByteArray} (he : S.raw = t) (h : DB w g D S) :
    Calls Try.prog 31 #[.pointer (some ⟨g, 0, none⟩)] w (Ret w (.string t)) := by
  have := raw_c hD h
  rw [he] at this; exact this
end
theorem fill_a {w : World} : Calls Try.prog 28 #[.string ⟨#[97]⟩] w (Ret w (.string cA)) := by unfold cA; exact fill_c _ (by decide)
theorem fill_b {w : World} : Calls Try.prog 28 #[.string ⟨#[98]⟩] w (Ret w (.string cB)) := by unfold cB; exact fill_c _ (by decide)
theorem fill_z {w : World} : Calls Try.prog 28 #[.string ⟨#[0]⟩] w (Ret w (.string cZ)) := by unfold cZ; exact fill_c _ (by decide)
theorem new_e {w : World} {n : Nat} {S : St} (h1 : 0 < n) (h2 : n ≤ 8000) (hS : St.new n = S) :
    Calls Try.prog 13 #[.int .i64 (n : Int)] w (RetH (X := Nat × Rep) w (fun x => .pointer (some ⟨x.1, 0, none⟩)) (fun x => DH x.1 x.2 S) (fun x => x.2.ok S 0)) := by subst hS; exact new_c h1 h2

set_option maxRecDepth 100000 in
set_option maxHeartbeats 8000000 in
theorem head_c {w : World} : Calls Try.prog 11 #[] w (Ret w (.bool true)) := by
  have hAs := cA_size
  refine sp_enter (vs := []) Try.func11 rfl Try.ntmps11 rfl ?_
  repeat (first
    | (apply spl_call_id;(first|(apply spl_callp rfl;(·(repeat (first|exact eN|(apply eS;(·(first|exact eT rfl|exact eC|exact eG rfl|exact eL rfl|exact eLL rfl|exact eLLL rfl|exact eF|exact eGl))))));(·exact fun w' hh => fill_a))|(apply spl_callp rfl;(·(repeat (first|exact eN|(apply eS;(·(first|exact eT rfl|exact eC|exact eG rfl|exact eL rfl|exact eLL rfl|exact eLLL rfl|exact eF|exact eGl))))));(·exact fun w' hh => fill_b))|(apply spl_callp rfl;(·(repeat (first|exact eN|(apply eS;(·(first|exact eT rfl|exact eC|exact eG rfl|exact eL rfl|exact eLL rfl|exact eLLL rfl|exact eF|exact eGl))))));(·exact fun w' hh => fill_z))|(apply spl_callh (HH:=fun x : Nat × Rep => DH x.1 x.2 hs0) rfl;(·(repeat (first|exact eN|(apply eS;(·(first|exact eT rfl|exact eC|exact eG rfl|exact eL rfl|exact eLL rfl|exact eLLL rfl|exact eF|exact eGl))))));(·exact fun w' hh => new_e (n:=2) (by decide) (by decide) n_s0);(intro x_ hx_ hf_;obtain ⟨gs, Ds0⟩ := x_;obtain ⟨hDs0, hgs⟩ := hx_.mono hf_;simp only at hDs0 hgs ⊢))|(apply spl_callh (HH:=fun x : Nat × Rep => DH x.1 x.2 hu0) rfl;(·(repeat (first|exact eN|(apply eS;(·(first|exact eT rfl|exact eC|exact eG rfl|exact eL rfl|exact eLL rfl|exact eLLL rfl|exact eF|exact eGl))))));(·exact fun w' hh => (fun _ : Rep => new_e (n:=1) (by decide) (by decide) n_u0) Dt0);(intro x_ hx_ hf_;obtain ⟨gu, Du0⟩ := x_;obtain ⟨hDu0, hgu⟩ := hx_.mono hf_;simp only at hDu0 hgu ⊢))|(apply spl_callh (HH:=fun x : Nat × Rep => DH x.1 x.2 ht0) rfl;(·(repeat (first|exact eN|(apply eS;(·(first|exact eT rfl|exact eC|exact eG rfl|exact eL rfl|exact eLL rfl|exact eLLL rfl|exact eF|exact eGl))))));(·exact fun w' hh => new_e (n:=1) (by decide) (by decide) n_t0);(intro x_ hx_ hf_;obtain ⟨gt, Dt0⟩ := x_;obtain ⟨hDt0, hgt⟩ := hx_.mono hf_;simp only at hDt0 hgt ⊢))|(apply spl_callM (A:=DH gs Ds0 hs0) rfl;(·(repeat (first|exact eN|(apply eS;(·(first|exact eT rfl|exact eC|exact eG rfl|exact eL rfl|exact eLL rfl|exact eLLL rfl|exact eF|exact eGl))))));(·(repeat (first|exact Split.here|exact Split.all|apply Split.cons|apply Split.app)));(·exact fun w' hh => write_e hgs hDs0 q_s0 e_s0_write hh);(intro Ds1 hDs1))|(apply spl_callM (A:=DH gs Ds1 hs1) rfl;(·(repeat (first|exact eN|(apply eS;(·(first|exact eT rfl|exact eC|exact eG rfl|exact eL rfl|exact eLL rfl|exact eLLL rfl|exact eF|exact eGl))))));(·(repeat (first|exact Split.here|exact Split.all|apply Split.cons|apply Split.app)));(·exact fun w' hh => sync_e hgs hDs1 e_s1_sync hh);(intro Ds2 hDs2))|(apply spl_callM (A:=DH gs Ds2 hs2) rfl;(·(repeat (first|exact eN|(apply eS;(·(first|exact eT rfl|exact eC|exact eG rfl|exact eL rfl|exact eLL rfl|exact eLLL rfl|exact eF|exact eGl))))));(·(repeat (first|exact Split.here|exact Split.all|apply Split.cons|apply Split.app)));(·exact fun w' hh => write_e hgs hDs2 q_s2 e_s2_write hh);(intro Ds3 hDs3))|(apply spl_callM (A:=DH gs Ds3 hs3) rfl;(·(repeat (first|exact eN|(apply eS;(·(first|exact eT rfl|exact eC|exact eG rfl|exact eL rfl|exact eLL rfl|exact eLLL rfl|exact eF|exact eGl))))));(·(repeat (first|exact Split.here|exact Split.all|apply Split.cons|apply Split.app)));(·exact fun w' hh => fail_e hgs hDs3 e_s3_fail hh);(intro Ds4 hDs4))|(apply spl_callM (A:=DH gs Ds4 hs4) rfl;(·(repeat (first|exact eN|(apply eS;(·(first|exact eT rfl|exact eC|exact eG rfl|exact eL rfl|exact eLL rfl|exact eLLL rfl|exact eF|exact eGl))))));(·(repeat (first|exact Split.here|exact Split.all|apply Split.cons|apply Split.app)));(·exact fun w' hh => sync_e hgs hDs4 e_s4_sync hh);(intro Ds5 hDs5))|(apply spl_callM (A:=DH gs Ds5 hs4) rfl;(·(repeat (first|exact eN|(apply eS;(·(first|exact eT rfl|exact eC|exact eG rfl|exact eL rfl|exact eLL rfl|exact eLLL rfl|exact eF|exact eGl))))));(·(repeat (first|exact Split.here|exact Split.all|apply Split.cons|apply Split.app)));(·exact fun w' hh => start_e hgs hDs5 e_s4_start hh);(intro Ds6 hDs6))|(apply spl_callM (A:=DH gs Ds6 hs5) rfl;(·(repeat (first|exact eN|(apply eS;(·(first|exact eT rfl|exact eC|exact eG rfl|exact eL rfl|exact eLL rfl|exact eLLL rfl|exact eF|exact eGl))))));(·(repeat (first|exact Split.here|exact Split.all|apply Split.cons|apply Split.app)));(·exact fun w' hh => write_e hgs hDs6 q_s5 e_s5_write hh);(intro Ds7 hDs7))|(apply spl_callM (A:=DH gt Dt0 ht0) rfl;(·(repeat (first|exact eN|(apply eS;(·(first|exact eT rfl|exact eC|exact eG rfl|exact eL rfl|exact eLL rfl|exact eLLL rfl|exact eF|exact eGl))))));(·(repeat (first|exact Split.here|exact Split.all|apply Split.cons|apply Split.app)));(·exact fun w' hh => write_e hgt hDt0 q_t0 e_t0_write hh);(intro Dt1 hDt1))|(apply spl_callM (A:=DH gt Dt1 ht1) rfl;(·(repeat (first|exact eN|(apply eS;(·(first|exact eT rfl|exact eC|exact eG rfl|exact eL rfl|exact eLL rfl|exact eLLL rfl|exact eF|exact eGl))))));(·(repeat (first|exact Split.here|exact Split.all|apply Split.cons|apply Split.app)));(·exact fun w' hh => sync_e hgt hDt1 e_t1_sync hh);(intro Dt2 hDt2))|(apply spl_callM (A:=DH gt Dt2 ht2) rfl;(·(repeat (first|exact eN|(apply eS;(·(first|exact eT rfl|exact eC|exact eG rfl|exact eL rfl|exact eLL rfl|exact eLLL rfl|exact eF|exact eGl))))));(·(repeat (first|exact Split.here|exact Split.all|apply Split.cons|apply Split.app)));(·exact fun w' hh => rot_e hgt hDt2 e_t2_rot hh);(intro Dt3 hDt3))|(apply spl_callM (A:=DH gt Dt3 ht3) rfl;(·(repeat (first|exact eN|(apply eS;(·(first|exact eT rfl|exact eC|exact eG rfl|exact eL rfl|exact eLL rfl|exact eLLL rfl|exact eF|exact eGl))))));(·(repeat (first|exact Split.here|exact Split.all|apply Split.cons|apply Split.app)));(·exact fun w' hh => write_e hgt hDt3 q_t3 e_t3_write hh);(intro Dt4 hDt4))|(apply spl_callM (A:=DH gu Du0 hu0) rfl;(·(repeat (first|exact eN|(apply eS;(·(first|exact eT rfl|exact eC|exact eG rfl|exact eL rfl|exact eLL rfl|exact eLLL rfl|exact eF|exact eGl))))));(·(repeat (first|exact Split.here|exact Split.all|apply Split.cons|apply Split.app)));(·exact fun w' hh => arm_e hgu hDu0 (by omega) e_u0_arm hh);(intro Du1 hDu1))|(apply spl_callM (A:=DH gu Du1 hu1) rfl;(·(repeat (first|exact eN|(apply eS;(·(first|exact eT rfl|exact eC|exact eG rfl|exact eL rfl|exact eLL rfl|exact eLLL rfl|exact eF|exact eGl))))));(·(repeat (first|exact Split.here|exact Split.all|apply Split.cons|apply Split.app)));(·exact fun w' hh => write_e hgu hDu1 q_u1 e_u1_write hh);(intro Du2 hDu2))|(apply spl_callM (A:=DH gu Du2 hu2) rfl;(·(repeat (first|exact eN|(apply eS;(·(first|exact eT rfl|exact eC|exact eG rfl|exact eL rfl|exact eLL rfl|exact eLLL rfl|exact eF|exact eGl))))));(·(repeat (first|exact Split.here|exact Split.all|apply Split.cons|apply Split.app)));(·exact fun w' hh => write_e hgu hDu2 q_u2 e_u2_write hh);(intro Du3 hDu3))|(apply spl_callM (A:=DH gu Du3 hu3) rfl;(·(repeat (first|exact eN|(apply eS;(·(first|exact eT rfl|exact eC|exact eG rfl|exact eL rfl|exact eLL rfl|exact eLLL rfl|exact eF|exact eGl))))));(·(repeat (first|exact Split.here|exact Split.all|apply Split.cons|apply Split.app)));(·exact fun w' hh => start_e hgu hDu3 e_u3_start hh);(intro Du4 hDu4))|(apply spl_callDB (g:=gs) (D:=Ds3) (S:=hs3) rfl;(·(repeat (first|exact eN|(apply eS;(·(first|exact eT rfl|exact eC|exact eG rfl|exact eL rfl|exact eLL rfl|exact eLLL rfl|exact eF|exact eGl))))));(·(repeat (first|exact Split.here|exact Split.all|apply Split.cons|apply Split.app)));(·exact fun w' h => read_e hDs3 r_s3_0 h))|(apply spl_callDB (g:=gs) (D:=Ds6) (S:=hs5) rfl;(·(repeat (first|exact eN|(apply eS;(·(first|exact eT rfl|exact eC|exact eG rfl|exact eL rfl|exact eLL rfl|exact eLLL rfl|exact eF|exact eGl))))));(·(repeat (first|exact Split.here|exact Split.all|apply Split.cons|apply Split.app)));(·exact fun w' h => read_e hDs6 r_s5_0 h))|(apply spl_callDB (g:=gs) (D:=Ds7) (S:=hs5) rfl;(·(repeat (first|exact eN|(apply eS;(·(first|exact eT rfl|exact eC|exact eG rfl|exact eL rfl|exact eLL rfl|exact eLLL rfl|exact eF|exact eGl))))));(·(repeat (first|exact Split.here|exact Split.all|apply Split.cons|apply Split.app)));(·exact fun w' h => read_e hDs7 r_s5_0 h))|(apply spl_callDB (g:=gs) (D:=Ds6) (S:=hs5) rfl;(·(repeat (first|exact eN|(apply eS;(·(first|exact eT rfl|exact eC|exact eG rfl|exact eL rfl|exact eLL rfl|exact eLLL rfl|exact eF|exact eGl))))));(·(repeat (first|exact Split.here|exact Split.all|apply Split.cons|apply Split.app)));(·exact fun w' h => read_e hDs6 r_s5_1 h))|(apply spl_callDB (g:=gs) (D:=Ds7) (S:=hs5) rfl;(·(repeat (first|exact eN|(apply eS;(·(first|exact eT rfl|exact eC|exact eG rfl|exact eL rfl|exact eLL rfl|exact eLLL rfl|exact eF|exact eGl))))));(·(repeat (first|exact Split.here|exact Split.all|apply Split.cons|apply Split.app)));(·exact fun w' h => read_e hDs7 r_s5_1 h))|(apply spl_callDB (g:=gs) (D:=Ds6) (S:=hs5) rfl;(·(repeat (first|exact eN|(apply eS;(·(first|exact eT rfl|exact eC|exact eG rfl|exact eL rfl|exact eLL rfl|exact eLLL rfl|exact eF|exact eGl))))));(·(repeat (first|exact Split.here|exact Split.all|apply Split.cons|apply Split.app)));(·exact fun w' h => read_e hDs6 r_s5_2 h))|(apply spl_callDB (g:=gs) (D:=Ds7) (S:=hs5) rfl;(·(repeat (first|exact eN|(apply eS;(·(first|exact eT rfl|exact eC|exact eG rfl|exact eL rfl|exact eLL rfl|exact eLLL rfl|exact eF|exact eGl))))));(·(repeat (first|exact Split.here|exact Split.all|apply Split.cons|apply Split.app)));(·exact fun w' h => read_e hDs7 r_s5_2 h))|(apply spl_callDB (g:=gt) (D:=Dt3) (S:=ht3) rfl;(·(repeat (first|exact eN|(apply eS;(·(first|exact eT rfl|exact eC|exact eG rfl|exact eL rfl|exact eLL rfl|exact eLLL rfl|exact eF|exact eGl))))));(·(repeat (first|exact Split.here|exact Split.all|apply Split.cons|apply Split.app)));(·exact fun w' h => read_e hDt3 r_t3_0 h))|(apply spl_callDB (g:=gu) (D:=Du4) (S:=hu4) rfl;(·(repeat (first|exact eN|(apply eS;(·(first|exact eT rfl|exact eC|exact eG rfl|exact eL rfl|exact eLL rfl|exact eLLL rfl|exact eF|exact eGl))))));(·(repeat (first|exact Split.here|exact Split.all|apply Split.cons|apply Split.app)));(·exact fun w' h => read_e hDu4 r_u4_0 h))|(apply spl_callDB (g:=gt) (D:=Dt4) (S:=ht4) rfl;(·(repeat (first|exact eN|(apply eS;(·(first|exact eT rfl|exact eC|exact eG rfl|exact eL rfl|exact eLL rfl|exact eLLL rfl|exact eF|exact eGl))))));(·(repeat (first|exact Split.here|exact Split.all|apply Split.cons|apply Split.app)));(·exact fun w' h => raw_e hDt4 raw_t4 h))|(apply spl_callp rfl;(·(repeat (first|exact eN|(apply eS;(·(first|exact eT rfl|exact eC|exact eG rfl|exact eL rfl|exact eLL rfl|exact eLLL rfl|exact eF|exact eGl))))));(·exact fun w' hh => fail_nil _ _))|(apply spl_callp rfl;(·(repeat (first|exact eN|(apply eS;(·(first|exact eT rfl|exact eC|exact eG rfl|exact eL rfl|exact eLL rfl|exact eLLL rfl|exact eF|exact eGl))))));(·exact fun w' hh => start_nil ))|(apply spl_callp rfl;(·(repeat (first|exact eN|(apply eS;(·(first|exact eT rfl|exact eC|exact eG rfl|exact eL rfl|exact eLL rfl|exact eLLL rfl|exact eF|exact eGl))))));(·exact fun w' hh => arm_nil _ _ _))|(apply spl_callp rfl;(·(repeat (first|exact eN|(apply eS;(·(first|exact eT rfl|exact eC|exact eG rfl|exact eL rfl|exact eLL rfl|exact eLLL rfl|exact eF|exact eGl))))));(·exact fun w' hh => rot_nil _ _ _))|(apply spl_callp rfl;(·(repeat (first|exact eN|(apply eS;(·(first|exact eT rfl|exact eC|exact eG rfl|exact eL rfl|exact eLL rfl|exact eLLL rfl|exact eF|exact eGl))))));(·exact fun w' hh => sync_nil ))|(apply spl_callp rfl;(·(repeat (first|exact eN|(apply eS;(·(first|exact eT rfl|exact eC|exact eG rfl|exact eL rfl|exact eLL rfl|exact eLLL rfl|exact eF|exact eGl))))));(·exact fun w' hh => raw_nil ))|(apply spl_callp rfl;(·(repeat (first|exact eN|(apply eS;(·(first|exact eT rfl|exact eC|exact eG rfl|exact eL rfl|exact eLL rfl|exact eLLL rfl|exact eF|exact eGl))))));(·exact fun w' hh => write_nil _ _))|(apply spl_callp rfl;(·(repeat (first|exact eN|(apply eS;(·(first|exact eT rfl|exact eC|exact eG rfl|exact eL rfl|exact eLL rfl|exact eLLL rfl|exact eF|exact eGl))))));(·exact fun w' hh => new_nil (by omega)))))
    | apply then_n|apply block_n|apply sp_seq|apply sp_region|apply spl_nil|apply then_r|apply block_r|apply then_e|apply block_here|apply block_past rfl
    | ((first|apply sp_cond_t|apply sp_cond_f);(·(first|exact eT rfl|exact eC|exact eG rfl|exact eL rfl|exact eLL rfl|exact eLLL rfl|exact eF|exact eGl));(·(first|exact decide_eq_true (by omega)|exact decide_eq_false (by omega)|assumption|rfl)))
    | (apply sp_cond_f;(·(first|exact eT rfl|exact eC|exact eG rfl|exact eL rfl|exact eLL rfl|exact eLLL rfl|exact eF|exact eGl));(·(first|exact decide_eq_false (by omega)|assumption|rfl)))
    | apply sp_skip|apply sp_ret|apply sp_exit|apply sp_block
    | ((first|apply spl_pure rfl|(apply spl_pure_g rfl;(·(first|exact Gd.none|exact Gd.tt rfl rfl|exact Gd.tf rfl rfl|exact Gd.gt rfl rfl|exact Gd.gf rfl rfl))));(·(first|(apply ex_eqlT;(·(first|exact eT rfl|exact eC|exact eG rfl|exact eL rfl|exact eLL rfl|exact eLLL rfl|exact eF|exact eGl));(·(first|exact eT rfl|exact eC|exact eG rfl|exact eL rfl|exact eLL rfl|exact eLLL rfl|exact eF|exact eGl));(·rfl))|(apply ex_seqlT;(·(first|exact eT rfl|exact eC|exact eG rfl|exact eL rfl|exact eLL rfl|exact eLLL rfl|exact eF|exact eGl));(·(first|exact eT rfl|exact eC|exact eG rfl|exact eL rfl|exact eLL rfl|exact eLLL rfl|exact eF|exact eGl));(·(first|rfl|exact cBB_eq|exact cAB_eq)))|(apply ex_sslice_l (h:=2);(·(first|exact eT rfl|exact eC|exact eG rfl|exact eL rfl|exact eLL rfl|exact eLLL rfl|exact eF|exact eGl));(·(first|exact eT rfl|exact eC|exact eG rfl|exact eL rfl|exact eLL rfl|exact eLLL rfl|exact eF|exact eGl));(·(rw [hAs];decide)))|(apply ex_sadd;(·(first|exact eT rfl|exact eC|exact eG rfl|exact eL rfl|exact eLL rfl|exact eLLL rfl|exact eF|exact eGl));(·(first|exact eT rfl|exact eC|exact eG rfl|exact eL rfl|exact eLL rfl|exact eLLL rfl|exact eF|exact eGl));(·(first|exact xAB|exact xBB)))|((first|apply ex_move|apply ex_assign|apply ex_seql|apply ex_andT)<;>(first|exact eT rfl|exact eC|exact eG rfl|exact eL rfl|exact eLL rfl|exact eLLL rfl|exact eF|exact eGl))|((first|apply ex_eql|apply ex_orT)<;>(first|exact eT rfl|exact eC|exact eG rfl|exact eL rfl|exact eLL rfl|exact eLLL rfl|exact eF|exact eGl))|((first|apply ex_beql|apply ex_and)<;>(first|exact eT rfl|exact eC|exact eG rfl|exact eL rfl|exact eLL rfl|exact eLLL rfl|exact eF|exact eGl))|((first|apply ex_or|apply ex_peql)<;>(first|exact eT rfl|exact eC|exact eG rfl|exact eL rfl|exact eLL rfl|exact eLLL rfl|exact eF|exact eGl))|((first|apply ex_addn|apply ex_slice_h)<;>(first|exact eT rfl|exact eC|exact eG rfl|exact eL rfl|exact eLL rfl|exact eLLL rfl|exact eF|exact eGl|(constructor<;>omega)))|(apply ex_add<;>(first|exact eT rfl|exact eC|exact eG rfl|exact eL rfl|exact eLL rfl|exact eLLL rfl|exact eF|exact eGl))|(apply ex_extract<;>(first|exact eT rfl|exact eC|exact eG rfl|exact eL rfl|exact eLL rfl|exact eLLL rfl|exact eF|exact eGl|exact Bk.own InH.mem|exact Bk.old (by assumption) (Nat.le_refl _)|rfl|assumption|omega))|(apply ex_slice_lh<;>(first|exact eT rfl|exact eC|exact eG rfl|exact eL rfl|exact eLL rfl|exact eLLL rfl|exact eF|exact eGl|rfl|assumption|(refine ⟨?_,?_,?_⟩<;>omega)))|((first|apply ex_sslice_h|apply ex_sslice_l|apply ex_sslice)<;>(first|exact eT rfl|exact eC|exact eG rfl|exact eL rfl|exact eLL rfl|exact eLLL rfl|exact eF|exact eGl|(constructor<;>omega)|(refine ⟨?_,?_,?_⟩<;>omega))))))
    | (apply spl_guard_t;(·(first|exact Gd.none|exact Gd.tt rfl rfl|exact Gd.tf rfl rfl|exact Gd.gt rfl rfl|exact Gd.gf rfl rfl));(·rfl))|(apply spl_guard_f;(·(first|exact Gd.none|exact Gd.tt rfl rfl|exact Gd.tf rfl rfl|exact Gd.gt rfl rfl|exact Gd.gf rfl rfl));(·rfl);(·rfl)))
  (apply ret_ok rfl;(·(first|(apply Res.ofOne;(first|(apply Res1.tmp;(·rfl))|(apply Res1.cell;(·rfl);(·exact InH.mem);(·(first|rfl|assumption)))|(apply Res1.cell1;(·rfl);(·exact InH.mem);(·rfl))))|(apply Res.ofTwo<;>(first|(apply Res1.tmp;(·rfl))|(apply Res1.cell;(·rfl);(·exact InH.mem);(·(first|rfl|assumption)))|(apply Res1.cell1;(·rfl);(·exact InH.mem);(·rfl))))|(apply Res.ofThree<;>(first|(apply Res1.tmp;(·rfl))|(apply Res1.cell;(·rfl);(·exact InH.mem);(·(first|rfl|assumption)))|(apply Res1.cell1;(·rfl);(·exact InH.mem);(·rfl))))|exact Res.none_))); rfl
end Go.Proofs.Ytmlodiiijicghaa
