/-
  Bytes of texts read at known places (for seats without the reference of layer 5).
-/
import Derived.Test.YtffbhbinnjpgnaaTp
namespace Go.Proofs.Ytffbhbinnjpgnaa
open Go.RowKit Go.Sy
set_option linter.unusedVariables false
set_option linter.unusedSimpArgs false
theorem ex_sindexE {P : Program} {Be : Nat} {w0 : World} {H : Heap} {G : Bool} {e : Env} {ty : TypeId} {x y : Operand} {t : TypeId} {k : IntKind} {s : ByteArray} {i : Nat} {b : UInt8} (hi : i < s.size) (hb : s[i] = b) (h : Ev G e x (.string s)) (h2 : Ev G e y (.int k i)) [ht : TStr P t] : Ex P Be w0 H G e (.index t x y) ty (.int .u8 (b.toNat : Nat)) := by
  subst hb
  exact ex_sindex h h2 hi
/-- Where the guard says no, nothing is looked at. -/
theorem ex_index_dead {P : Program} {Be : Nat} {w0 : World} {H : Heap} {G : Bool} {e : Env} {ty t : TypeId} {x y : Operand} (h : G = false) : Ex P Be w0 H G e (.index t x y) ty (.int .u8 0) := fun _ _ _ _ _ _ _ _ hG => by rw [h] at hG; cases hG
end Go.Proofs.Ytffbhbinnjpgnaa
