/- Arithmetic that wraps round, and bits: for what draws from bytes. -/
import Derived.Test.YtmogfmnamhhbnaaDoorBx
namespace Go.Proofs.YtmogfmnamhhbnaaDoor
open Go.RowKit
set_option linter.unusedVariables false
set_option linter.unusedSimpArgs false
section
variable {P : Program} {n : Nat} {fr : Fr}
theorem wrap_I64 (m : Int) : I64 (IntKind.i64.wrap m) := by
  unfold I64
  simp only [IntKind.wrap, IntKind.bits, IntKind.signed]
  simp
  split <;> omega
theorem Y.addw {x y : Operand} {T U : TypeId} {a b : Int} (hx : ev fr x = some (.int .i64 a)) (hy : ev fr y = some (.int .i64 b)) : Yp P n fr (.binOp .add T x y U) (.int .i64 (IntKind.i64.wrap (a + b))) := fun ac h w' d t p af g => by
  simp [execOp, h.ev hx, h.ev hy, eqGuard_add, binOp_add, Op.intArith]
theorem Y.mulw {x y : Operand} {T U : TypeId} {a b : Int} (hx : ev fr x = some (.int .i64 a)) (hy : ev fr y = some (.int .i64 b)) : Yp P n fr (.binOp .mul T x y U) (.int .i64 (IntKind.i64.wrap (a * b))) := fun ac h w' d t p af g => by
  simp [execOp, h.ev hx, h.ev hy, eqGuard_mul, binOp_mul, Op.intArith]
def xorI (a b : Int) : Int := IntKind.i64.wrap ((BitVec.ofInt 64 a ^^^ BitVec.ofInt 64 b).toNat : Int)
theorem Y.xor {x y : Operand} {T U : TypeId} {a b : Int} (hx : ev fr x = some (.int .i64 a)) (hy : ev fr y = some (.int .i64 b)) : Yp P n fr (.binOp .xor T x y U) (.int .i64 (xorI a b)) := fun ac h w' d t p af g => by
  simp [execOp, h.ev hx, h.ev hy, eqGuard_xor, binOp_xor, Op.intBits, xorI]
  rfl
theorem xorI_I64 {a b : Int} : I64 (xorI a b) := wrap_I64 _
/-- below 256 -/
theorem and255 {a : Int} : 0 ≤ andI a 255 ∧ andI a 255 ≤ 255 := by
  have h : (BitVec.ofInt 64 a &&& BitVec.ofInt 64 255).toNat ≤ 255 := by
    rw [BitVec.toNat_and]
    exact Nat.le_trans Nat.and_le_right (by decide)
  unfold andI
  have e : IntKind.i64.wrap ((BitVec.ofInt 64 a &&& BitVec.ofInt 64 255).toNat : Int) = ((BitVec.ofInt 64 a &&& BitVec.ofInt 64 255).toNat : Int) := IntWalk.i64_in _ ⟨by omega, by omega⟩
  rw [e]; omega
theorem Y.cvI {x : Operand} {S D : TypeId} {a : Int} (hS : P.underlying S = some (.int .u8)) (hD : P.underlying D = some (.int .i64)) (hx : ev fr x = some (.int .u8 a)) (h : 0 ≤ a ∧ a ≤ 255) : Yp P n fr (.convert S D x) (.int .i64 a) := fun ac hF w' d t p af g => by
  have h1 : IntKind.i64.wrap a = a := IntWalk.i64_in _ ⟨by omega, by omega⟩
  simp [execOp, convert, hF.ev hx, run_underlying hS, run_underlying hD, Conv.intToInt, h1]
end
end Go.Proofs.YtmogfmnamhhbnaaDoor
