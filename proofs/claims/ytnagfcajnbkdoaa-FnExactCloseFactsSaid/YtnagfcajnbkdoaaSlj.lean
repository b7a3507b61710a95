/- Tests of truth values. -/
import Derived.Test.YtnagfcajnbkdoaaSli
import Derived.Laws.StructEq
import Derived.Laws.Cover3
namespace Go.Proofs.Ytnagfcajnbkdoaa
open Go.RowKit
set_option linter.unusedVariables false
variable {P : Program} {n : Nat} {fr : Fr}
theorem Y.eqlB {x y : Operand} {T U : TypeId} {a b : Bool} (hT : P.underlying T = some .bool) (hx : ev fr x = some (.bool a)) (hy : ev fr y = some (.bool b)) : Yp P n fr (.binOp .eql T x y U) (.bool (decide (a = b))) := fun ac h w' d t p af g => by
  have e : (a == b) = decide (a = b) := by cases a <;> cases b <;> rfl
  have e2 : Sem.run P (Op.equal T (.bool a) (.bool b)) w' = .ok (a == b) w' := run_equalIn_bool' w' 9999 T a b hT
  simp [execOp, h.ev hx, h.ev hy, eqGuard, binOp, e, e2]
theorem Y.neqB {x y : Operand} {T U : TypeId} {a b : Bool} (hT : P.underlying T = some .bool) (hx : ev fr x = some (.bool a)) (hy : ev fr y = some (.bool b)) : Yp P n fr (.binOp .neq T x y U) (.bool (decide (a ≠ b))) := fun ac h w' d t p af g => by
  have e2 : Sem.run P (Op.equal T (.bool a) (.bool b)) w' = .ok (a == b) w' := run_equalIn_bool' w' 9999 T a b hT
  simp [execOp, h.ev hx, h.ev hy, eqGuard, binOp, e2]
  cases a <;> cases b <;> rfl
/-- a list held against nil -/
theorem Y.eqlN {x y : Operand} {T U e : TypeId} {a : Option Addr} {l c : Nat} (hT : P.underlying T = some (.slice e)) (hx : ev fr x = some (.slice a l c)) (hy : ev fr y = some (.slice none 0 0)) : Yp P n fr (.binOp .eql T x y U) (.bool a.isNone) := fun ac h w' d t p af g => by
  have e2 : Sem.run P (Op.equal T (.slice a l c) (.slice none 0 0)) w' = .ok a.isNone w' := run_equalIn_slice_nil w' 9999 T e a l c hT
  simp [execOp, h.ev hx, h.ev hy, eqGuard, binOp, e2]
end Go.Proofs.Ytnagfcajnbkdoaa
