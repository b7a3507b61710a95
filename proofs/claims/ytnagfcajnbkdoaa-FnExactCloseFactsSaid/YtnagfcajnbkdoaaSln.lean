/- Slicing, the least of two numbers, bits. -/
import Derived.Test.YtnagfcajnbkdoaaSlm
import Derived.Laws.Entries
namespace Go.Proofs.Ytnagfcajnbkdoaa
open Go.RowKit
set_option linter.unusedVariables false
variable {P : Program} {n : Nat} {fr : Fr}
theorem run_bound {w : World} {i : Nat} {y : Nat} {code : BoundsCode} (h : i ≤ y) : (Instr.sliceBound (.int .i64 (i : Int)) y code).run P w = .ok i w := by
  have h1 : (0 : Int) ≤ (i : Int) ∧ (i : Int) ≤ (y : Int) := by omega
  simp [Instr.sliceBound, asIntOf, h1]
theorem Y.slTo {x y : Operand} {T e : TypeId} {agg : Bool} {k : Nat} {z : List Value} {by' : Nat} {a : Option Addr} {m c h : Nat} (hT : P.underlying T = some (.slice e)) (ht : TyOk P e agg k z by') (hx : ev fr x = some (.slice a m c)) (hy : ev fr y = some (.int .i64 (h : Int))) (hh : h ≤ c) :
    Yp P n fr (.slice T x none (some y) none) (.slice a h c) := fun ac hf w' d t p af g => by
  have e1 : Option.map (fun x : Addr => x.add 0) a = a := by cases a <;> simp [Addr.add]
  simp [execOp, hf.ev hx, hf.ev hy, Instr.sliceAt, Instr.slice, Instr.sliceBounds, run_bound hh, run_underlying hT, ht.run_sizeOf]
  intro _; exact e1
theorem Y.slFrom {x y : Operand} {T e : TypeId} {agg : Bool} {k : Nat} {z : List Value} {by' : Nat} {a : Option Addr} {m c l : Nat} (hT : P.underlying T = some (.slice e)) (ht : TyOk P e agg k z by') (hx : ev fr x = some (.slice a m c)) (hy : ev fr y = some (.int .i64 (l : Int))) (hh : l ≤ m) :
    Yp P n fr (.slice T x (some y) none none) (.slice (if c = l then a else a.map (·.add (l * k))) (m - l) (c - l)) := fun ac hf w' d t p af g => by
  simp [execOp, hf.ev hx, hf.ev hy, Instr.sliceAt, Instr.slice, Instr.sliceBounds, run_bound hh, run_underlying hT, ht.run_sizeOf]
theorem Y.shr {x y : Operand} {T U : TypeId} {a b : Int} (hx : ev fr x = some (.int .i64 a)) (hy : ev fr y = some (.int .i64 b)) (h0 : 0 ≤ b) (h1 : b ≤ 64) : Yp P n fr (.binOp .shr T x y U) (.int .i64 (a / 2 ^ b.toNat)) := fun ac h w' d t p af g => by
  simp [execOp, h.ev hx, h.ev hy, eqGuard_shr, binOp_shr]
def andI (a b : Int) : Int := IntKind.i64.wrap ((BitVec.ofInt 64 a &&& BitVec.ofInt 64 b).toNat : Int)
theorem Y.and {x y : Operand} {T U : TypeId} {a b : Int} (hx : ev fr x = some (.int .i64 a)) (hy : ev fr y = some (.int .i64 b)) : Yp P n fr (.binOp .and T x y U) (.int .i64 (andI a b)) := fun ac h w' d t p af g => by
  simp [execOp, h.ev hx, h.ev hy, eqGuard_and, binOp_and, Op.intBits, andI]
  rfl
theorem Y.mn2 {x y : Operand} {ts : Array TypeId} {a b : Int} (hx : ev fr x = some (.int .i64 a)) (hy : ev fr y = some (.int .i64 b)) : Yp P n fr (.call ⟨.builtin .min, #[x, y], ts⟩) (.int .i64 (if b < a then b else a)) := fun ac h w' d t p af g => by
  simp [execOp, resolve, invoke, builtin, Builtin.min_, Builtin.min2, h.ev hx, h.ev hy]
theorem Y.mnN {x y : Operand} {ts : Array TypeId} {a b : Nat} (hx : ev fr x = some (.int .i64 (a : Int))) (hy : ev fr y = some (.int .i64 (b : Int))) : Yp P n fr (.call ⟨.builtin .min, #[x, y], ts⟩) (.int .i64 ((min a b : Nat) : Int)) := by
  have := Y.mn2 (P := P) (n := n) (ts := ts) hx hy
  have e : (if (b : Int) < (a : Int) then (b : Int) else (a : Int)) = ((min a b : Nat) : Int) := by split <;> omega
  rw [e] at this; exact this
end Go.Proofs.Ytnagfcajnbkdoaa
