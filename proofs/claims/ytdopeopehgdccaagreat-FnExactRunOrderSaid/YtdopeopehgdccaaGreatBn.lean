import Derived.Test.YtdopeopehgdccaaGreatBb
namespace Go.Proofs.YtdopeopehgdccaaGreat
open Go.RowKit
set_option linter.unusedVariables false
theorem FnP.keep {P : Program} {α : Type} {E : Enc α} {w w' : World} {L : List Nat} {g : FuncId} {caps : List Value} {val : List Value → Value} {D : α → Prop} {p : α → Bool} (h : FnP P w L g caps E val D p) (k : Keep w L w') : FnP P w' [] g caps E val D p :=
  fun w2 k2 => h w2 ⟨Nat.le_trans k.size k2.size, fun b hb hn => (k2.keep b (Nat.lt_of_lt_of_le hb k.size) (by simp)).trans (k.keep b hb hn)⟩
variable {P : Program} {n : Nat} {fr : Fr}
theorem Y.slMid {x y u : Operand} {T e : TypeId} {agg : Bool} {k : Nat} {z : List Value} {by' : Nat} {a : Option Addr} {m c : Nat} {l h : Int} (hT : P.underlying T = some (.slice e)) (ht : TyOk P e agg k z by') (hx : ev fr x = some (.slice a m c)) (hy : ev fr y = some (.int .i64 l)) (hu : ev fr u = some (.int .i64 h)) (h0 : 0 ≤ l) (h1 : l ≤ h) (h2 : h.toNat ≤ c) :
    Yp P n fr (.slice T x (some y) (some u) none) (.slice (if c = l.toNat then a else a.map (·.add (l.toNat * k))) (h.toNat - l.toNat) (c - l.toNat)) := fun ac hf w' d t p af g => by
  obtain ⟨l, rfl⟩ := Int.eq_ofNat_of_zero_le h0
  obtain ⟨h, rfl⟩ := Int.eq_ofNat_of_zero_le (show 0 ≤ h by omega)
  have h1' : l ≤ h := by omega
  simp only [Int.toNat_natCast] at h2
  simp [execOp, hf.ev hx, hf.ev hy, hf.ev hu, Instr.sliceAt, Instr.slice, Instr.sliceBounds, a1y h1', a1y h2, run_underlying hT, ht.run_sizeOf]
end Go.Proofs.YtdopeopehgdccaaGreat
