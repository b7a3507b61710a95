/- Slices of both sides; what slices.Delete moves. -/
import Derived.Test.YtmogfmnamhhbnaaDoorBe
namespace Go.Proofs.YtmogfmnamhhbnaaDoor
open Go.RowKit
set_option linter.unusedVariables false
section
variable {P : Program} {n : Nat} {w0 : World} {L0 : List Nat} {fr : Fr} {H : List HP}
theorem Y.sl3 {x y u v : Operand} {T e : TypeId} {agg : Bool} {k : Nat} {z : List Value} {by' : Nat} {a : Option Addr} {m c l h b : Nat} (hT : P.underlying T = some (.slice e)) (ht : TyOk P e agg k z by') (hx : ev fr x = some (.slice a m c)) (hy : ev fr y = some (.int .i64 (l : Int))) (hu : ev fr u = some (.int .i64 (h : Int))) (hv : ev fr v = some (.int .i64 (b : Int))) (h1 : l ≤ h) (h2 : h ≤ b) (h3 : b ≤ c) :
    Yp P n fr (.slice T x (some y) (some u) (some v)) (.slice (if b = l then a else a.map (·.add (l * k))) (h - l) (b - l)) := fun ac hf w' d t p af g => by
  simp [execOp, hf.ev hx, hf.ev hy, hf.ev hu, hf.ev hv, Instr.sliceAt, Instr.slice, Instr.sliceBounds, run_bound h1, run_bound h2, run_bound h3, run_underlying hT, ht.run_sizeOf]
theorem Y.slLH0 {x y u : Operand} {T e : TypeId} {agg : Bool} {k : Nat} {z : List Value} {by' : Nat} {a : Option Addr} {m c l h : Nat} (hT : P.underlying T = some (.slice e)) (ht : TyOk P e agg k z by') (hx : ev fr x = some (.slice a m c)) (hy : ev fr y = some (.int .i64 (l : Int))) (hu : ev fr u = some (.int .i64 (h : Int))) (h1 : l ≤ h) (h2 : h ≤ c) :
    Yp P n fr (.slice T x (some y) (some u) none) (.slice (if c = l then a else a.map (·.add (l * k))) (h - l) (c - l)) := fun ac hf w' d t p af g => by
  simp [execOp, hf.ev hx, hf.ev hy, hf.ev hu, Instr.sliceAt, Instr.slice, Instr.sliceBounds, run_bound h1, run_bound h2, run_underlying hT, ht.run_sizeOf]
theorem Y.slLH {x y u : Operand} {T e : TypeId} {agg : Bool} {k : Nat} {z : List Value} {by' : Nat} {b m c l h : Nat} (hT : P.underlying T = some (.slice e)) (ht : TyOk P e agg k z by') (hx : ev fr x = some (.slice (some ⟨b, 0, none⟩) m c)) (hy : ev fr y = some (.int .i64 (l : Int))) (hu : ev fr u = some (.int .i64 (h : Int))) (h1 : l ≤ h) (h2 : h ≤ c) (hc : l < c) :
    Yp P n fr (.slice T x (some y) (some u) none) (.slice (some ⟨b, l * k, none⟩) (h - l) (c - l)) := by
  have h := Y.slLH0 (P := P) (n := n) (fr := fr) hT ht hx hy hu h1 h2
  rw [if_neg (by omega)] at h
  have e1 : Option.map (fun q : Addr => q.add (l * k)) (some ⟨b, 0, none⟩) = some ⟨b, l * k, none⟩ := by
    simp only [Option.map_some, Addr.add]
    split
    · rename_i h0; rw [h0]
    · simp
  rw [e1] at h; exact h
/-- where the cells from the j-th element on lie -/
theorem src_from {e : TypeId} {k M C gb j : Nat} {cs : List Value} (hm : row e k (some ⟨gb, 0, none⟩) M C cs ∈ H) (hc : cs.length = M * k) (hj : j ≤ M) (hMC : M ≤ C) :
    (M - j = 0 ∧ cs.drop (j * k) = []) ∨ ∃ b o, (if C = j then some (⟨gb, 0, none⟩ : Addr) else (some (⟨gb, 0, none⟩ : Addr)).map (·.add (j * k))) = some ⟨b, o, none⟩ ∧ Has w0 L0 H b o (cs.drop (j * k)) := by
  by_cases h : C = j
  · refine .inl ⟨by omega, List.drop_eq_nil_of_le ?_⟩
    rw [hc, show j = M by omega]; exact Nat.le_refl _
  · refine .inr ⟨gb, j * k, ?_, Has.rowd hm j (rest := []) (List.append_nil _).symm⟩
    rw [if_neg h]
    simp only [Option.map_some, Addr.add]
    split
    · rename_i h0; rw [h0]
    · simp
theorem del_cells {cs R : List Value} {x y n k : Nat} (hc : cs.length = n * k) (hx : x ≤ y) (hy : y ≤ n) : (cs.take (x * k) ++ cs.drop (y * k) ++ R).take ((x + (n - y)) * k) = cs.take (x * k) ++ cs.drop (y * k) := by
  have h1 : x * k ≤ n * k := Nat.mul_le_mul_right _ (by omega)
  have h2 : (cs.take (x * k) ++ cs.drop (y * k)).length = (x + (n - y)) * k := by
    rw [List.length_append, List.length_take, List.length_drop, hc, Nat.add_mul, Nat.sub_mul, Nat.min_eq_left h1]
  rw [← h2, List.take_left]
end
end Go.Proofs.YtmogfmnamhhbnaaDoor
