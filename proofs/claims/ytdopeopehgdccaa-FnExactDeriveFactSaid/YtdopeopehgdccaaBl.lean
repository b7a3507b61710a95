import Derived.Test.YtdopeopehgdccaaBj
import Derived.Test.YtdopeopehgdccaaBd
namespace Go.Proofs.Ytdopeopehgdccaa
open Go.RowKit
set_option linter.unusedVariables false
section
variable {P : Program} {Q : Exit → Act → World → Prop} {n : Nat} {w0 : World} {L0 : List Nat} {fr : Fr} {H R : List HP} {d : Nat} {ty : TypeId} {pos : String} {af : Array Edge} {g : Option (Nat × Bool)}
end
section
variable {n : Nat} {w0 : World} {L0 : List Nat} {fr : Fr} {R : List HP} {G : Act → World → Prop} {α : Type} {E : Enc α} {xs ys : List α} {cs c1 c2 : List Value}
theorem Ent.eljn (h : Ent n w0 L0 fr (els E (c1 ++ c2) (xs ++ ys) :: R) G) : Ent n w0 L0 fr (els E c1 xs :: els E c2 ys :: R) G := fun ac w h1 h2 => by
  obtain ⟨L, ⟨M1, L1, rfl, e1, M2, LR, rfl, e2, hR⟩, hn, hst⟩ := h2
  have ea : M1 ++ (M2 ++ LR) = (M1 ++ M2) ++ LR := by simp
  rw [ea] at hn hst
  exact h ac w h1 ⟨(M1 ++ M2) ++ LR, ⟨M1 ++ M2, LR, rfl, d6.app e1 e2, hR⟩, hn, hst⟩
end
/-- the state of the loop, as cells: kc ahead of the i-th element, rc from the j-th on -/
structure DfI (k M i j : Nat) (cur kc rc : List Value) : Prop where
  len : cur.length = M * k
  lt : i < j
  le : j ≤ M
  kl : kc.length = i * k
  k1 : cur.take (i * k) = kc
  r1 : cur.drop (j * k) = rc
theorem DfI.skip {k M i j : Nat} {cur kc c1 c2 : List Value} (h : DfI k M i j cur kc (c1 ++ c2)) (hj : j < M) (hc : c1.length = k) : DfI k M i (j + 1) cur kc c2 := by
  refine ⟨h.len, by have := h.lt; omega, hj, h.kl, h.k1, ?_⟩
  have e : cur.drop ((j + 1) * k) = (cur.drop (j * k)).drop k := by rw [List.drop_drop, Nat.succ_mul]
  rw [e, h.r1, ← hc, List.drop_left]
theorem DfI.put {k M i j : Nat} {cur kc c1 c2 : List Value} (h : DfI k M i j cur kc (c1 ++ c2)) (hj : j < M) (hc : c1.length = k) : DfI k M (i + 1) (j + 1) (cur.take (i * k) ++ c1 ++ cur.drop (i * k + k)) (kc ++ c1) c2 := by
  have hlt := h.lt
  have h2 : i * k + k ≤ j * k := by rw [← Nat.succ_mul]; exact Nat.mul_le_mul_right _ hlt
  have h3 : j * k + k ≤ M * k := by rw [← Nat.succ_mul]; exact Nat.mul_le_mul_right _ hj
  have hl := h.len
  have hs := h.skip hj hc
  have l1 : (cur.take (i * k) ++ c1).length = (i + 1) * k := by rw [List.length_append, List.length_take, hc, Nat.succ_mul]; omega
  refine ⟨?_, by omega, hj, ?_, ?_, ?_⟩
  · simp only [List.length_append, List.length_take, List.length_drop, hc]; omega
  · rw [List.length_append, h.kl, hc, Nat.succ_mul]
  · rw [← l1, List.take_left, h.k1]
  · rw [← hs.r1, List.drop_append, l1, (show (cur.take (i * k) ++ c1).drop ((j + 1) * k) = [] from List.drop_eq_nil_of_le (by rw [l1]; exact Nat.mul_le_mul_right _ (by omega))), List.nil_append, List.drop_drop]
    congr 1
    have h4 : (i + 1) * k ≤ (j + 1) * k := Nat.mul_le_mul_right _ (by omega)
    have h5 : (i + 1) * k = i * k + k := Nat.succ_mul _ _
    have h6 : (j + 1) * k = j * k + k := Nat.succ_mul _ _
    omega
end Go.Proofs.Ytdopeopehgdccaa
