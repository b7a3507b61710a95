/- An owned list as a row of cells and what its elements own; a shorter row. -/
import Derived.Test.YtnagfcajnbkdoaaSln
namespace Go.Proofs.Ytnagfcajnbkdoaa
open Go.RowKit
set_option linter.unusedVariables false
section
variable {n : Nat} {w0 : World} {L0 : List Nat} {fr : Fr} {H R : List HP} {G : Act → World → Prop} {α : Type} {E : Enc α} {e : TypeId} {a : Option Addr} {m c : Nat} {xs : List α}
theorem Ent.spl (h : ∀ ccs, ccs.length = m * E.k → Ent n w0 L0 fr (row e E.k a m c ccs :: els E ccs xs :: R) G) : Ent n w0 L0 fr (ow (Enc.sl e E) [.slice a m c] xs :: R) G := fun ac w h1 h2 => by
  obtain ⟨L, ⟨Lo, LR, rfl, ho, hR⟩, hn, hst⟩ := h2
  obtain ⟨ccs, L1, L2, rfl, g1, g2, g3, g4⟩ := ow_sl ho
  exact h ccs (by rw [g3.len, g1]) ac w h1 ⟨(L1 ++ L2) ++ LR, ⟨L1, L2 ++ LR, by simp, g4, L2, LR, rfl, g3, hR⟩, hn, hst⟩
theorem Ent.joi {ccs : List Value} (hm : m = xs.length) (hl : m ≤ maxLen) (h : Ent n w0 L0 fr (ow (Enc.sl e E) [.slice a m c] xs :: R) G) : Ent n w0 L0 fr (row e E.k a m c ccs :: els E ccs xs :: R) G := fun ac w h1 h2 => by
  obtain ⟨L, ⟨L1, Lq, rfl, g4, L2, LR, rfl, g3, hR⟩, hn, hst⟩ := h2
  have e1 : L1 ++ (L2 ++ LR) = (L1 ++ L2) ++ LR := by simp
  rw [e1] at hn hst
  exact h ac w h1 ⟨(L1 ++ L2) ++ LR, ⟨L1 ++ L2, LR, rfl, ⟨a, m, c, ccs, L1, L2, rfl, hm, hl, rfl, g3, g4⟩, hR⟩, hn, hst⟩
theorem Ent.shr {k m' : Nat} {ccs : List Value} (hm : m' ≤ m) (h : Ent n w0 L0 fr (row e k a m' c (ccs.take (m' * k)) :: R) G) : Ent n w0 L0 fr (row e k a m c ccs :: R) G := fun ac w h1 h2 => by
  obtain ⟨L, ⟨L1, LR, rfl, ⟨g1, g2⟩, hR⟩, hn, hst⟩ := h2
  have hmk : m' * k ≤ m * k := Nat.mul_le_mul_right _ hm
  refine h ac w h1 ⟨L1 ++ LR, ⟨L1, LR, rfl, ⟨by simp; omega, ?_⟩, hR⟩, hn, hst⟩
  rcases g2 with ⟨h3, h4, h5⟩ | ⟨g, cur, h3, h4, h5, h6, h7, h8, h9⟩
  · exact .inl ⟨h3, by omega, h5⟩
  · refine .inr ⟨g, cur, h3, h4, by omega, h6, h7, ?_, h9⟩
    rw [← h8, List.take_take, Nat.min_eq_left hmk]
/-- of what the elements own, without those from i to j -/
theorem Ent.edel {ccs : List Value} {i j : Nat} (hij : i ≤ j) (hj : j ≤ xs.length) (h : Ent n w0 L0 fr (els E (ccs.take (i * E.k) ++ ccs.drop (j * E.k)) (xs.take i ++ xs.drop j) :: R) G) : Ent n w0 L0 fr (els E ccs xs :: R) G := fun ac w h1 h2 => by
  obtain ⟨L, ⟨L1, LR, rfl, g, hR⟩, hn, hst⟩ := h2
  have g' : Elems E w ccs xs L1 true := g
  have hx : xs = xs.take i ++ ((xs.drop i).take (j - i) ++ xs.drop j) := by
    have : (xs.drop i).drop (j - i) = xs.drop j := by rw [List.drop_drop]; congr 1; omega
    rw [← this, List.take_append_drop, List.take_append_drop]
  rw [hx] at g'
  obtain ⟨c1, cr, M1, Mr, rfl, rfl, k1, kr⟩ := g'.split
  obtain ⟨c2, c3, M2, M3, rfl, rfl, k2, k3⟩ := kr.split
  have hl1 : c1.length = i * E.k := by rw [k1.len, List.length_take, Nat.min_eq_left (by omega)]
  have hl2 : c2.length = (j - i) * E.k := by rw [k2.len, List.length_take, List.length_drop, Nat.min_eq_left (by omega)]
  have hl : (c1 ++ c2).length = j * E.k := by rw [List.length_append, hl1, hl2, ← Nat.add_mul]; congr 1; omega
  have e1 : (c1 ++ (c2 ++ c3)).take (i * E.k) = c1 := by rw [← hl1, List.take_left]
  have e2 : (c1 ++ (c2 ++ c3)).drop (j * E.k) = c3 := by rw [← List.append_assoc, ← hl, List.drop_left]
  rw [e1, e2] at h
  have hsub : ((M1 ++ M3) ++ LR).Sublist ((M1 ++ (M2 ++ M3)) ++ LR) := (List.Sublist.append_left (List.sublist_append_right _ _) _).append_right _
  exact h ac w h1 ⟨(M1 ++ M3) ++ LR, ⟨M1 ++ M3, LR, rfl, k1.app k3, hR⟩, hn.sublist hsub, hst.sublist fun b hb => hsub.subset hb⟩
end
end Go.Proofs.Ytnagfcajnbkdoaa
