import Derived.Test.YtlfhopooaejpfaaGreatBe
namespace Go.Proofs.YtlfhopooaejpfaaGreat
open Go.RowKit
set_option linter.unusedVariables false
section
variable {α : Type} {E : Enc α} {n : Nat} {w0 : World} {L0 : List Nat} {fr : Fr} {R : List HP} {G : Act → World → Prop} {e : TypeId} {a : Option Addr} {m c : Nat} {xs : List α} {x : α}
def b6s (k m c : Nat) (tl cx : List Value) : Prop := m ≤ c ∧ c ≤ maxLen ∧ tl.length + k = c * k ∧ cx.length + k = m * k ∧ tl.take cx.length = cx
theorem a8F (hx : 0 < xs.length) (h : ∀ b ce tl cx, a = some ⟨b, 0, none⟩ ∧ m = xs.length ∧ b6s E.k m c tl cx → Ent n w0 L0 fr (pt b e (ce ++ tl) :: ow E ce (xs[0]'hx) :: els E cx (xs.drop 1) :: R) G) : Ent n w0 L0 fr (ow (Enc.sl e E) [.slice a m c] xs :: R) G := fun ac w h1 h2 => by
 obtain ⟨L, ⟨Lo, LR, rfl, ho, hR⟩, hn, hst⟩ := h2
 obtain ⟨ccs, L1, L2, rfl, g1, g2, g3, h0, g4⟩ := a0k ho
 match xs, hx, g1, g3, h with
 | x :: xs, hx, g1, g3, h =>
  obtain ⟨c1, c2, La, Lb, rfl, rfl, k1, k2⟩ := g3
  have e1 := E.len k1
  have e2 := k2.len
  rcases g4 with ⟨_, h3, _⟩ | ⟨g, cur, h2, h3, h4, h5, h6, h7, rfl⟩
  ·simp at g1; omega
  ·have e3 : cur.toList = c1 ++ cur.toList.drop E.k := by
    have h8 := congrArg (List.take E.k) h7
    rw [List.take_take, List.take_append_of_le_length (by omega), ← e1, List.take_length, e1, Nat.min_eq_left (by rw [g1]; simp only [List.length_cons, Nat.succ_mul]; omega)] at h8
    rw [← h8, List.take_append_drop]
   have hl : cur.toList.length = c * E.k := by simpa using h6
   refine h g c1 (cur.toList.drop E.k) c2 ⟨h2, g1, h4, h5, ?_, ?_, ?_⟩ ac w h1 ⟨[g] ++ (La ++ (Lb ++ LR)), ⟨[g], La ++ (Lb ++ LR), rfl, ⟨rfl, ?_⟩, La, Lb ++ LR, rfl, k1, Lb, LR, rfl, ?_, hR⟩, ?_, ?_⟩
   ·have := congrArg List.length e3
    rw [List.length_append, hl] at this
    omega
   ·rw [e2, g1, List.length_cons, Nat.succ_mul]
   ·have h8 := h7
    rw [e3, ← e1, List.take_append, e1] at h8
    have h9 := (List.append_inj' h8 (by
     rw [List.length_take]
     have h10 : (cur.toList.drop E.k).length = c * E.k - E.k := by rw [List.length_drop, hl]
     have h11 : m * E.k = xs.length * E.k + E.k := by rw [g1, List.length_cons, Nat.succ_mul]
     have h12 : m * E.k ≤ c * E.k := Nat.mul_le_mul_right _ h4
     rw [h10, e2]; omega)).2
    rw [e2]
    have h11 : m * E.k - E.k = xs.length * E.k := by rw [g1, List.length_cons, Nat.succ_mul]; omega
    rwa [h11] at h9
   ·rw [← e3]; exact h3
   ·exact k2
   ·simpa [List.append_assoc] using hn
   ·simpa [List.append_assoc] using hst
theorem a0j {b : Nat} {ce tl cx : List Value} (hx : 0 < xs.length) (hk : a = some ⟨b, 0, none⟩ ∧ m = xs.length ∧ b6s E.k m c tl cx) (h : Ent n w0 L0 fr (ow (Enc.sl e E) [.slice a m c] (xs.set 0 x) :: R) G) :
  Ent n w0 L0 fr (pt b e (ce ++ tl) :: ow E ce x :: els E cx (xs.drop 1) :: R) G := fun ac w h1 h2 => by
 obtain ⟨L, ⟨L1, L2, rfl, ⟨rfl, p1⟩, La, L3, rfl, k1, Lb, LR, rfl, k2, hR⟩, hn, hst⟩ := h2
 obtain ⟨rfl, rfl, z1, z2, z3, z4, z5⟩ := hk
 match xs, hx, z1, z4, k2, h with
 | y :: xs, hx, z1, z4, k2, h =>
  have e1 := E.len k1
  have k2' : C4 E w cx xs Lb true := k2
  have e2 := k2'.len
  refine h ac w h1 ⟨([b] ++ (La ++ Lb)) ++ LR, ⟨[b] ++ (La ++ Lb), LR, rfl, ?_, hR⟩, by simpa [List.append_assoc] using hn, by simpa [List.append_assoc] using hst⟩
  refine ⟨_, _, c, ce ++ cx, [b], La ++ Lb, rfl, by simp, by simp only [List.length_cons] at z1 ⊢; omega, rfl, ⟨ce, cx, La, Lb, rfl, rfl, k1, k2'⟩, ?_⟩
  show (row _ _ _ _ _ _).holds _ _
  refine ⟨by rw [List.length_append, e1]; omega, .inr ⟨b, (ce ++ tl).toArray, rfl, p1, z1, z2, by simp; omega, ?_, rfl⟩⟩
  have h8 : (y :: xs).length * E.k = ce.length + cx.length := by omega
  rw [List.toList_toArray, h8, List.take_append, List.take_of_length_le (by omega), Nat.add_sub_cancel_left, z5]
end
end Go.Proofs.YtlfhopooaejpfaaGreat
