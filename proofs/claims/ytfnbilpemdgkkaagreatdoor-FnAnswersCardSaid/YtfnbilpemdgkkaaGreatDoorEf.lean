import Derived.Test.YtfnbilpemdgkkaaGreatDoorBd
namespace Go.Proofs.YtfnbilpemdgkkaaGreatDoor
set_option linter.unusedVariables false
set_option linter.unusedSimpArgs false
def b0G : List Int → Nat
 | [] => 0
 | v :: l => v.toNat + 10 * b0G l
section
variable {s : List Int} {c7 l0 : List (Int × List Int)} {a : Int × List Int} {l : List (List Int × List Int)} {b : List Int × List Int} {g h n : Nat}
abbrev Few (a : Int × List Int) (c7 : List (Int × List Int)) : Prop := ∀ b, (E1 b a c7).length ≤ 1000
theorem a1z (hf : c7.length ≤ 24) : Few a c7 := fun b => Nat.le_trans a4Y (Nat.le_trans hf (by decide))
theorem a6J (h : Nat) : (E1 b a (c7.take h)).length ≤ (E1 b a c7).length := by
 unfold E1
 simp only [List.length_map]
 exact ((List.take_sublist h c7).filter _).length_le
theorem a0b (hk : Few a c7) : ∀ {l : List (List Int × List Int)}, (B5 l a c7).length ≤ l.length * 1000
 | [] => by simp [B5]
 | b :: l => by
  have h1 := a0b (l := l) hk
  have h2 := hk b
  simp only [B5, List.flatMap_cons, List.length_append, List.length_cons, Nat.succ_mul] at h1 ⊢; omega
theorem a3D (hk : Few a c7) (hn : l.length * 1000 ≤ n) (hg : g < l.length) (h : Nat) : (B5 (l.take g) a c7 ++ E1 l[g] a (c7.take h)).length ≤ n := by
 have h1 := a0b (l := l.take g) hk
 have h2 := hk l[g]
 have h3 := a6J (b := l[g]) (a := a) (c7 := c7) h
 have h4 : (l.take g).length ≤ g := by simp; omega
 have h5 : (g + 1) * 1000 ≤ l.length * 1000 := Nat.mul_le_mul_right _ hg
 rw [List.length_append]; omega
theorem a5g (hk : ∀ a ∈ l0, Few a c7) (ha : ∀ a ∈ l0, a.2.length ≤ 3) : ∀ {g : Nat}, g ≤ l0.length → (r8 (l0.take g) c7).length ≤ 1000 ^ g ∧ ∀ b ∈ r8 (l0.take g) c7, b.1.length ≤ 3 * g ∧ b.2.length ≤ 3 * g
 | 0, _ => by simp [O3]
 | g + 1, hg => by
  obtain ⟨i1, i2⟩ := a5g hk ha (g := g) (by omega)
  rw [List.take_succ_eq_append_getElem (by omega), M3]
  have h1 := a0b (hk _ (List.getElem_mem (by omega : g < l0.length))) (l := r8 (l0.take g) c7)
  refine ⟨Nat.le_trans h1 (by rw [Nat.pow_succ]; exact Nat.mul_le_mul_right _ i1), fun b hb => ?_⟩
  have h2 := a4L (n := 3 * g) (k := 3) (c7 := c7) (ha _ (List.getElem_mem (by omega : g < l0.length))) i2 b hb
  omega
theorem a0l (hk : ∀ a ∈ l0, Few a c7) (hn : l0.length ≤ 4) (ha : ∀ a ∈ l0, a.2.length ≤ 3) (hg : g < l0.length) : (r8 (l0.take g) c7).length * 1000 ≤ 1000000000000 ∧ ∀ b ∈ r8 (l0.take g) c7, b.1.length ≤ 12 ∧ b.2.length ≤ 12 := by
 obtain ⟨i1, i2⟩ := a5g hk ha (g := g) (by omega)
 have h1 : 1000 ^ g ≤ 1000 ^ 3 := Nat.pow_le_pow_right (by decide) (by omega)
 have h2 : (1000 : Nat) ^ 3 = 1000000000 := by decide
 exact ⟨by omega, fun b hb => by have := i2 b hb; omega⟩
theorem a2x (hk : ∀ a ∈ l0, Few a c7) (hn : l0.length ≤ 4) (ha : ∀ a ∈ l0, a.2.length ≤ 3) : (r8 l0 c7).length ≤ 1000000000000 ∧ ∀ b ∈ r8 l0 c7, b.1.length ≤ 12 ∧ b.2.length ≤ 12 := by
 obtain ⟨i1, i2⟩ := a5g hk ha (g := l0.length) (Nat.le_refl _)
 rw [List.take_length] at i1 i2
 have h1 : 1000 ^ l0.length ≤ 1000 ^ 4 := Nat.pow_le_pow_right (by decide) hn
 have h2 : (1000 : Nat) ^ 4 = 1000000000000 := by decide
 exact ⟨by omega, fun b hb => by have := i2 b hb; omega⟩
end
end Go.Proofs.YtfnbilpemdgkkaaGreatDoor
