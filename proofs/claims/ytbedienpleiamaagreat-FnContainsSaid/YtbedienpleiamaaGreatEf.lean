import Derived.Test.YtbedienpleiamaaGreatBd
namespace Go.Proofs.YtbedienpleiamaaGreat
set_option linter.unusedVariables false
set_option linter.unusedSimpArgs false
def b1J : List Int → Nat
 | [] => 0
 | v :: l => v.toNat + 10 * b1J l
section
variable {s : List Int} {f0 l6 : List (Int × List Int)} {a : Int × List Int} {l : List (List Int × List Int)} {b : List Int × List Int} {g h n : Nat}
abbrev Few (a : Int × List Int) (f0 : List (Int × List Int)) : Prop := ∀ b, (I5 b a f0).length ≤ 1000
theorem W9 (hf : f0.length ≤ 24) : Few a f0 := fun b => Nat.le_trans a6C (Nat.le_trans hf (by decide))
theorem a8v (h : Nat) : (I5 b a (f0.take h)).length ≤ (I5 b a f0).length := by
 unfold I5
 simp only [List.length_map]
 exact ((List.take_sublist h f0).filter _).length_le
theorem a1k (hk : Few a f0) : ∀ {l : List (List Int × List Int)}, (E5 l a f0).length ≤ l.length * 1000
 | [] => by simp [E5]
 | b :: l => by
  have h1 := a1k (l := l) hk
  have h2 := hk b
  simp only [E5, List.flatMap_cons, List.length_append, List.length_cons, Nat.succ_mul] at h1 ⊢; omega
theorem a5H (hk : Few a f0) (hn : l.length * 1000 ≤ n) (hg : g < l.length) (h : Nat) : (E5 (l.take g) a f0 ++ I5 l[g] a (f0.take h)).length ≤ n := by
 have h1 := a1k (l := l.take g) hk
 have h2 := hk l[g]
 have h3 := a8v (b := l[g]) (a := a) (f0 := f0) h
 have h4 : (l.take g).length ≤ g := by simp; omega
 have h5 : (g + 1) * 1000 ≤ l.length * 1000 := Nat.mul_le_mul_right _ hg
 rw [List.length_append]; omega
theorem a6N (hk : ∀ a ∈ l6, Few a f0) (ha : ∀ a ∈ l6, a.2.length ≤ 3) : ∀ {g : Nat}, g ≤ l6.length → (j7 (l6.take g) f0).length ≤ 1000 ^ g ∧ ∀ b ∈ j7 (l6.take g) f0, b.1.length ≤ 3 * g ∧ b.2.length ≤ 3 * g
 | 0, _ => by simp [U2]
 | g + 1, hg => by
  obtain ⟨i1, i2⟩ := a6N hk ha (g := g) (by omega)
  rw [List.take_succ_eq_append_getElem (by omega), R7]
  have h1 := a1k (hk _ (List.getElem_mem (by omega : g < l6.length))) (l := j7 (l6.take g) f0)
  refine ⟨Nat.le_trans h1 (by rw [Nat.pow_succ]; exact Nat.mul_le_mul_right _ i1), fun b hb => ?_⟩
  have h2 := a6p (n := 3 * g) (k := 3) (f0 := f0) (ha _ (List.getElem_mem (by omega : g < l6.length))) i2 b hb
  omega
theorem a1C (hk : ∀ a ∈ l6, Few a f0) (hn : l6.length ≤ 4) (ha : ∀ a ∈ l6, a.2.length ≤ 3) (hg : g < l6.length) : (j7 (l6.take g) f0).length * 1000 ≤ 1000000000000 ∧ ∀ b ∈ j7 (l6.take g) f0, b.1.length ≤ 12 ∧ b.2.length ≤ 12 := by
 obtain ⟨i1, i2⟩ := a6N hk ha (g := g) (by omega)
 have h1 : 1000 ^ g ≤ 1000 ^ 3 := Nat.pow_le_pow_right (by decide) (by omega)
 have h2 : (1000 : Nat) ^ 3 = 1000000000 := by decide
 exact ⟨by omega, fun b hb => by have := i2 b hb; omega⟩
theorem a4s (hk : ∀ a ∈ l6, Few a f0) (hn : l6.length ≤ 4) (ha : ∀ a ∈ l6, a.2.length ≤ 3) : (j7 l6 f0).length ≤ 1000000000000 ∧ ∀ b ∈ j7 l6 f0, b.1.length ≤ 12 ∧ b.2.length ≤ 12 := by
 obtain ⟨i1, i2⟩ := a6N hk ha (g := l6.length) (Nat.le_refl _)
 rw [List.take_length] at i1 i2
 have h1 : 1000 ^ l6.length ≤ 1000 ^ 4 := Nat.pow_le_pow_right (by decide) hn
 have h2 : (1000 : Nat) ^ 4 = 1000000000000 := by decide
 exact ⟨by omega, fun b hb => by have := i2 b hb; omega⟩
end
end Go.Proofs.YtbedienpleiamaaGreat
