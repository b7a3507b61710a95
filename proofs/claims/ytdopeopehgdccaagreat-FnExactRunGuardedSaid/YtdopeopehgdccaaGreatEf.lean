import Derived.Test.YtdopeopehgdccaaGreatBd
namespace Go.Proofs.YtdopeopehgdccaaGreat
set_option linter.unusedVariables false
set_option linter.unusedSimpArgs false
def a5e : List Int → Nat
 | [] => 0
 | v :: l => v.toNat + 10 * a5e l
theorem b1f : ∀ {a b : List Int}, a.length = b.length → (∀ x ∈ a, 0 ≤ x ∧ x ≤ 9) → (∀ x ∈ b, 0 ≤ x ∧ x ≤ 9) → a5e a = a5e b → a = b
 | [], [], _, _, _, _ => rfl
 | [], y :: b, hl, _, _, _ => by simp at hl
 | x :: a, [], hl, _, _, _ => by simp at hl
 | x :: a, y :: b, hl, ha, hb, h => by
  have h1 := ha x (by simp)
  have h2 := hb y (by simp)
  simp only [a5e] at h
  rw [b1f (a := a) (b := b) (by simpa using hl) (fun z hz => ha z (by simp [hz])) (fun z hz => hb z (by simp [hz])) (by omega), show x = y by omega]
theorem b2C : ∀ {n : Nat} {a : List Int}, (∀ x ∈ a, 0 ≤ x ∧ x ≤ 9) → a.length ≤ n → a5e a < 10 ^ n
 | n, [], _, _ => by simp [a5e]; exact Nat.pow_pos (by decide)
 | 0, x :: a, _, h => by simp at h
 | n + 1, x :: a, ha, h => by
  have h1 := b2C (n := n) (a := a) (fun z hz => ha z (by simp [hz])) (by simpa using h)
  have h2 := ha x (by simp)
  simp only [a5e, Nat.pow_succ]; omega
section
variable {s : List Int} {d8 f5 : List (Int × List Int)} {a : Int × List Int} {l : List (List Int × List Int)} {b : List Int × List Int} {g h n : Nat}
abbrev Few (a : Int × List Int) (d8 : List (Int × List Int)) : Prop := ∀ b, (Q7 b a d8).length ≤ 1000
theorem b7b (hf : d8.length ≤ 24) : Few a d8 := fun b => Nat.le_trans a4w (Nat.le_trans hf (by decide))
theorem b9A (hd : d8.Nodup) (ho : ∀ f ∈ d8, J2 s f = true) : Few a d8 := fun b => by
 have hl : ∀ f ∈ d8.filter (s9 b a), f.1 = a.1 ∧ f.2.length = a.2.length ∧ J2 s f = true := fun f hf => by
  obtain ⟨h1, h2⟩ := List.mem_filter.1 hf
  simp only [s9, Bool.and_eq_true, decide_eq_true_eq] at h2
  exact ⟨h2.1.symm, h2.2.1.symm, ho f h1⟩
 have hn : (d8.filter (s9 b a)).Nodup := hd.sublist List.filter_sublist
 have h1 : ((d8.filter (s9 b a)).map fun f => a5e f.2).Nodup := by
  unfold List.Nodup at hn ⊢
  rw [List.pairwise_map]
  refine List.Pairwise.imp_of_mem (fun {x y} hx hy hxy e => hxy ?_) hn
  obtain ⟨x1, x2, x3⟩ := hl x hx
  obtain ⟨y1, y2, y3⟩ := hl y hy
  exact Prod.ext (x1.trans y1.symm) (b1f (x2.trans y2.symm) (a1y x3) (a1y y3) e)
 have h2 := a6j (n := 1000) h1 fun x hx => by
  obtain ⟨f, hf, rfl⟩ := List.mem_map.1 hx
  obtain ⟨x1, x2, x3⟩ := hl f hf
  exact b2C (n := 3) (a1y x3) (U2 x3)
 unfold Q7
 simpa using h2
theorem b5a (h : Nat) : (Q7 b a (d8.take h)).length ≤ (Q7 b a d8).length := by
 unfold Q7
 simp only [List.length_map]
 exact ((List.take_sublist h d8).filter _).length_le
theorem a4G (hk : Few a d8) : ∀ {l : List (List Int × List Int)}, (G2 l a d8).length ≤ l.length * 1000
 | [] => by simp [G2]
 | b :: l => by
  have h1 := a4G (l := l) hk
  have h2 := hk b
  simp only [G2, List.flatMap_cons, List.length_append, List.length_cons, Nat.succ_mul] at h1 ⊢; omega
theorem b1i (hk : Few a d8) (hn : l.length * 1000 ≤ n) (hg : g < l.length) (h : Nat) : (G2 (l.take g) a d8 ++ Q7 l[g] a (d8.take h)).length ≤ n := by
 have h1 := a4G (l := l.take g) hk
 have h2 := hk l[g]
 have h3 := b5a (b := l[g]) (a := a) (d8 := d8) h
 have h4 : (l.take g).length ≤ g := by simp; omega
 have h5 : (g + 1) * 1000 ≤ l.length * 1000 := Nat.mul_le_mul_right _ hg
 rw [List.length_append]; omega
theorem b5l (hk : ∀ a ∈ f5, Few a d8) (ha : ∀ a ∈ f5, a.2.length ≤ 3) : ∀ {g : Nat}, g ≤ f5.length → (I0 (f5.take g) d8).length ≤ 1000 ^ g ∧ ∀ b ∈ I0 (f5.take g) d8, b.1.length ≤ 3 * g ∧ b.2.length ≤ 3 * g
 | 0, _ => by simp [a1P]
 | g + 1, hg => by
  obtain ⟨i1, i2⟩ := b5l hk ha (g := g) (by omega)
  rw [List.take_succ_eq_append_getElem (by omega), a1t]
  have h1 := a4G (hk _ (List.getElem_mem (by omega : g < f5.length))) (l := I0 (f5.take g) d8)
  refine ⟨Nat.le_trans h1 (by rw [Nat.pow_succ]; exact Nat.mul_le_mul_right _ i1), fun b hb => ?_⟩
  have h2 := b2L (n := 3 * g) (k := 3) (d8 := d8) (ha _ (List.getElem_mem (by omega : g < f5.length))) i2 b hb
  omega
theorem a5g (hk : ∀ a ∈ f5, Few a d8) (hn : f5.length ≤ 4) (ha : ∀ a ∈ f5, a.2.length ≤ 3) (hg : g < f5.length) : (I0 (f5.take g) d8).length * 1000 ≤ 1000000000000 ∧ ∀ b ∈ I0 (f5.take g) d8, b.1.length ≤ 12 ∧ b.2.length ≤ 12 := by
 obtain ⟨i1, i2⟩ := b5l hk ha (g := g) (by omega)
 have h1 : 1000 ^ g ≤ 1000 ^ 3 := Nat.pow_le_pow_right (by decide) (by omega)
 have h2 : (1000 : Nat) ^ 3 = 1000000000 := by decide
 exact ⟨by omega, fun b hb => by have := i2 b hb; omega⟩
end
end Go.Proofs.YtdopeopehgdccaaGreat
