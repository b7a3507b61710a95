import Derived.Test.YtdopeopehgdccaaGreatBd
namespace Go.Proofs.YtdopeopehgdccaaGreat
set_option linter.unusedVariables false
set_option linter.unusedSimpArgs false
def a3a : List Int → Nat
  | [] => 0
  | v :: l => v.toNat + 10 * a3a l
theorem a8H : ∀ {a b : List Int}, a.length = b.length → (∀ x ∈ a, 0 ≤ x ∧ x ≤ 9) → (∀ x ∈ b, 0 ≤ x ∧ x ≤ 9) → a3a a = a3a b → a = b
  | [], [], _, _, _, _ => rfl
  | [], y :: b, hl, _, _, _ => by simp at hl
  | x :: a, [], hl, _, _, _ => by simp at hl
  | x :: a, y :: b, hl, ha, hb, h => by
    have h1 := ha x (by simp)
    have h2 := hb y (by simp)
    simp only [a3a] at h
    rw [a8H (a := a) (b := b) (by simpa using hl) (fun z hz => ha z (by simp [hz])) (fun z hz => hb z (by simp [hz])) (by omega), show x = y by omega]
theorem b0M : ∀ {n : Nat} {a : List Int}, (∀ x ∈ a, 0 ≤ x ∧ x ≤ 9) → a.length ≤ n → a3a a < 10 ^ n
  | n, [], _, _ => by simp [a3a]; exact Nat.pow_pos (by decide)
  | 0, x :: a, _, h => by simp at h
  | n + 1, x :: a, ha, h => by
    have h1 := b0M (n := n) (a := a) (fun z hz => ha z (by simp [hz])) (by simpa using h)
    have h2 := ha x (by simp)
    simp only [a3a, Nat.pow_succ]; omega
section
variable {s : List Int} {d8 d7 : List (Int × List Int)} {a : Int × List Int} {l : List (List Int × List Int)} {b : List Int × List Int} {g h n : Nat}
/-- at most so many facts go with an atom -/
abbrev Few (a : Int × List Int) (d8 : List (Int × List Int)) : Prop := ∀ b, (I3 b a d8).length ≤ 1000
theorem a5u (hf : d8.length ≤ 24) : Few a d8 := fun b => Nat.le_trans a3Z (Nat.le_trans hf (by decide))
theorem b6c (hd : d8.Nodup) (ho : ∀ f ∈ d8, H2 s f = true) : Few a d8 := fun b => by
  have hl : ∀ f ∈ d8.filter (o4 b a), f.1 = a.1 ∧ f.2.length = a.2.length ∧ H2 s f = true := fun f hf => by
    obtain ⟨h1, h2⟩ := List.mem_filter.1 hf
    simp only [o4, Bool.and_eq_true, decide_eq_true_eq] at h2
    exact ⟨h2.1.symm, h2.2.1.symm, ho f h1⟩
  have hn : (d8.filter (o4 b a)).Nodup := hd.sublist List.filter_sublist
  have h1 : ((d8.filter (o4 b a)).map fun f => a3a f.2).Nodup := by
    unfold List.Nodup at hn ⊢
    rw [List.pairwise_map]
    refine List.Pairwise.imp_of_mem (fun {x y} hx hy hxy e => hxy ?_) hn
    obtain ⟨x1, x2, x3⟩ := hl x hx
    obtain ⟨y1, y2, y3⟩ := hl y hy
    exact Prod.ext (x1.trans y1.symm) (a8H (x2.trans y2.symm) (X5 x3) (X5 y3) e)
  have h2 := a1Y (n := 1000) h1 fun x hx => by
    obtain ⟨f, hf, rfl⟩ := List.mem_map.1 hx
    obtain ⟨x1, x2, x3⟩ := hl f hf
    exact b0M (n := 3) (X5 x3) (U4 x3)
  unfold I3
  simpa using h2
theorem b2j (h : Nat) : (I3 b a (d8.take h)).length ≤ (I3 b a d8).length := by
  unfold I3
  simp only [List.length_map]
  exact ((List.take_sublist h d8).filter _).length_le
theorem a2I (hk : Few a d8) : ∀ {l : List (List Int × List Int)}, (C0 l a d8).length ≤ l.length * 1000
  | [] => by simp [C0]
  | b :: l => by
    have h1 := a2I (l := l) hk
    have h2 := hk b
    simp only [C0, List.flatMap_cons, List.length_append, List.length_cons, Nat.succ_mul] at h1 ⊢; omega
theorem a8y (hk : Few a d8) (hn : l.length * 1000 ≤ n) (hg : g < l.length) (h : Nat) : (C0 (l.take g) a d8 ++ I3 l[g] a (d8.take h)).length ≤ n := by
  have h1 := a2I (l := l.take g) hk
  have h2 := hk l[g]
  have h3 := b2j (b := l[g]) (a := a) (d8 := d8) h
  have h4 : (l.take g).length ≤ g := by simp; omega
  have h5 : (g + 1) * 1000 ≤ l.length * 1000 := Nat.mul_le_mul_right _ hg
  rw [List.length_append]; omega
theorem b0y (hk : ∀ a ∈ d7, Few a d8) (ha : ∀ a ∈ d7, a.2.length ≤ 3) : ∀ {g : Nat}, g ≤ d7.length → (t7 (d7.take g) d8).length ≤ 1000 ^ g ∧ ∀ b ∈ t7 (d7.take g) d8, b.1.length ≤ 3 * g ∧ b.2.length ≤ 3 * g
  | 0, _ => by simp [a0B]
  | g + 1, hg => by
    obtain ⟨i1, i2⟩ := b0y hk ha (g := g) (by omega)
    rw [List.take_succ_eq_append_getElem (by omega), Z0]
    have h1 := a2I (hk _ (List.getElem_mem (by omega : g < d7.length))) (l := t7 (d7.take g) d8)
    refine ⟨Nat.le_trans h1 (by rw [Nat.pow_succ]; exact Nat.mul_le_mul_right _ i1), fun b hb => ?_⟩
    have h2 := b3d (n := 3 * g) (k := 3) (d8 := d8) (ha _ (List.getElem_mem (by omega : g < d7.length))) i2 b hb
    omega
/-- what is bound ahead of the g-th atom -/
theorem a3b (hk : ∀ a ∈ d7, Few a d8) (hn : d7.length ≤ 4) (ha : ∀ a ∈ d7, a.2.length ≤ 3) (hg : g < d7.length) : (t7 (d7.take g) d8).length * 1000 ≤ 1000000000000 ∧ ∀ b ∈ t7 (d7.take g) d8, b.1.length ≤ 12 ∧ b.2.length ≤ 12 := by
  obtain ⟨i1, i2⟩ := b0y hk ha (g := g) (by omega)
  have h1 : 1000 ^ g ≤ 1000 ^ 3 := Nat.pow_le_pow_right (by decide) (by omega)
  have h2 : (1000 : Nat) ^ 3 = 1000000000 := by decide
  exact ⟨by omega, fun b hb => by have := i2 b hb; omega⟩
theorem a7t (hk : ∀ a ∈ d7, Few a d8) (hn : d7.length ≤ 4) (ha : ∀ a ∈ d7, a.2.length ≤ 3) : (t7 d7 d8).length ≤ 1000000000000 ∧ ∀ b ∈ t7 d7 d8, b.1.length ≤ 12 ∧ b.2.length ≤ 12 := by
  obtain ⟨i1, i2⟩ := b0y hk ha (g := d7.length) (Nat.le_refl _)
  rw [List.take_length] at i1 i2
  have h1 : 1000 ^ d7.length ≤ 1000 ^ 4 := Nat.pow_le_pow_right (by decide) hn
  have h2 : (1000 : Nat) ^ 4 = 1000000000000 := by decide
  exact ⟨by omega, fun b hb => by have := i2 b hb; omega⟩
end
end Go.Proofs.YtdopeopehgdccaaGreat
