import Derived.Test.YtdopeopehgdccaaGreatBd
namespace Go.Proofs.YtdopeopehgdccaaGreat
set_option linter.unusedVariables false
set_option linter.unusedSimpArgs false
def a3q : List Int → Nat
  | [] => 0
  | v :: l => v.toNat + 10 * a3q l
theorem a8h : ∀ {a b : List Int}, a.length = b.length → (∀ x ∈ a, 0 ≤ x ∧ x ≤ 9) → (∀ x ∈ b, 0 ≤ x ∧ x ≤ 9) → a3q a = a3q b → a = b
  | [], [], _, _, _, _ => rfl
  | [], y :: b, hl, _, _, _ => by simp at hl
  | x :: a, [], hl, _, _, _ => by simp at hl
  | x :: a, y :: b, hl, ha, hb, h => by
    have h1 := ha x (by simp)
    have h2 := hb y (by simp)
    simp only [a3q] at h
    rw [a8h (a := a) (b := b) (by simpa using hl) (fun z hz => ha z (by simp [hz])) (fun z hz => hb z (by simp [hz])) (by omega), show x = y by omega]
theorem b0c : ∀ {n : Nat} {a : List Int}, (∀ x ∈ a, 0 ≤ x ∧ x ≤ 9) → a.length ≤ n → a3q a < 10 ^ n
  | n, [], _, _ => by simp [a3q]; exact Nat.pow_pos (by decide)
  | 0, x :: a, _, h => by simp at h
  | n + 1, x :: a, ha, h => by
    have h1 := b0c (n := n) (a := a) (fun z hz => ha z (by simp [hz])) (by simpa using h)
    have h2 := ha x (by simp)
    simp only [a3q, Nat.pow_succ]; omega
section
variable {s : List Int} {d6 n0 : List (Int × List Int)} {a : Int × List Int} {l : List (List Int × List Int)} {b : List Int × List Int} {g h n : Nat}
/-- at most so many facts go with an atom -/
abbrev Few (a : Int × List Int) (d6 : List (Int × List Int)) : Prop := ∀ b, (K4 b a d6).length ≤ 1000
theorem b4p (hd : d6.Nodup) (ho : ∀ f ∈ d6, D6 s f = true) : Few a d6 := fun b => by
  have hl : ∀ f ∈ d6.filter (n9 b a), f.1 = a.1 ∧ f.2.length = a.2.length ∧ D6 s f = true := fun f hf => by
    obtain ⟨h1, h2⟩ := List.mem_filter.1 hf
    simp only [n9, Bool.and_eq_true, decide_eq_true_eq] at h2
    exact ⟨h2.1.symm, h2.2.1.symm, ho f h1⟩
  have hn : (d6.filter (n9 b a)).Nodup := hd.sublist List.filter_sublist
  have h1 : ((d6.filter (n9 b a)).map fun f => a3q f.2).Nodup := by
    unfold List.Nodup at hn ⊢
    rw [List.pairwise_map]
    refine List.Pairwise.imp_of_mem (fun {x y} hx hy hxy e => hxy ?_) hn
    obtain ⟨x1, x2, x3⟩ := hl x hx
    obtain ⟨y1, y2, y3⟩ := hl y hy
    exact Prod.ext (x1.trans y1.symm) (a8h (x2.trans y2.symm) (R2 x3) (R2 y3) e)
  have h2 := a2s (n := 1000) h1 fun x hx => by
    obtain ⟨f, hf, rfl⟩ := List.mem_map.1 hx
    obtain ⟨x1, x2, x3⟩ := hl f hf
    exact b0c (n := 3) (R2 x3) (H6 x3)
  unfold K4
  simpa using h2
theorem b1y (h : Nat) : (K4 b a (d6.take h)).length ≤ (K4 b a d6).length := by
  unfold K4
  simp only [List.length_map]
  exact ((List.take_sublist h d6).filter _).length_le
theorem a2Y (hk : Few a d6) : ∀ {l : List (List Int × List Int)}, (E9 l a d6).length ≤ l.length * 1000
  | [] => by simp [E9]
  | b :: l => by
    have h1 := a2Y (l := l) hk
    have h2 := hk b
    simp only [E9, List.flatMap_cons, List.length_append, List.length_cons, Nat.succ_mul] at h1 ⊢; omega
theorem a8s (hk : Few a d6) (hn : l.length * 1000 ≤ n) (hg : g < l.length) (h : Nat) : (E9 (l.take g) a d6 ++ K4 l[g] a (d6.take h)).length ≤ n := by
  have h1 := a2Y (l := l.take g) hk
  have h2 := hk l[g]
  have h3 := b1y (b := l[g]) (a := a) (d6 := d6) h
  have h4 : (l.take g).length ≤ g := by simp; omega
  have h5 : (g + 1) * 1000 ≤ l.length * 1000 := Nat.mul_le_mul_right _ hg
  rw [List.length_append]; omega
theorem b0p (hk : ∀ a ∈ n0, Few a d6) (ha : ∀ a ∈ n0, a.2.length ≤ 3) : ∀ {g : Nat}, g ≤ n0.length → (t7 (n0.take g) d6).length ≤ 1000 ^ g ∧ ∀ b ∈ t7 (n0.take g) d6, b.1.length ≤ 3 * g ∧ b.2.length ≤ 3 * g
  | 0, _ => by simp [a0r]
  | g + 1, hg => by
    obtain ⟨i1, i2⟩ := b0p hk ha (g := g) (by omega)
    rw [List.take_succ_eq_append_getElem (by omega), Y3]
    have h1 := a2Y (hk _ (List.getElem_mem (by omega : g < n0.length))) (l := t7 (n0.take g) d6)
    refine ⟨Nat.le_trans h1 (by rw [Nat.pow_succ]; exact Nat.mul_le_mul_right _ i1), fun b hb => ?_⟩
    have h2 := b2f (n := 3 * g) (k := 3) (d6 := d6) (ha _ (List.getElem_mem (by omega : g < n0.length))) i2 b hb
    omega
/-- what is bound ahead of the g-th atom -/
theorem a3A (hk : ∀ a ∈ n0, Few a d6) (hn : n0.length ≤ 4) (ha : ∀ a ∈ n0, a.2.length ≤ 3) (hg : g < n0.length) : (t7 (n0.take g) d6).length * 1000 ≤ 1000000000000 ∧ ∀ b ∈ t7 (n0.take g) d6, b.1.length ≤ 12 ∧ b.2.length ≤ 12 := by
  obtain ⟨i1, i2⟩ := b0p hk ha (g := g) (by omega)
  have h1 : 1000 ^ g ≤ 1000 ^ 3 := Nat.pow_le_pow_right (by decide) (by omega)
  have h2 : (1000 : Nat) ^ 3 = 1000000000 := by decide
  exact ⟨by omega, fun b hb => by have := i2 b hb; omega⟩
theorem a6U (hk : ∀ a ∈ n0, Few a d6) (hn : n0.length ≤ 4) (ha : ∀ a ∈ n0, a.2.length ≤ 3) : (t7 n0 d6).length ≤ 1000000000000 ∧ ∀ b ∈ t7 n0 d6, b.1.length ≤ 12 ∧ b.2.length ≤ 12 := by
  obtain ⟨i1, i2⟩ := b0p hk ha (g := n0.length) (Nat.le_refl _)
  rw [List.take_length] at i1 i2
  have h1 : 1000 ^ n0.length ≤ 1000 ^ 4 := Nat.pow_le_pow_right (by decide) hn
  have h2 : (1000 : Nat) ^ 4 = 1000000000000 := by decide
  exact ⟨by omega, fun b hb => by have := i2 b hb; omega⟩
end
end Go.Proofs.YtdopeopehgdccaaGreat
