import Derived.Test.YtonkkkjgdohooaaGreatBd
namespace Go.Proofs.YtonkkkjgdohooaaGreat
set_option linter.unusedVariables false
set_option linter.unusedSimpArgs false
def codeT : List Int → Nat
  | [] => 0
  | v :: l => v.toNat + 10 * codeT l
theorem codeT_inj : ∀ {a b : List Int}, a.length = b.length → (∀ x ∈ a, 0 ≤ x ∧ x ≤ 9) → (∀ x ∈ b, 0 ≤ x ∧ x ≤ 9) → codeT a = codeT b → a = b
  | [], [], _, _, _, _ => rfl
  | [], y :: b, hl, _, _, _ => by simp at hl
  | x :: a, [], hl, _, _, _ => by simp at hl
  | x :: a, y :: b, hl, ha, hb, h => by
    have h1 := ha x (by simp)
    have h2 := hb y (by simp)
    simp only [codeT] at h
    rw [codeT_inj (a := a) (b := b) (by simpa using hl) (fun z hz => ha z (by simp [hz])) (fun z hz => hb z (by simp [hz])) (by omega), show x = y by omega]
theorem codeT_lt : ∀ {n : Nat} {a : List Int}, (∀ x ∈ a, 0 ≤ x ∧ x ≤ 9) → a.length ≤ n → codeT a < 10 ^ n
  | n, [], _, _ => by simp [codeT]; exact Nat.pow_pos (by decide)
  | 0, x :: a, _, h => by simp at h
  | n + 1, x :: a, ha, h => by
    have h1 := codeT_lt (n := n) (a := a) (fun z hz => ha z (by simp [hz])) (by simpa using h)
    have h2 := ha x (by simp)
    simp only [codeT, Nat.pow_succ]; omega
section
variable {s : List Int} {facts atoms : List (Int × List Int)} {a : Int × List Int} {l : List (List Int × List Int)} {b : List Int × List Int} {g h n : Nat}
/-- at most so many facts go with an atom -/
abbrev Few (a : Int × List Int) (facts : List (Int × List Int)) : Prop := ∀ b, (ext1 b a facts).length ≤ 1000
theorem fewOk (hd : facts.Nodup) (ho : ∀ f ∈ facts, okFact s f = true) : Few a facts := fun b => by
  have hl : ∀ f ∈ facts.filter (matchB b a), f.1 = a.1 ∧ f.2.length = a.2.length ∧ okFact s f = true := fun f hf => by
    obtain ⟨h1, h2⟩ := List.mem_filter.1 hf
    simp only [matchB, Bool.and_eq_true, decide_eq_true_eq] at h2
    exact ⟨h2.1.symm, h2.2.1.symm, ho f h1⟩
  have hn : (facts.filter (matchB b a)).Nodup := hd.sublist List.filter_sublist
  have h1 : ((facts.filter (matchB b a)).map fun f => codeT f.2).Nodup := by
    unfold List.Nodup at hn ⊢
    rw [List.pairwise_map]
    refine List.Pairwise.imp_of_mem (fun {x y} hx hy hxy e => hxy ?_) hn
    obtain ⟨x1, x2, x3⟩ := hl x hx
    obtain ⟨y1, y2, y3⟩ := hl y hy
    exact Prod.ext (x1.trans y1.symm) (codeT_inj (x2.trans y2.symm) (okFact_vals x3) (okFact_vals y3) e)
  have h2 := nodup_lt (n := 1000) h1 fun x hx => by
    obtain ⟨f, hf, rfl⟩ := List.mem_map.1 hx
    obtain ⟨x1, x2, x3⟩ := hl f hf
    exact codeT_lt (n := 3) (okFact_vals x3) (okFact_len x3)
  unfold ext1
  simpa using h2
theorem ext1_take (h : Nat) : (ext1 b a (facts.take h)).length ≤ (ext1 b a facts).length := by
  unfold ext1
  simp only [List.length_map]
  exact ((List.take_sublist h facts).filter _).length_le
theorem extK_len (hk : Few a facts) : ∀ {l : List (List Int × List Int)}, (extF l a facts).length ≤ l.length * 1000
  | [] => by simp [extF]
  | b :: l => by
    have h1 := extK_len (l := l) hk
    have h2 := hk b
    simp only [extF, List.flatMap_cons, List.length_append, List.length_cons, Nat.succ_mul] at h1 ⊢; omega
theorem extK_lent (hk : Few a facts) (hn : l.length * 1000 ≤ n) (hg : g < l.length) (h : Nat) : (extF (l.take g) a facts ++ ext1 l[g] a (facts.take h)).length ≤ n := by
  have h1 := extK_len (l := l.take g) hk
  have h2 := hk l[g]
  have h3 := ext1_take (b := l[g]) (a := a) (facts := facts) h
  have h4 : (l.take g).length ≤ g := by simp; omega
  have h5 : (g + 1) * 1000 ≤ l.length * 1000 := Nat.mul_le_mul_right _ hg
  rw [List.length_append]; omega
theorem bindsK (hk : ∀ a ∈ atoms, Few a facts) (ha : ∀ a ∈ atoms, a.2.length ≤ 3) : ∀ {g : Nat}, g ≤ atoms.length → (bindsF (atoms.take g) facts).length ≤ 1000 ^ g ∧ ∀ b ∈ bindsF (atoms.take g) facts, b.1.length ≤ 3 * g ∧ b.2.length ≤ 3 * g
  | 0, _ => by simp [binds_nil]
  | g + 1, hg => by
    obtain ⟨i1, i2⟩ := bindsK hk ha (g := g) (by omega)
    rw [List.take_succ_eq_append_getElem (by omega), binds_snoc]
    have h1 := extK_len (hk _ (List.getElem_mem (by omega : g < atoms.length))) (l := bindsF (atoms.take g) facts)
    refine ⟨Nat.le_trans h1 (by rw [Nat.pow_succ]; exact Nat.mul_le_mul_right _ i1), fun b hb => ?_⟩
    have h2 := extF_mem (n := 3 * g) (k := 3) (facts := facts) (ha _ (List.getElem_mem (by omega : g < atoms.length))) i2 b hb
    omega
/-- what is bound ahead of the g-th atom -/
theorem bindsK_at (hk : ∀ a ∈ atoms, Few a facts) (hn : atoms.length ≤ 4) (ha : ∀ a ∈ atoms, a.2.length ≤ 3) (hg : g < atoms.length) : (bindsF (atoms.take g) facts).length * 1000 ≤ 1000000000000 ∧ ∀ b ∈ bindsF (atoms.take g) facts, b.1.length ≤ 12 ∧ b.2.length ≤ 12 := by
  obtain ⟨i1, i2⟩ := bindsK hk ha (g := g) (by omega)
  have h1 : 1000 ^ g ≤ 1000 ^ 3 := Nat.pow_le_pow_right (by decide) (by omega)
  have h2 : (1000 : Nat) ^ 3 = 1000000000 := by decide
  exact ⟨by omega, fun b hb => by have := i2 b hb; omega⟩
theorem bindsK_all (hk : ∀ a ∈ atoms, Few a facts) (hn : atoms.length ≤ 4) (ha : ∀ a ∈ atoms, a.2.length ≤ 3) : (bindsF atoms facts).length ≤ 1000000000000 ∧ ∀ b ∈ bindsF atoms facts, b.1.length ≤ 12 ∧ b.2.length ≤ 12 := by
  obtain ⟨i1, i2⟩ := bindsK hk ha (g := atoms.length) (Nat.le_refl _)
  rw [List.take_length] at i1 i2
  have h1 : 1000 ^ atoms.length ≤ 1000 ^ 4 := Nat.pow_le_pow_right (by decide) hn
  have h2 : (1000 : Nat) ^ 4 = 1000000000000 := by decide
  exact ⟨by omega, fun b hb => by have := i2 b hb; omega⟩
end
end Go.Proofs.YtonkkkjgdohooaaGreat
