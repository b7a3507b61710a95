import Derived.Test.YtdopeopehgdccaaGreatBd
namespace Go.Proofs.YtdopeopehgdccaaGreat
set_option linter.unusedVariables false
set_option linter.unusedSimpArgs false
def a1C : List Int → Nat
  | [] => 0
  | v :: l => v.toNat + 10 * a1C l
theorem a6d : ∀ {a b : List Int}, a.length = b.length → (∀ x ∈ a, 0 ≤ x ∧ x ≤ 9) → (∀ x ∈ b, 0 ≤ x ∧ x ≤ 9) → a1C a = a1C b → a = b
  | [], [], _, _, _, _ => rfl
  | [], y :: b, hl, _, _, _ => by simp at hl
  | x :: a, [], hl, _, _, _ => by simp at hl
  | x :: a, y :: b, hl, ha, hb, h => by
    have h1 := ha x (by simp)
    have h2 := hb y (by simp)
    simp only [a1C] at h
    rw [a6d (a := a) (b := b) (by simpa using hl) (fun z hz => ha z (by simp [hz])) (fun z hz => hb z (by simp [hz])) (by omega), show x = y by omega]
theorem a7p : ∀ {n : Nat} {a : List Int}, (∀ x ∈ a, 0 ≤ x ∧ x ≤ 9) → a.length ≤ n → a1C a < 10 ^ n
  | n, [], _, _ => by simp [a1C]; exact Nat.pow_pos (by decide)
  | 0, x :: a, _, h => by simp at h
  | n + 1, x :: a, ha, h => by
    have h1 := a7p (n := n) (a := a) (fun z hz => ha z (by simp [hz])) (by simpa using h)
    have h2 := ha x (by simp)
    simp only [a1C, Nat.pow_succ]; omega
section
variable {s : List Int} {d8 i9 : List (Int × List Int)} {a : Int × List Int} {l : List (List Int × List Int)} {b : List Int × List Int} {g h n : Nat}
/-- at most so many facts go with an atom -/
abbrev Few (a : Int × List Int) (d8 : List (Int × List Int)) : Prop := ∀ b, (G4 b a d8).length ≤ 1000
theorem b2g (hd : d8.Nodup) (ho : ∀ f ∈ d8, F3 s f = true) : Few a d8 := fun b => by
  have hl : ∀ f ∈ d8.filter (l0 b a), f.1 = a.1 ∧ f.2.length = a.2.length ∧ F3 s f = true := fun f hf => by
    obtain ⟨h1, h2⟩ := List.mem_filter.1 hf
    simp only [l0, Bool.and_eq_true, decide_eq_true_eq] at h2
    exact ⟨h2.1.symm, h2.2.1.symm, ho f h1⟩
  have hn : (d8.filter (l0 b a)).Nodup := hd.sublist List.filter_sublist
  have h1 : ((d8.filter (l0 b a)).map fun f => a1C f.2).Nodup := by
    unfold List.Nodup at hn ⊢
    rw [List.pairwise_map]
    refine List.Pairwise.imp_of_mem (fun {x y} hx hy hxy e => hxy ?_) hn
    obtain ⟨x1, x2, x3⟩ := hl x hx
    obtain ⟨y1, y2, y3⟩ := hl y hy
    exact Prod.ext (x1.trans y1.symm) (a6d (x2.trans y2.symm) (V0 x3) (V0 y3) e)
  have h2 := a2o (n := 1000) h1 fun x hx => by
    obtain ⟨f, hf, rfl⟩ := List.mem_map.1 hx
    obtain ⟨x1, x2, x3⟩ := hl f hf
    exact a7p (n := 3) (V0 x3) (P0 x3)
  unfold G4
  simpa using h2
theorem a9J (h : Nat) : (G4 b a (d8.take h)).length ≤ (G4 b a d8).length := by
  unfold G4
  simp only [List.length_map]
  exact ((List.take_sublist h d8).filter _).length_le
theorem a2j (hk : Few a d8) : ∀ {l : List (List Int × List Int)}, (C7 l a d8).length ≤ l.length * 1000
  | [] => by simp [C7]
  | b :: l => by
    have h1 := a2j (l := l) hk
    have h2 := hk b
    simp only [C7, List.flatMap_cons, List.length_append, List.length_cons, Nat.succ_mul] at h1 ⊢; omega
theorem a6j (hk : Few a d8) (hn : l.length * 1000 ≤ n) (hg : g < l.length) (h : Nat) : (C7 (l.take g) a d8 ++ G4 l[g] a (d8.take h)).length ≤ n := by
  have h1 := a2j (l := l.take g) hk
  have h2 := hk l[g]
  have h3 := a9J (b := l[g]) (a := a) (d8 := d8) h
  have h4 : (l.take g).length ≤ g := by simp; omega
  have h5 : (g + 1) * 1000 ≤ l.length * 1000 := Nat.mul_le_mul_right _ hg
  rw [List.length_append]; omega
end
end Go.Proofs.YtdopeopehgdccaaGreat
