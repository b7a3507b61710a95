import Derived.Test.YtlfhopooaejpfaaGreatEa
section
namespace Go.Proofs.YtlfhopooaejpfaaGreat
set_option linter.unusedVariables false
set_option linter.unusedSimpArgs false
def a5b : List Int → Nat
 | [] => 0
 | v :: l => v.toNat + 10 * a5b l
theorem b0V : ∀ {a b : List Int}, a.length = b.length → (∀ x ∈ a, 0 ≤ x ∧ x ≤ 9) → (∀ x ∈ b, 0 ≤ x ∧ x ≤ 9) → a5b a = a5b b → a = b
 | [], [], _, _, _, _ => rfl
 | [], y :: b, hl, _, _, _ => by simp at hl
 | x :: a, [], hl, _, _, _ => by simp at hl
 | x :: a, y :: b, hl, ha, hb, h => by
  have h1 := ha x (by simp)
  have h2 := hb y (by simp)
  simp only [a5b] at h
  rw [b0V (a := a) (b := b) (by simpa using hl) (fun z hz => ha z (by simp [hz])) (fun z hz => hb z (by simp [hz])) (by omega), show x = y by omega]
theorem b3n : ∀ {n : Nat} {a : List Int}, (∀ x ∈ a, 0 ≤ x ∧ x ≤ 9) → a.length ≤ n → a5b a < 10 ^ n
 | n, [], _, _ => by simp [a5b]; exact Nat.pow_pos (by decide)
 | 0, x :: a, _, h => by simp at h
 | n + 1, x :: a, ha, h => by
  have h1 := b3n (n := n) (a := a) (fun z hz => ha z (by simp [hz])) (by simpa using h)
  have h2 := ha x (by simp)
  simp only [a5b, Nat.pow_succ]; omega
section
variable {s : List Int} {c6 i7 : List (Int × List Int)} {a : Int × List Int} {l : List (List Int × List Int)} {b : List Int × List Int} {g h n : Nat}
abbrev Few (a : Int × List Int) (c6 : List (Int × List Int)) : Prop := ∀ b, (P2 b a c6).length ≤ 1000
theorem b8v (hd : c6.Nodup) (ho : ∀ f ∈ c6, H8 s f = true) : Few a c6 := fun b => by
 have hl : ∀ f ∈ c6.filter (v8 b a), f.1 = a.1 ∧ f.2.length = a.2.length ∧ H8 s f = true := fun f hf => by
  obtain ⟨h1, h2⟩ := List.mem_filter.1 hf
  simp only [v8, Bool.and_eq_true, decide_eq_true_eq] at h2
  exact ⟨h2.1.symm, h2.2.1.symm, ho f h1⟩
 have hn : (c6.filter (v8 b a)).Nodup := hd.sublist List.filter_sublist
 have h1 : ((c6.filter (v8 b a)).map fun f => a5b f.2).Nodup := by
  unfold List.Nodup at hn ⊢
  rw [List.pairwise_map]
  refine List.Pairwise.imp_of_mem (fun {x y} hx hy hxy e => hxy ?_) hn
  obtain ⟨x1, x2, x3⟩ := hl x hx
  obtain ⟨y1, y2, y3⟩ := hl y hy
  exact Prod.ext (x1.trans y1.symm) (b0V (x2.trans y2.symm) (W4 x3) (W4 y3) e)
 have h2 := a2K (n := 1000) h1 fun x hx => by
  obtain ⟨f, hf, rfl⟩ := List.mem_map.1 hx
  obtain ⟨x1, x2, x3⟩ := hl f hf
  exact b3n (n := 3) (W4 x3) (M7 x3)
 unfold P2
 simpa using h2
theorem b6x (h : Nat) : (P2 b a (c6.take h)).length ≤ (P2 b a c6).length := by
 unfold P2
 simp only [List.length_map]
 exact ((List.take_sublist h c6).filter _).length_le
theorem a4S (hk : Few a c6) : ∀ {l : List (List Int × List Int)}, (I0 l a c6).length ≤ l.length * 1000
 | [] => by simp [I0]
 | b :: l => by
  have h1 := a4S (l := l) hk
  have h2 := hk b
  simp only [I0, List.flatMap_cons, List.length_append, List.length_cons, Nat.succ_mul] at h1 ⊢; omega
theorem b0W (hk : Few a c6) (hn : l.length * 1000 ≤ n) (hg : g < l.length) (h : Nat) : (I0 (l.take g) a c6 ++ P2 l[g] a (c6.take h)).length ≤ n := by
 have h1 := a4S (l := l.take g) hk
 have h2 := hk l[g]
 have h3 := b6x (b := l[g]) (a := a) (c6 := c6) h
 have h4 : (l.take g).length ≤ g := by simp; omega
 have h5 : (g + 1) * 1000 ≤ l.length * 1000 := Nat.mul_le_mul_right _ hg
 rw [List.length_append]; omega
theorem b2m (hk : ∀ a ∈ i7, Few a c6) (ha : ∀ a ∈ i7, a.2.length ≤ 3) : ∀ {g : Nat}, g ≤ i7.length → (z8 (i7.take g) c6).length ≤ 1000 ^ g ∧ ∀ b ∈ z8 (i7.take g) c6, b.1.length ≤ 3 * g ∧ b.2.length ≤ 3 * g
 | 0, _ => by simp [a1s]
 | g + 1, hg => by
  obtain ⟨i1, i2⟩ := b2m hk ha (g := g) (by omega)
  rw [List.take_succ_eq_append_getElem (by omega), a0M]
  have h1 := a4S (hk _ (List.getElem_mem (by omega : g < i7.length))) (l := z8 (i7.take g) c6)
  refine ⟨Nat.le_trans h1 (by rw [Nat.pow_succ]; exact Nat.mul_le_mul_right _ i1), fun b hb => ?_⟩
  have h2 := b3B (n := 3 * g) (k := 3) (c6 := c6) (ha _ (List.getElem_mem (by omega : g < i7.length))) i2 b hb
  omega
theorem a5h (hk : ∀ a ∈ i7, Few a c6) (hn : i7.length ≤ 4) (ha : ∀ a ∈ i7, a.2.length ≤ 3) (hg : g < i7.length) : (z8 (i7.take g) c6).length * 1000 ≤ 1000000000000 ∧ ∀ b ∈ z8 (i7.take g) c6, b.1.length ≤ 12 ∧ b.2.length ≤ 12 := by
 obtain ⟨i1, i2⟩ := b2m hk ha (g := g) (by omega)
 have h1 : 1000 ^ g ≤ 1000 ^ 3 := Nat.pow_le_pow_right (by decide) (by omega)
 have h2 : (1000 : Nat) ^ 3 = 1000000000 := by decide
 exact ⟨by omega, fun b hb => by have := i2 b hb; omega⟩
theorem a9S (hk : ∀ a ∈ i7, Few a c6) (hn : i7.length ≤ 4) (ha : ∀ a ∈ i7, a.2.length ≤ 3) : (z8 i7 c6).length ≤ 1000000000000 ∧ ∀ b ∈ z8 i7 c6, b.1.length ≤ 12 ∧ b.2.length ≤ 12 := by
 obtain ⟨i1, i2⟩ := b2m hk ha (g := i7.length) (Nat.le_refl _)
 rw [List.take_length] at i1 i2
 have h1 : 1000 ^ i7.length ≤ 1000 ^ 4 := Nat.pow_le_pow_right (by decide) hn
 have h2 : (1000 : Nat) ^ 4 = 1000000000000 := by decide
 exact ⟨by omega, fun b hb => by have := i2 b hb; omega⟩
end
end Go.Proofs.YtlfhopooaejpfaaGreat
end
section
namespace Go.Proofs.YtlfhopooaejpfaaGreat
set_option linter.unusedVariables false
set_option linter.unusedSimpArgs false
abbrev a1k (q : List Int × List (Int × List Int)) : List Int := f0 (fun t => inR t 0 9) q.2
def c4c (s : List Int) (l : List Mth) (d4 : List Rul) (q : List Int × List (Int × List Int)) (c6 : List Fct) : List (List Int) :=
 if b8x s l d4 c6 && C8 s q then b0f q.1 (z8 q.2 (H6 l d4 c6 (a1k q)).1) else []
attribute [local irreducible] H6
section
variable {s : List Int} {l : List Mth} {d4 : List Rul} {c6 : List Fct} {m6 : List Int} {q : List Int × List (Int × List Int)}
theorem nInv.asc {S : NoS} (h : nInv s S) : a0I S.1 := by rw [h.fold]; exact a6l .nil
end
end Go.Proofs.YtlfhopooaejpfaaGreat
end
section
namespace Go.Proofs.YtlfhopooaejpfaaGreat
set_option linter.unusedVariables false
set_option linter.unusedSimpArgs false
section
variable {s : List Int} {l : List Mth} {d4 : List Rul} {c6 : List Fct} {m6 u v : List Int} {q : List Int × List (Int × List Int)} {i7 : List (Int × List Int)} {b : List Int × List Int} {n : Nat}
theorem b3x : V5 i7 b = (i7.map fun a => G6 a b).foldl w6 [] := by
 unfold V5; rw [List.foldl_map]
theorem b8G (h : a4q u n = true) : ∀ x ∈ F9 u n, 0 ≤ x ∧ x ≤ 9 := by
 intro x hx
 unfold F9 at hx
 obtain ⟨i, hi, rfl⟩ := List.mem_map.1 hx
 rw [a4q, List.all_eq_true] at h
 have := h i hi
 rw [decide_eq_true_eq] at this; omega
theorem c0x {v : List Int} (h : ∀ x ∈ v, 0 ≤ x ∧ x ≤ 9) (i : Int) : 0 ≤ at0 v i ∧ at0 v i ≤ 9 := by
 unfold at0
 rcases Nat.lt_or_ge i.toNat v.length with h1 | h1
 ·rw [R7 h1]; exact h _ (List.getElem_mem h1)
 ·rw [List.getD, List.getElem?_eq_none h1]; simp
theorem b9q (h : a4q u (B6 i7).length = true) {t : Int} (ht : S0 t = true) (hm : t ∈ i7.flatMap fun a => a.2) : 0 ≤ C1 (B6 i7, F9 u (B6 i7).length) t ∧ C1 (B6 i7, F9 u (B6 i7).length) t ≤ 9 := by
 by_cases h1 : inR t 10 17 = true
 ·have h2 : t ∈ B6 i7 := by
   unfold B6
   exact a1X.2 ⟨hm, h1⟩
  unfold C1
  rw [if_pos h1]
  have h3 : min (B6 i7, F9 u (B6 i7).length).1.length (B6 i7, F9 u (B6 i7).length).2.length = (B6 i7).length := by simp [a2O]
  rw [h3, List.take_length]
  have h4 : ¬ J8 (fun x => decide (x = t)) (B6 i7) < 0 := by
   unfold J8
   rw [if_pos (List.any_eq_true.2 ⟨t, h2, by simp⟩)]; omega
  simp only [if_neg h4]
  exact c0x (b8G h) _
 ·have h1 : inR t 10 17 = false := by simpa using h1
  rw [← V0 h1]
  rw [S0, h1, Bool.or_false] at ht
  simpa [inR] using ht
theorem b5m (hs : P4 s = true) (ha : a0I c6) (ho : ∀ f ∈ c6, H8 s f = true) (hl : c6.length ≤ 24) : G4 s c6 = true := by
 rw [G4, b5g, hs, decide_eq_true (show (c6.length : Int) ≤ 24 by omega)]
 rw [show c6.drop 0 = c6 from rfl, a5F ha, List.all_eq_true.2 ho]; rfl
theorem b5h (hq : C8 s q = true) (hb : fzB u q.2 = true) : G4 s (fzF u q.2) = true := by
 have h1 := a5w hq
 unfold fzF
 rw [hb, cond_true]
 have h2 := b0H (i7 := q.2) (b := (B6 q.2, F9 u (B6 q.2).length))
 simp only [C8, Bool.and_eq_true, Bool.not_eq_true', List.any_eq_false, Bool.not_eq_true] at hq
 refine b5m hq.1 (by rw [b3x]; exact a6l .nil) (fun f hf => ?_) (by omega)
 rw [b3x] at hf
 rcases (a2c f).1 hf with hf | hf
 ·cases hf
 ·obtain ⟨a, ha, rfl⟩ := List.mem_map.1 hf
  have h3 : Q3 s a = true := by simpa using hq.2.2.1 a ha
  simp only [Q3, Bool.and_eq_true, Bool.not_eq_true', List.any_eq_false, Bool.not_eq_true] at h3
  have h4 : a1W (a.2.map (C1 (B6 q.2, F9 u (B6 q.2).length))) = true := a5t fun x hx => by
   obtain ⟨t, ht, rfl⟩ := List.mem_map.1 hx
   exact b9q hb (by simpa using h3.2.2 t ht) (List.mem_flatMap.2 ⟨a, ha, ht⟩)
  simp only [G6, H8, h3.1, h4, List.length_map, Bool.true_and, Bool.and_true]
  exact h3.2.1
theorem b2D (hr : C4 s d4 = true) (hf : G4 s c6 = true) : ∀ n, ∃ D, a5J s (x5 d4 c6 n) D
 | 0 => ⟨[], a7g hf⟩
 | n + 1 => by
  obtain ⟨D, g⟩ := b2D hr hf n
  by_cases h0 : l6 d4 (x5 d4 c6 n) = []
  ·exact ⟨D, by rw [x5, h0]; exact g⟩
  ·obtain ⟨D', g', _⟩ := a9T g (a2r hr g.2.2.2) h0
   exact ⟨D', g'⟩
theorem a5e (hr : C4 s d4 = true) (hf : G4 s c6 = true) : a0B s (D0 d4 c6) := by
 obtain ⟨D, g⟩ := b2D hr hf 6001
 have h2 := a5a g.1 (fun f hf => g.2.2.2 f (g.2.1 f hf))
 exact ⟨by have := g.2.2.1; unfold D0; omega, g.2.2.2⟩
theorem b0R (hm : C0 s l = true) (hr : C4 s d4 = true) (hf : a0B s c6) : uInv s (H6 l d4 c6 m6) := a2I hm hr hf 6000
theorem a3b {U : UU} (h : uInv s U) (a : Int × List Int) : Few a U.1 := b8v (a4o h.n.asc) h.n.okF
end
def X9 (s : List Int) (l : List Mth) (d4 : List Rul) (q : List Int × List (Int × List Int)) : Bool :=
 (C0 s l && C4 s d4) && (C8 s q && (fzB (a1k q) q.2 && (z8 q.2 (H6 l d4 (D0 d4 (fzF (a1k q) q.2)) (a1k q)).1).any (Q5 q.1 (q.1.map (C1 (fzV (a1k q) q.2, fzX (a1k q) q.2))))))
theorem b0X {s : List Int} {l : List Mth} {d4 : List Rul} {q : List Int × List (Int × List Int)} (h : (C0 s l && C4 s d4) = false) : false = X9 s l d4 q := by rw [X9, h]; rfl
theorem b1w {s : List Int} {l : List Mth} {d4 : List Rul} {q : List Int × List (Int × List Int)} (h : C8 s q = false) : false = X9 s l d4 q := by rw [X9, h]; simp
theorem b1F {s : List Int} {l : List Mth} {d4 : List Rul} {q : List Int × List (Int × List Int)} (h : fzB (a1k q) q.2 = false) : false = X9 s l d4 q := by rw [X9, h]; simp
theorem b1k {s : List Int} {l : List Mth} {d4 : List Rul} {q : List Int × List (Int × List Int)} (h1 : (C0 s l && C4 s d4) = true) (h2 : C8 s q = true) (h3 : fzB (a1k q) q.2 = true) :
  (z8 q.2 (H6 l d4 (D0 d4 (fzF (a1k q) q.2)) (a1k q)).1).any (Q5 q.1 (q.1.map (C1 (fzV (a1k q) q.2, fzX (a1k q) q.2)))) = X9 s l d4 q := by rw [X9, h1, h2, h3]; rfl
end Go.Proofs.YtlfhopooaejpfaaGreat
end
