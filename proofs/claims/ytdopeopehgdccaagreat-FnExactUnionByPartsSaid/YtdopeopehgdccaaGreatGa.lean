import Derived.Test.YtdopeopehgdccaaGreatEy
section
namespace Go.Proofs.YtdopeopehgdccaaGreat
set_option linter.unusedVariables false
set_option linter.unusedSimpArgs false
def a5k : List Int → Nat
 | [] => 0
 | v :: l => v.toNat + 10 * a5k l
theorem b1K : ∀ {a b : List Int}, a.length = b.length → (∀ x ∈ a, 0 ≤ x ∧ x ≤ 9) → (∀ x ∈ b, 0 ≤ x ∧ x ≤ 9) → a5k a = a5k b → a = b
 | [], [], _, _, _, _ => rfl
 | [], y :: b, hl, _, _, _ => by simp at hl
 | x :: a, [], hl, _, _, _ => by simp at hl
 | x :: a, y :: b, hl, ha, hb, h => by
  have h1 := ha x (by simp)
  have h2 := hb y (by simp)
  simp only [a5k] at h
  rw [b1K (a := a) (b := b) (by simpa using hl) (fun z hz => ha z (by simp [hz])) (fun z hz => hb z (by simp [hz])) (by omega), show x = y by omega]
theorem b3L : ∀ {n : Nat} {a : List Int}, (∀ x ∈ a, 0 ≤ x ∧ x ≤ 9) → a.length ≤ n → a5k a < 10 ^ n
 | n, [], _, _ => by simp [a5k]; exact Nat.pow_pos (by decide)
 | 0, x :: a, _, h => by simp at h
 | n + 1, x :: a, ha, h => by
  have h1 := b3L (n := n) (a := a) (fun z hz => ha z (by simp [hz])) (by simpa using h)
  have h2 := ha x (by simp)
  simp only [a5k, Nat.pow_succ]; omega
section
variable {s : List Int} {d7 d8 : List (Int × List Int)} {a : Int × List Int} {l : List (List Int × List Int)} {b : List Int × List Int} {g h n : Nat}
abbrev Few (a : Int × List Int) (d7 : List (Int × List Int)) : Prop := ∀ b, (O9 b a d7).length ≤ 1000
theorem a8e (hf : d7.length ≤ 24) : Few a d7 := fun b => Nat.le_trans a5Y (Nat.le_trans hf (by decide))
theorem c0Z (hd : d7.Nodup) (ho : ∀ f ∈ d7, N7 s f = true) : Few a d7 := fun b => by
 have hl : ∀ f ∈ d7.filter (u0 b a), f.1 = a.1 ∧ f.2.length = a.2.length ∧ N7 s f = true := fun f hf => by
  obtain ⟨h1, h2⟩ := List.mem_filter.1 hf
  simp only [u0, Bool.and_eq_true, decide_eq_true_eq] at h2
  exact ⟨h2.1.symm, h2.2.1.symm, ho f h1⟩
 have hn : (d7.filter (u0 b a)).Nodup := hd.sublist List.filter_sublist
 have h1 : ((d7.filter (u0 b a)).map fun f => a5k f.2).Nodup := by
  unfold List.Nodup at hn ⊢
  rw [List.pairwise_map]
  refine List.Pairwise.imp_of_mem (fun {x y} hx hy hxy e => hxy ?_) hn
  obtain ⟨x1, x2, x3⟩ := hl x hx
  obtain ⟨y1, y2, y3⟩ := hl y hy
  exact Prod.ext (x1.trans y1.symm) (b1K (x2.trans y2.symm) (a1e x3) (a1e y3) e)
 have h2 := a3S (n := 1000) h1 fun x hx => by
  obtain ⟨f, hf, rfl⟩ := List.mem_map.1 hx
  obtain ⟨x1, x2, x3⟩ := hl f hf
  exact b3L (n := 3) (a1e x3) (a0s x3)
 unfold O9
 simpa using h2
theorem b6P (h : Nat) : (O9 b a (d7.take h)).length ≤ (O9 b a d7).length := by
 unfold O9
 simp only [List.length_map]
 exact ((List.take_sublist h d7).filter _).length_le
theorem a4K (hk : Few a d7) : ∀ {l : List (List Int × List Int)}, (G1 l a d7).length ≤ l.length * 1000
 | [] => by simp [G1]
 | b :: l => by
  have h1 := a4K (l := l) hk
  have h2 := hk b
  simp only [G1, List.flatMap_cons, List.length_append, List.length_cons, Nat.succ_mul] at h1 ⊢; omega
theorem b1Z (hk : Few a d7) (hn : l.length * 1000 ≤ n) (hg : g < l.length) (h : Nat) : (G1 (l.take g) a d7 ++ O9 l[g] a (d7.take h)).length ≤ n := by
 have h1 := a4K (l := l.take g) hk
 have h2 := hk l[g]
 have h3 := b6P (b := l[g]) (a := a) (d7 := d7) h
 have h4 : (l.take g).length ≤ g := by simp; omega
 have h5 : (g + 1) * 1000 ≤ l.length * 1000 := Nat.mul_le_mul_right _ hg
 rw [List.length_append]; omega
theorem b3g (hk : ∀ a ∈ d8, Few a d7) (ha : ∀ a ∈ d8, a.2.length ≤ 3) : ∀ {g : Nat}, g ≤ d8.length → (z7 (d8.take g) d7).length ≤ 1000 ^ g ∧ ∀ b ∈ z7 (d8.take g) d7, b.1.length ≤ 3 * g ∧ b.2.length ≤ 3 * g
 | 0, _ => by simp [a2c]
 | g + 1, hg => by
  obtain ⟨i1, i2⟩ := b3g hk ha (g := g) (by omega)
  rw [List.take_succ_eq_append_getElem (by omega), a1D]
  have h1 := a4K (hk _ (List.getElem_mem (by omega : g < d8.length))) (l := z7 (d8.take g) d7)
  refine ⟨Nat.le_trans h1 (by rw [Nat.pow_succ]; exact Nat.mul_le_mul_right _ i1), fun b hb => ?_⟩
  have h2 := b7t (n := 3 * g) (k := 3) (d7 := d7) (ha _ (List.getElem_mem (by omega : g < d8.length))) i2 b hb
  omega
theorem a5o (hk : ∀ a ∈ d8, Few a d7) (hn : d8.length ≤ 4) (ha : ∀ a ∈ d8, a.2.length ≤ 3) (hg : g < d8.length) : (z7 (d8.take g) d7).length * 1000 ≤ 1000000000000 ∧ ∀ b ∈ z7 (d8.take g) d7, b.1.length ≤ 12 ∧ b.2.length ≤ 12 := by
 obtain ⟨i1, i2⟩ := b3g hk ha (g := g) (by omega)
 have h1 : 1000 ^ g ≤ 1000 ^ 3 := Nat.pow_le_pow_right (by decide) (by omega)
 have h2 : (1000 : Nat) ^ 3 = 1000000000 := by decide
 exact ⟨by omega, fun b hb => by have := i2 b hb; omega⟩
theorem a9R (hk : ∀ a ∈ d8, Few a d7) (hn : d8.length ≤ 4) (ha : ∀ a ∈ d8, a.2.length ≤ 3) : (z7 d8 d7).length ≤ 1000000000000 ∧ ∀ b ∈ z7 d8 d7, b.1.length ≤ 12 ∧ b.2.length ≤ 12 := by
 obtain ⟨i1, i2⟩ := b3g hk ha (g := d8.length) (Nat.le_refl _)
 rw [List.take_length] at i1 i2
 have h1 : 1000 ^ d8.length ≤ 1000 ^ 4 := Nat.pow_le_pow_right (by decide) hn
 have h2 : (1000 : Nat) ^ 4 = 1000000000000 := by decide
 exact ⟨by omega, fun b hb => by have := i2 b hb; omega⟩
end
end Go.Proofs.YtdopeopehgdccaaGreat
end
section
namespace Go.Proofs.YtdopeopehgdccaaGreat
set_option linter.unusedVariables false
set_option linter.unusedSimpArgs false
abbrev Bnd := List Int × List Int
abbrev RS := List Bnd × List Acs × List Fct
def C6 (l : List Mth) (d8 : List AT2) (x : Stp) (b : Bnd) : Acs := (x.2, a0D (atM l x.2) (atA d8 x.1) b)
def rb1 (T : Acs → List Fct) (l : List Mth) (d8 : List AT2) (x : Stp) (σ : RS) (b : Bnd) : RS :=
 (σ.1 ++ G1 [b] (atA d8 x.1) (T (C6 l d8 x b)), cond (a2i σ.2.1 (C6 l d8 x b)) σ.2.1 (σ.2.1 ++ [C6 l d8 x b]), cond (a2i σ.2.1 (C6 l d8 x b)) σ.2.2 ((T (C6 l d8 x b)).foldl D4 σ.2.2))
def rbN (T : Acs → List Fct) (l : List Mth) (d8 : List AT2) (x : Stp) (σ : RS) (k : Nat) : RS := (σ.1.take k).foldl (rb1 T l d8 x) ([], σ.2)
def rs1 (T : Acs → List Fct) (l : List Mth) (d8 : List AT2) (σ : RS) (x : Stp) : RS := σ.1.foldl (rb1 T l d8 x) ([], σ.2)
def n8 (T : Acs → List Fct) (l : List Mth) (d8 : List AT2) (d6 : List Stp) : RS := d6.foldl (rs1 T l d8) ([([], [])], [], [])
structure BOk (V : List Int) (n : Nat) (b : Bnd) : Prop where
 eq : b.1.length = b.2.length
 le : b.1.length ≤ n
 val : ∀ x ∈ b.2, 0 ≤ x ∧ x ≤ 9
 has : ∀ v, inR v 10 17 = true → v ∈ V → v ∈ b.1
structure TOk (s : List Int) (D : Acs → Prop) (T : Acs → List Fct) : Prop where
 ok : ∀ a, D a → ∀ f ∈ T a, N7 s f = true
 nod : ∀ a, D a → (T a).Nodup
 len : ∀ a, D a → (T a).length ≤ 24
section
variable {s : List Int} {D : Acs → Prop} {T : Acs → List Fct} {l : List Mth} {d8 : List AT2} {x : Stp} {σ : RS} {b : Bnd} {V : List Int} {n k g : Nat} {a f : Int × List Int} {d6 : List Stp}
theorem b9a {t : Int} (h : b.1.length = b.2.length) (hu : unb b t = false) : t ∈ b.1 := by
 have e : b.1.take (min b.1.length b.2.length) = b.1 := List.take_of_length_le (by omega)
 rw [unb, e, Bool.not_eq_false'] at hu
 obtain ⟨y, hy, hd⟩ := List.any_eq_true.1 hu
 rw [← of_decide_eq_true hd]; exact hy
theorem b8P {t v : Int} (h : BOk V n b) (hv : 0 ≤ v ∧ v ≤ 9) : BOk (V ++ [t]) (n + 1) (E6 b t v) := by
 have h1 := b4N (t := t) (v := v) h.eq
 have h2 := b3T (x := b) (t := t) (v := v)
 have h3 := h.le
 refine ⟨h1, by omega, fun y hy => ?_, fun w hw hm => ?_⟩
 ·unfold E6 at hy
  split at hy
  ·rcases List.mem_append.1 hy with hy | hy
   ·exact h.val y hy
   ·simp only [List.mem_singleton] at hy; subst hy; exact hv
  ·exact h.val y hy
 ·unfold E6
  split
  ·rcases List.mem_append.1 hm with hm | hm
   ·exact List.mem_append_left _ (h.has w hw hm)
   ·exact List.mem_append_right _ hm
  ·rename_i hc
   rcases List.mem_append.1 hm with hm | hm
   ·exact h.has w hw hm
   ·simp only [List.mem_singleton] at hm; subst hm
    rw [hw, Bool.true_and] at hc
    exact b9a h.eq (by simpa using hc)
theorem b3R : ∀ {t v : List Int} {V : List Int} {n : Nat} {b : Bnd}, t.length = v.length → BOk V n b → (∀ y ∈ v, 0 ≤ y ∧ y ≤ 9) → BOk (V ++ t) (n + t.length) (D7 b (t.zip v))
 | [], [], V, n, b, _, h, _ => by simpa [D7] using h
 | [], _ :: _, _, _, _, e, _, _ => by simp at e
 | _ :: _, [], _, _, _, e, _, _ => by simp at e
 | t :: ts, v :: vs, V, n, b, e, h, hv => by
  have h1 := b3R (t := ts) (v := vs) (by simpa using e) (b8P (t := t) h (hv v (List.mem_cons_self ..))) fun y hy => hv y (List.mem_cons_of_mem _ hy)
  rw [List.append_assoc, List.singleton_append] at h1
  rw [List.length_cons, show n + (ts.length + 1) = n + 1 + ts.length from by omega]
  exact h1
theorem b9h {F : List Fct} (h : BOk V n b) (ho : ∀ f ∈ F, N7 s f = true) : ∀ c ∈ O9 b a F, BOk (V ++ a.2) (n + a.2.length) c := by
 intro c hc
 obtain ⟨f, hf, rfl⟩ := List.mem_map.1 hc
 obtain ⟨h1, h2⟩ := List.mem_filter.1 hf
 simp only [u0, Bool.and_eq_true, decide_eq_true_eq] at h2
 exact b3R h2.2.1 h (a1e (ho f h1))
theorem a6f {F : List Fct} : G1 [b] a F = O9 b a F := by simp [G1]
theorem b9k {t : Int} (h : BOk V n b) (ht : inR t 0 9 = true ∨ inR t 10 17 = true) (hV : inR t 10 17 = true → t ∈ V) : 0 ≤ C7 b t ∧ C7 b t ≤ 9 := by
 cases hv : inR t 10 17
 ·rw [← b0N hv]
  rcases ht with ht | ht
  ·exact a0d ht
  ·rw [hv] at ht; cases ht
 ·have hm := h.has t hv (hV hv)
  have e : b.1.take (min b.1.length b.2.length) = b.1 := List.take_of_length_le (by have := h.eq; omega)
  have hi : ¬ J0 (fun x => decide (x = t)) b.1 < 0 := by
   unfold J0
   rw [if_pos (List.any_eq_true.2 ⟨t, hm, by simp⟩)]; omega
  have h2 := a7d hi
  have h3 := h.eq
  simp only [C7, hv, if_true, e, if_neg hi]
  rw [at0, K5 (by omega)]
  exact h.val _ (List.getElem_mem _)
theorem b7a {t : Int} (h : V9 t = true) : inR t 0 9 = true ∨ inR t 10 17 = true := by simpa [V9] using h
theorem c0w (hm : E2 s l = true) (hx : 0 ≤ x.2 ∧ x.2.toNat < l.length) (hc : K6 (atM l x.2) (atA d8 x.1) V = true) (ht : ∀ t ∈ (atA d8 x.1).2, V9 t = true) (h : BOk V n b) : R7 s l (C6 l d8 x b) = true := by
 have hin : ∀ i ∈ (atM l x.2).2.1, a1d (atA d8 x.1) V i = false := fun i hi => by
  have := (Bool.and_eq_true_iff.1 hc).2
  simp only [Bool.not_eq_true', List.any_eq_false, Bool.not_eq_true] at this
  exact this i hi
 rw [R7, hm, Bool.true_and]
 have h1 : inR x.2 0 ((l.length : Int) - 1) = true := by unfold inR; exact decide_eq_true (by omega)
 show (inR x.2 0 ((l.length : Int) - 1) && (decide ((a0D (atM l x.2) (atA d8 x.1) b).length = (atM l x.2).2.1.length) && T7 (a0D (atM l x.2) (atA d8 x.1) b))) = true
 rw [h1, Bool.true_and, decide_eq_true (by simp [a0D]), Bool.true_and]
 refine b6C fun y hy => ?_
 obtain ⟨i, hi, rfl⟩ := List.mem_map.1 hy
 have h2 := hin i hi
 simp only [a1d, Bool.or_eq_false_iff, Bool.not_eq_false', Bool.and_eq_false_imp] at h2
 have h3 := a0d h2.1
 have h4 : at0 (atA d8 x.1).2 i ∈ (atA d8 x.1).2 := by rw [at0, K5 (by omega)]; exact List.getElem_mem _
 refine b9k h (b7a (ht _ h4)) fun hv => ?_
 exact a1z.1 (h2.2 hv)
theorem BOk.mono {m : Nat} (h : BOk V n b) (hn : n ≤ m) : BOk V m b := ⟨h.eq, Nat.le_trans h.le hn, h.val, h.has⟩
structure RInv (s : List Int) (V : List Int) (n m p : Nat) (σ : RS) : Prop where
 b : ∀ b ∈ σ.1, BOk V n b
 len : σ.1.length ≤ m
 log : σ.2.1.length ≤ p
 got : ∀ f ∈ σ.2.2, N7 s f = true
 asc : a2a σ.2.2
theorem RInv.gotL {m p : Nat} (h : RInv s V n m p σ) : σ.2.2.length ≤ 5324 := b6t (a4B h.asc) h.got
theorem RInv.gotE {m p : Nat} (h : RInv s V n m p σ) : ∀ f ∈ σ.2.2, f.2.length ≤ 3 := fun f hf => a0s (h.got f hf)
theorem b9b {m p n' : Nat} (hT : TOk s D T) (hD : D (C6 l d8 x b)) (h : RInv s (V ++ (atA d8 x.1).2) n' m p σ) (hb : BOk V n b) (hn : n + (atA d8 x.1).2.length ≤ n') : RInv s (V ++ (atA d8 x.1).2) n' (m + 24) (p + 1) (rb1 T l d8 x σ b) := by
 refine ⟨fun c hc => ?_, ?_, ?_, ?_, ?_⟩
 ·rcases List.mem_append.1 hc with hc | hc
  ·exact h.b c hc
  ·rw [a6f] at hc
   exact (b9h hb (hT.ok _ hD) c hc).mono hn
 ·show (σ.1 ++ G1 [b] _ _).length ≤ _
  rw [List.length_append, a6f]
  have h1 := a5Y (b := b) (a := atA d8 x.1) (d7 := T (C6 l d8 x b))
  have h2 := hT.len _ hD
  have h3 := h.len
  omega
 ·show (cond _ σ.2.1 _).length ≤ _
  have h3 := h.log
  cases a2i σ.2.1 (C6 l d8 x b)
  ·simp only [cond_false, List.length_append, List.length_cons, List.length_nil]; omega
  ·simp only [cond_true]; omega
 ·show ∀ f ∈ cond _ σ.2.2 _, _
  cases a2i σ.2.1 (C6 l d8 x b)
  ·intro f hf
   rcases (a5n f).1 hf with hf | hf
   ·exact h.got f hf
   ·exact hT.ok _ hD f hf
  ·exact h.got
 ·show a2a (cond _ σ.2.2 _)
  cases a2i σ.2.1 (C6 l d8 x b)
  ·exact a9i h.asc
  ·exact h.asc
theorem a3X (h : k < σ.1.length) : rbN T l d8 x σ (k + 1) = rb1 T l d8 x (rbN T l d8 x σ k) σ.1[k] := by unfold rbN; rw [a1v h]
theorem b4Z (h : k = σ.1.length) : rbN T l d8 x σ k = rs1 T l d8 σ x := by unfold rbN rs1; rw [h, List.take_length]
theorem b1z {m p : Nat} (hT : TOk s D T) (hD : ∀ b ∈ σ.1, D (C6 l d8 x b)) (h : RInv s V n m p σ) : ∀ {k : Nat}, k ≤ σ.1.length → RInv s (V ++ (atA d8 x.1).2) (n + (atA d8 x.1).2.length) (24 * k) (p + k) (rbN T l d8 x σ k)
 | 0, _ => ⟨fun b hb => by simp [rbN] at hb, by simp [rbN], h.log, h.got, h.asc⟩
 | k + 1, hk => by
  have ih := b1z hT hD h (k := k) (by omega)
  rw [a3X (by omega)]
  exact b9b hT (hD _ (List.getElem_mem _)) ih (h.b _ (List.getElem_mem _)) (Nat.le_refl _)
theorem b1G (h : g < d6.length) : n8 T l d8 (d6.take (g + 1)) = rs1 T l d8 (n8 T l d8 (d6.take g)) d6[g] := by unfold n8; rw [a1v h]
theorem b8J {m p : Nat} (hT : TOk s D T) (hD : ∀ b ∈ σ.1, D (C6 l d8 x b)) (h : RInv s V n m p σ) : RInv s (V ++ (atA d8 x.1).2) (n + (atA d8 x.1).2.length) (24 * m) (p + m) (rs1 T l d8 σ x) := by
 have h1 := b1z hT hD h (Nat.le_refl σ.1.length)
 rw [b4Z rfl] at h1
 have h2 := h.len
 exact ⟨h1.b, by have := h1.len; omega, by have := h1.log; omega, h1.got, h1.asc⟩
theorem RInv.mono {m p n' m' p' : Nat} (h : RInv s V n m p σ) (h1 : n ≤ n') (h2 : m ≤ m') (h3 : p ≤ p') : RInv s V n' m' p' σ := ⟨fun b hb => (h.b b hb).mono h1, Nat.le_trans h.len h2, Nat.le_trans h.log h3, h.got, h.asc⟩
theorem b4O {q : List Int × List AT2} {m p : Nat} (hm : E2 s l = true) (hq : ∀ a ∈ q.2, ∀ t ∈ a.2, V9 t = true) (ho : V1 l q.2 d6 (g + 1) = true) (hg : g < d6.length) (h : RInv s (stB q.2 (d6.take g)) n m p σ) : ∀ b ∈ σ.1, R7 s l (C6 l q.2 d6[g] b) = true := fun b hb => by
 have h1 := (Bool.and_eq_true_iff.1 ho).2
 rw [K5 hg] at h1
 simp only [a0f, Bool.and_eq_true] at h1
 have a1 := a0d h1.1
 have a2 := a0d h1.2.2.1
 refine c0w hm ⟨by omega, by omega⟩ h1.2.2.2 (fun t ht => hq _ ?_ t ht) (h.b b hb)
 rw [a3O (by omega)]; exact List.getElem_mem _
theorem b6w : ∀ {k : Nat}, V1 l d8 d6 (g + k) = true → V1 l d8 d6 g = true
 | 0, h => h
 | k + 1, h => b6w (k := k) (by rw [← Nat.add_assoc, V1] at h; exact (Bool.and_eq_true_iff.1 h).1)
theorem b3Y (h : V1 l d8 d6 d6.length = true) (hg : g ≤ d6.length) : V1 l d8 d6 g = true := b6w (k := d6.length - g) (by rw [show g + (d6.length - g) = d6.length from by omega]; exact h)
theorem b8R (h : ∀ a ∈ d8, a.2.length ≤ 3) {i : Int} : (atA d8 i).2.length ≤ 3 := by
 unfold atA
 rcases Nat.lt_or_ge i.toNat d8.length with hk | hk
 ·rw [K5 hk]; exact h _ (List.getElem_mem hk)
 ·simp [List.getD, List.getElem?_eq_none hk]
theorem b4M {q : List Int × List AT2} (hT : TOk s (fun a => R7 s l a = true) T) (hm : E2 s l = true) (hq : ∀ a ∈ q.2, ∀ t ∈ a.2, V9 t = true) (h3 : ∀ a ∈ q.2, a.2.length ≤ 3) (ho : V1 l q.2 d6 d6.length = true) : ∀ {g : Nat}, g ≤ d6.length → RInv s (stB q.2 (d6.take g)) (3 * g) (24 ^ g) (g * 24 ^ g) (n8 T l q.2 (d6.take g))
 | 0, _ => ⟨fun b hb => by
   simp only [n8, List.take_zero, List.foldl_nil, List.mem_singleton] at hb; subst hb
   exact ⟨rfl, by simp, fun x hx => by simp at hx, fun v _ hv => by simp [stB] at hv⟩, by simp [n8], by simp [n8], fun f hf => by simp [n8] at hf, by simp [n8]⟩
 | g + 1, hg => by
  have ih := b4M hT hm hq h3 ho (g := g) (by omega)
  have h1 := b8J (x := d6[g]) hT (b4O hm hq (b3Y ho hg) (by omega) ih) ih
  rw [← b1G (by omega), b7z (by omega)] at h1
  have h2 := b8R h3 (i := d6[g].1)
  refine h1.mono (by omega) (by rw [Nat.pow_succ]; omega) ?_
  rw [Nat.pow_succ, Nat.add_mul]
  have : g * 24 ^ g ≤ g * (24 ^ g * 24) := Nat.mul_le_mul_left _ (by omega)
  omega
theorem TOk.few (hT : TOk s D T) {c : Acs} (h : D c) : Few a (T c) := c0Z (hT.nod _ h) (hT.ok _ h)
theorem a0P (h : k < σ.1.length) : (rbN T l d8 x σ k).1 ++ G1 [σ.1[k]] (atA d8 x.1) (T (C6 l d8 x σ.1[k])) = (rbN T l d8 x σ (k + 1)).1 := by rw [a3X h]; rfl
theorem a0O (h : k < σ.1.length) (hh : a2i (rbN T l d8 x σ k).2.1 (C6 l d8 x σ.1[k]) = false) : (rbN T l d8 x σ k).2.1 ++ [C6 l d8 x σ.1[k]] = (rbN T l d8 x σ (k + 1)).2.1 := by rw [a3X h, rb1, hh]; rfl
theorem a0N (h : k < σ.1.length) (hh : a2i (rbN T l d8 x σ k).2.1 (C6 l d8 x σ.1[k]) = true) : (rbN T l d8 x σ k).2.1 = (rbN T l d8 x σ (k + 1)).2.1 := by rw [a3X h, rb1, hh]; rfl
theorem a0T (h : k < σ.1.length) (hh : a2i (rbN T l d8 x σ k).2.1 (C6 l d8 x σ.1[k]) = false) : (T (C6 l d8 x σ.1[k])).foldl D4 (rbN T l d8 x σ k).2.2 = (rbN T l d8 x σ (k + 1)).2.2 := by rw [a3X h, rb1, hh]; rfl
theorem a0M (h : k < σ.1.length) (hh : a2i (rbN T l d8 x σ k).2.1 (C6 l d8 x σ.1[k]) = true) : (rbN T l d8 x σ k).2.2 = (rbN T l d8 x σ (k + 1)).2.2 := by rw [a3X h, rb1, hh]; rfl
theorem b3k {F v : List Fct} (h : g < F.length) : D4 ((F.take g).foldl D4 v) F[g] = (F.take (g + 1)).foldl D4 v := (a1v h).symm
theorem c0u {d7 : List Fct} {c : Int} (hf : F1 s d7 = true) : TOk s (fun a => R7 s l a = true) fun a => r8 l d7 a c where
 ok := fun a _ f h => (Q3 hf).2 f (b8H h)
 nod := fun a _ => by
  unfold r8
  split
  ·exact a4B (a7Y (b0j hf))
  ·exact a4B (a9j (a7Y (b0j hf)) (Nat.le_refl _)).1
 len := fun a _ => Nat.le_trans b4T (Q3 hf).1
theorem b6M {d7 : List Fct} (hf : F1 s d7 = true) : TOk s (fun a => R7 s l a = true) fun a => n9 l d7 a where
 ok := fun a _ f h => (Q3 hf).2 f (List.mem_filter.1 h).1
 nod := fun a _ => a4B (a7Y (b0j hf))
 len := fun a _ => Nat.le_trans a5H (Q3 hf).1
end
abbrev b9Y := List (List Int) × List Acs × List Fct × Int
def a4w (T : Acs → List Fct) (l : List Mth) (q : List Int × List AT2) (d6 : List Stp) : b9Y :=
 (U1 q.1 (n8 T l q.2 d6).1, (n8 T l q.2 d6).2.1, (n8 T l q.2 d6).2.2, a0r l (n8 T l q.2 d6).2.1)
def N0 (s : List Int) (l : List Mth) (q : List Int × List AT2) (d6 : List Stp) (d7 : List Fct) (c : Int) : b9Y :=
 cond (M5 s l q d6 && F1 s d7) (a4w (fun a => r8 l d7 a c) l q d6) ([], [], [], 0)
section
variable {s : List Int} {T : Acs → List Fct} {l : List Mth} {q : List Int × List AT2} {d6 : List Stp} {d7 : List Fct} {c : Int} {g : Nat}
theorem R5 (h : M5 s l q d6 = false) : ([], [], [], 0) = N0 s l q d6 d7 c := by rw [N0, h]; rfl
theorem R4 (h : F1 s d7 = false) : ([], [], [], 0) = N0 s l q d6 d7 c := by rw [N0, h, Bool.and_false]; rfl
theorem b5b (h : M5 s l q d6 = true) (h2 : F1 s d7 = true) : a4w (fun a => r8 l d7 a c) l q d6 = N0 s l q d6 d7 c := by rw [N0, h, h2]; rfl
theorem a2K (h : M5 s l q d6 = true) : E2 s l = true ∧ D2 s q = true ∧ d6.length = q.2.length ∧ V1 l q.2 d6 d6.length = true := by
 simp only [M5, Bool.and_eq_true, decide_eq_true_eq] at h
 exact ⟨h.1.1, h.1.2, by omega, h.2.2⟩
theorem a6P (h : D2 s q = true) : ∀ a ∈ q.2, ∀ t ∈ a.2, V9 t = true := by
 intro a ha t ht
 simp only [D2, Bool.and_eq_true] at h
 have h1 : P0 s a = true := by
  cases e : P0 s a with
  | true => rfl
  | false =>
   have h2 : (q.2.any fun a => !P0 s a) = true := List.any_eq_true.2 ⟨a, ha, by simp [e]⟩
   rw [h2] at h; simp at h
 cases e : V9 t with
 | true => rfl
 | false =>
  simp only [P0, Bool.and_eq_true] at h1
  have h2 : (a.2.any fun t => !V9 t) = true := List.any_eq_true.2 ⟨t, ht, by simp [e]⟩
  rw [h2] at h1; simp at h1
theorem a7o (ho : M5 s l q d6 = true) (hT : TOk s (fun a => R7 s l a = true) T) (hg : g ≤ d6.length) : RInv s (stB q.2 (d6.take g)) 12 331776 1327104 (n8 T l q.2 (d6.take g)) := by
 obtain ⟨h1, h2, h3, h4⟩ := a2K ho
 have h5 := F7 h2
 have h6 := b4M hT h1 (a6P h2) h5.2.2 h4 hg
 have h7 : 24 ^ g ≤ 24 ^ 4 := Nat.pow_le_pow_right (by decide) (by have := h5.1; omega)
 have h8 : (24 : Nat) ^ 4 = 331776 := by decide
 have h9 : g ≤ 4 := by have := h5.1; omega
 exact h6.mono (by omega) (by omega) (Nat.le_trans (Nat.mul_le_mul h9 h7) (by omega))
theorem b0Y (ho : M5 s l q d6 = true) (hT : TOk s (fun a => R7 s l a = true) T) (hg : g < d6.length) : ∀ b ∈ (n8 T l q.2 (d6.take g)).1, R7 s l (C6 l q.2 d6[g] b) = true := by
 obtain ⟨h1, h2, h3, h4⟩ := a2K ho
 exact b4O h1 (a6P h2) (b3Y h4 (by omega)) hg (a7o ho hT (by omega))
theorem b6A (ho : M5 s l q d6 = true) (hT : TOk s (fun a => R7 s l a = true) T) (hg : g < d6.length) {k : Nat} (hk : k ≤ (n8 T l q.2 (d6.take g)).1.length) : RInv s (stB q.2 (d6.take g) ++ (atA q.2 d6[g].1).2) (12 + (atA q.2 d6[g].1).2.length) (24 * k) (1327104 + k) (rbN T l q.2 d6[g] (n8 T l q.2 (d6.take g)) k) :=
 b1z hT (b0Y ho hT hg) (a7o ho hT (by omega)) hk
theorem b5j (h : g = d6.length) : n8 T l q.2 (d6.take g) = n8 T l q.2 d6 := by rw [h, List.take_length]
end
section
variable {s : List Int} {D : Acs → Prop} {T : Acs → List Fct} {l : List Mth} {q : List Int × List AT2} {d8 : List AT2} {d6 : List Stp} {d7 : List Fct} {c : Int} {g k j n m p : Nat} {V : List Int} {σ : RS} {a : Acs}
theorem b6r (h : V1 l d8 d6 d6.length = true) (hg : g < d6.length) : ∀ i ∈ (atM l d6[g].2).2.1, 0 ≤ i ∧ i.toNat < (atA d8 d6[g].1).2.length := fun i hi => by
 have h1 := (Bool.and_eq_true_iff.1 (b3Y (g := g + 1) h (by omega))).2
 rw [K5 hg] at h1
 simp only [a0f, Bool.and_eq_true] at h1
 have h2 := (Bool.and_eq_true_iff.1 h1.2.2.2).2
 simp only [Bool.not_eq_true', List.any_eq_false, Bool.not_eq_true] at h2
 have h3 := h2 i hi
 simp only [a1d, Bool.or_eq_false_iff, Bool.not_eq_false'] at h3
 have h4 := a0d h3.1
 omega
theorem b6b (h : RInv s V n m p σ) (hT : TOk s D T) (hD : D a) : (((T a).take j).foldl D4 σ.2.2).length ≤ 6000 ∧ ∀ f ∈ ((T a).take j).foldl D4 σ.2.2, f.2.length ≤ 3 := by
 have h1 := a4V (m := (T a).take j) (v := σ.2.2)
 have h2 := h.gotL
 have h3 := hT.len a hD
 have h4 := List.length_take_le' j (T a)
 refine ⟨by omega, fun f hf => ?_⟩
 rcases (a5n f).1 hf with hf | hf
 ·exact h.gotE f hf
 ·exact a0s (hT.ok a hD f (List.mem_of_mem_take hf))
theorem Y3 (hk : k = (n8 T l d8 (d6.take g)).1.length) (hg : g < d6.length) : rbN T l d8 d6[g] (n8 T l d8 (d6.take g)) k = n8 T l d8 (d6.take (g + 1)) := by rw [b4Z hk, b1G hg]
theorem a5N : [([], [])] = (n8 T l d8 (d6.take 0)).1 := rfl
theorem a5S : [] = (n8 T l d8 (d6.take 0)).2.1 := rfl
theorem a5J : [] = (n8 T l d8 (d6.take 0)).2.2 := rfl
theorem a5B {x : Stp} : [] = (rbN T l d8 x σ 0).1 := rfl
theorem a5K {x : Stp} : σ.2.1 = (rbN T l d8 x σ 0).2.1 := rfl
theorem a5x {x : Stp} : σ.2.2 = (rbN T l d8 x σ 0).2.2 := rfl
theorem P1 (h : g = d6.length) : (U1 q.1 (n8 T l q.2 (d6.take g)).1, (n8 T l q.2 (d6.take g)).2.1, (n8 T l q.2 (d6.take g)).2.2, a0r l (n8 T l q.2 (d6.take g)).2.1) = a4w T l q d6 := by rw [a4w, b5j h]
theorem R3 (ho : M5 s l q d6 = true) (hf : F1 s d7 = true) (h : g = d6.length) : (U1 q.1 (n8 (fun a => r8 l d7 a c) l q.2 (d6.take g)).1, (n8 (fun a => r8 l d7 a c) l q.2 (d6.take g)).2.1, (n8 (fun a => r8 l d7 a c) l q.2 (d6.take g)).2.2, a0r l (n8 (fun a => r8 l d7 a c) l q.2 (d6.take g)).2.1) = N0 s l q d6 d7 c := by
 rw [← b5b ho hf, b5j h]; rfl
end
end Go.Proofs.YtdopeopehgdccaaGreat
end
