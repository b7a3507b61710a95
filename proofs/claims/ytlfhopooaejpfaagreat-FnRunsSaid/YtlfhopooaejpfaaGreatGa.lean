import Derived.Test.YtlfhopooaejpfaaGreatEy
section
namespace Go.Proofs.YtlfhopooaejpfaaGreat
set_option linter.unusedVariables false
set_option linter.unusedSimpArgs false
def a2K : List Int → Nat
 | [] => 0
 | v :: l => v.toNat + 10 * a2K l
theorem a8b : ∀ {a b : List Int}, a.length = b.length → (∀ x ∈ a, 0 ≤ x ∧ x ≤ 9) → (∀ x ∈ b, 0 ≤ x ∧ x ≤ 9) → a2K a = a2K b → a = b
 | [], [], _, _, _, _ => rfl
 | [], y :: b, hl, _, _, _ => by simp at hl
 | x :: a, [], hl, _, _, _ => by simp at hl
 | x :: a, y :: b, hl, ha, hb, h => by
  have h1 := ha x (by simp)
  have h2 := hb y (by simp)
  simp only [a2K] at h
  rw [a8b (a := a) (b := b) (by simpa using hl) (fun z hz => ha z (by simp [hz])) (fun z hz => hb z (by simp [hz])) (by omega), show x = y by omega]
theorem a9v : ∀ {n : Nat} {a : List Int}, (∀ x ∈ a, 0 ≤ x ∧ x ≤ 9) → a.length ≤ n → a2K a < 10 ^ n
 | n, [], _, _ => by simp [a2K]; exact Nat.pow_pos (by decide)
 | 0, x :: a, _, h => by simp at h
 | n + 1, x :: a, ha, h => by
  have h1 := a9v (n := n) (a := a) (fun z hz => ha z (by simp [hz])) (by simpa using h)
  have h2 := ha x (by simp)
  simp only [a2K, Nat.pow_succ]; omega
section
variable {s : List Int} {d4 d8 : List (Int × List Int)} {a : Int × List Int} {l : List (List Int × List Int)} {b : List Int × List Int} {g h n : Nat}
abbrev Few (a : Int × List Int) (d4 : List (Int × List Int)) : Prop := ∀ b, (K7 b a d4).length ≤ 1000
theorem b7s (hf : d4.length ≤ 24) : Few a d4 := fun b => Nat.le_trans a2y (Nat.le_trans hf (by decide))
theorem b7c (hd : d4.Nodup) (ho : ∀ f ∈ d4, I0 s f = true) : Few a d4 := fun b => by
 have hl : ∀ f ∈ d4.filter (r8 b a), f.1 = a.1 ∧ f.2.length = a.2.length ∧ I0 s f = true := fun f hf => by
  obtain ⟨h1, h2⟩ := List.mem_filter.1 hf
  simp only [r8, Bool.and_eq_true, decide_eq_true_eq] at h2
  exact ⟨h2.1.symm, h2.2.1.symm, ho f h1⟩
 have hn : (d4.filter (r8 b a)).Nodup := hd.sublist List.filter_sublist
 have h1 : ((d4.filter (r8 b a)).map fun f => a2K f.2).Nodup := by
  unfold List.Nodup at hn ⊢
  rw [List.pairwise_map]
  refine List.Pairwise.imp_of_mem (fun {x y} hx hy hxy e => hxy ?_) hn
  obtain ⟨x1, x2, x3⟩ := hl x hx
  obtain ⟨y1, y2, y3⟩ := hl y hy
  exact Prod.ext (x1.trans y1.symm) (a8b (x2.trans y2.symm) (Y3 x3) (Y3 y3) e)
 have h2 := a2D (n := 1000) h1 fun x hx => by
  obtain ⟨f, hf, rfl⟩ := List.mem_map.1 hx
  obtain ⟨x1, x2, x3⟩ := hl f hf
  exact a9v (n := 3) (Y3 x3) (V3 x3)
 unfold K7
 simpa using h2
theorem b3c (h : Nat) : (K7 b a (d4.take h)).length ≤ (K7 b a d4).length := by
 unfold K7
 simp only [List.length_map]
 exact ((List.take_sublist h d4).filter _).length_le
theorem a2q (hk : Few a d4) : ∀ {l : List (List Int × List Int)}, (E5 l a d4).length ≤ l.length * 1000
 | [] => by simp [E5]
 | b :: l => by
  have h1 := a2q (l := l) hk
  have h2 := hk b
  simp only [E5, List.flatMap_cons, List.length_append, List.length_cons, Nat.succ_mul] at h1 ⊢; omega
theorem a8l (hk : Few a d4) (hn : l.length * 1000 ≤ n) (hg : g < l.length) (h : Nat) : (E5 (l.take g) a d4 ++ K7 l[g] a (d4.take h)).length ≤ n := by
 have h1 := a2q (l := l.take g) hk
 have h2 := hk l[g]
 have h3 := b3c (b := l[g]) (a := a) (d4 := d4) h
 have h4 : (l.take g).length ≤ g := by simp; omega
 have h5 : (g + 1) * 1000 ≤ l.length * 1000 := Nat.mul_le_mul_right _ hg
 rw [List.length_append]; omega
theorem b3j (hk : ∀ a ∈ d8, Few a d4) (ha : ∀ a ∈ d8, a.2.length ≤ 3) : ∀ {g : Nat}, g ≤ d8.length → (J8 (d8.take g) d4).length ≤ 1000 ^ g ∧ ∀ b ∈ J8 (d8.take g) d4, b.1.length ≤ 3 * g ∧ b.2.length ≤ 3 * g
 | 0, _ => by simp [a1X]
 | g + 1, hg => by
  obtain ⟨i1, i2⟩ := b3j hk ha (g := g) (by omega)
  rw [List.take_succ_eq_append_getElem (by omega), a1v]
  have h1 := a2q (hk _ (List.getElem_mem (by omega : g < d8.length))) (l := J8 (d8.take g) d4)
  refine ⟨Nat.le_trans h1 (by rw [Nat.pow_succ]; exact Nat.mul_le_mul_right _ i1), fun b hb => ?_⟩
  have h2 := b0p (n := 3 * g) (k := 3) (d4 := d4) (ha _ (List.getElem_mem (by omega : g < d8.length))) i2 b hb
  omega
theorem a8q (hk : ∀ a ∈ d8, Few a d4) (hn : d8.length ≤ 4) (ha : ∀ a ∈ d8, a.2.length ≤ 3) (hg : g < d8.length) : (J8 (d8.take g) d4).length * 1000 ≤ 1000000000000 ∧ ∀ b ∈ J8 (d8.take g) d4, b.1.length ≤ 12 ∧ b.2.length ≤ 12 := by
 obtain ⟨i1, i2⟩ := b3j hk ha (g := g) (by omega)
 have h1 : 1000 ^ g ≤ 1000 ^ 3 := Nat.pow_le_pow_right (by decide) (by omega)
 have h2 : (1000 : Nat) ^ 3 = 1000000000 := by decide
 exact ⟨by omega, fun b hb => by have := i2 b hb; omega⟩
end
end Go.Proofs.YtlfhopooaejpfaaGreat
end
section
namespace Go.Proofs.YtlfhopooaejpfaaGreat
set_option linter.unusedVariables false
set_option linter.unusedSimpArgs false
abbrev Bnd := List Int × List Int
abbrev RS := List Bnd × List Acs × List Fct
def z7 (l : List Mth) (d8 : List AT2) (x : Stp) (b : Bnd) : Acs := (x.2, V7 (atM l x.2) (atA d8 x.1) b)
def rb1 (T : Acs → List Fct) (l : List Mth) (d8 : List AT2) (x : Stp) (σ : RS) (b : Bnd) : RS :=
 (σ.1 ++ E5 [b] (atA d8 x.1) (T (z7 l d8 x b)), cond (V4 σ.2.1 (z7 l d8 x b)) σ.2.1 (σ.2.1 ++ [z7 l d8 x b]), cond (V4 σ.2.1 (z7 l d8 x b)) σ.2.2 ((T (z7 l d8 x b)).foldl D1 σ.2.2))
def rbN (T : Acs → List Fct) (l : List Mth) (d8 : List AT2) (x : Stp) (σ : RS) (k : Nat) : RS := (σ.1.take k).foldl (rb1 T l d8 x) ([], σ.2)
def rs1 (T : Acs → List Fct) (l : List Mth) (d8 : List AT2) (σ : RS) (x : Stp) : RS := σ.1.foldl (rb1 T l d8 x) ([], σ.2)
def j5 (T : Acs → List Fct) (l : List Mth) (d8 : List AT2) (c6 : List Stp) : RS := c6.foldl (rs1 T l d8) ([([], [])], [], [])
structure BOk (V : List Int) (n : Nat) (b : Bnd) : Prop where
 eq : b.1.length = b.2.length
 le : b.1.length ≤ n
 val : ∀ x ∈ b.2, 0 ≤ x ∧ x ≤ 9
 has : ∀ v, inR v 10 17 = true → v ∈ V → v ∈ b.1
structure TOk (s : List Int) (D : Acs → Prop) (T : Acs → List Fct) : Prop where
 ok : ∀ a, D a → ∀ f ∈ T a, I0 s f = true
 nod : ∀ a, D a → (T a).Nodup
 len : ∀ a, D a → (T a).length ≤ 24
section
variable {s : List Int} {D : Acs → Prop} {T : Acs → List Fct} {l : List Mth} {d8 : List AT2} {x : Stp} {σ : RS} {b : Bnd} {V : List Int} {n k g : Nat} {a f : Int × List Int} {c6 : List Stp}
theorem b5K {t : Int} (h : b.1.length = b.2.length) (hu : unb b t = false) : t ∈ b.1 := by
 have e : b.1.take (min b.1.length b.2.length) = b.1 := List.take_of_length_le (by omega)
 rw [unb, e, Bool.not_eq_false'] at hu
 obtain ⟨y, hy, hd⟩ := List.any_eq_true.1 hu
 rw [← of_decide_eq_true hd]; exact hy
theorem b5P {t v : Int} (h : BOk V n b) (hv : 0 ≤ v ∧ v ≤ 9) : BOk (V ++ [t]) (n + 1) (D5 b t v) := by
 have h1 := a2m (t := t) (v := v) h.eq
 have h2 := b0a (x := b) (t := t) (v := v)
 have h3 := h.le
 refine ⟨h1, by omega, fun y hy => ?_, fun w hw hm => ?_⟩
 ·unfold D5 at hy
  split at hy
  ·rcases List.mem_append.1 hy with hy | hy
   ·exact h.val y hy
   ·simp only [List.mem_singleton] at hy; subst hy; exact hv
  ·exact h.val y hy
 ·unfold D5
  split
  ·rcases List.mem_append.1 hm with hm | hm
   ·exact List.mem_append_left _ (h.has w hw hm)
   ·exact List.mem_append_right _ hm
  ·rename_i hc
   rcases List.mem_append.1 hm with hm | hm
   ·exact h.has w hw hm
   ·simp only [List.mem_singleton] at hm; subst hm
    rw [hw, Bool.true_and] at hc
    exact b5K h.eq (by simpa using hc)
theorem a9k : ∀ {t v : List Int} {V : List Int} {n : Nat} {b : Bnd}, t.length = v.length → BOk V n b → (∀ y ∈ v, 0 ≤ y ∧ y ≤ 9) → BOk (V ++ t) (n + t.length) (C3 b (t.zip v))
 | [], [], V, n, b, _, h, _ => by simpa [C3] using h
 | [], _ :: _, _, _, _, e, _, _ => by simp at e
 | _ :: _, [], _, _, _, e, _, _ => by simp at e
 | t :: ts, v :: vs, V, n, b, e, h, hv => by
  have h1 := a9k (t := ts) (v := vs) (by simpa using e) (b5P (t := t) h (hv v (List.mem_cons_self ..))) fun y hy => hv y (List.mem_cons_of_mem _ hy)
  rw [List.append_assoc, List.singleton_append] at h1
  rw [List.length_cons, show n + (ts.length + 1) = n + 1 + ts.length from by omega]
  exact h1
theorem b5v {F : List Fct} (h : BOk V n b) (ho : ∀ f ∈ F, I0 s f = true) : ∀ c ∈ K7 b a F, BOk (V ++ a.2) (n + a.2.length) c := by
 intro c hc
 obtain ⟨f, hf, rfl⟩ := List.mem_map.1 hc
 obtain ⟨h1, h2⟩ := List.mem_filter.1 hf
 simp only [r8, Bool.and_eq_true, decide_eq_true_eq] at h2
 exact a9k h2.2.1 h (Y3 (ho f h1))
theorem a3V {F : List Fct} : E5 [b] a F = K7 b a F := by simp [E5]
theorem b5E {t : Int} (h : BOk V n b) (ht : inR t 0 9 = true ∨ inR t 10 17 = true) (hV : inR t 10 17 = true → t ∈ V) : 0 ≤ B1 b t ∧ B1 b t ≤ 9 := by
 cases hv : inR t 10 17
 ·rw [← P8 hv]
  rcases ht with ht | ht
  ·exact Q5 ht
  ·rw [hv] at ht; cases ht
 ·have hm := h.has t hv (hV hv)
  have e : b.1.take (min b.1.length b.2.length) = b.1 := List.take_of_length_le (by have := h.eq; omega)
  have hi : ¬ H3 (fun x => decide (x = t)) b.1 < 0 := by
   unfold H3
   rw [if_pos (List.any_eq_true.2 ⟨t, hm, by simp⟩)]; omega
  have h2 := a6I hi
  have h3 := h.eq
  simp only [B1, hv, if_true, e, if_neg hi]
  rw [at0, J0 (by omega)]
  exact h.val _ (List.getElem_mem _)
theorem b2D {t : Int} (h : O8 t = true) : inR t 0 9 = true ∨ inR t 10 17 = true := by simpa [O8] using h
theorem b6e (hm : G5 s l = true) (hx : 0 ≤ x.2 ∧ x.2.toNat < l.length) (hc : P6 (atM l x.2) (atA d8 x.1) V = true) (ht : ∀ t ∈ (atA d8 x.1).2, O8 t = true) (h : BOk V n b) : N6 s l (z7 l d8 x b) = true := by
 have hin : ∀ i ∈ (atM l x.2).2.1, Y1 (atA d8 x.1) V i = false := fun i hi => by
  have := (Bool.and_eq_true_iff.1 hc).2
  simp only [Bool.not_eq_true', List.any_eq_false, Bool.not_eq_true] at this
  exact this i hi
 rw [N6, hm, Bool.true_and]
 have h1 : inR x.2 0 ((l.length : Int) - 1) = true := by unfold inR; exact decide_eq_true (by omega)
 show (inR x.2 0 ((l.length : Int) - 1) && (decide ((V7 (atM l x.2) (atA d8 x.1) b).length = (atM l x.2).2.1.length) && O7 (V7 (atM l x.2) (atA d8 x.1) b))) = true
 rw [h1, Bool.true_and, decide_eq_true (by simp [V7]), Bool.true_and]
 refine b2o fun y hy => ?_
 obtain ⟨i, hi, rfl⟩ := List.mem_map.1 hy
 have h2 := hin i hi
 simp only [Y1, Bool.or_eq_false_iff, Bool.not_eq_false', Bool.and_eq_false_imp] at h2
 have h3 := Q5 h2.1
 have h4 : at0 (atA d8 x.1).2 i ∈ (atA d8 x.1).2 := by rw [at0, J0 (by omega)]; exact List.getElem_mem _
 refine b5E h (b2D (ht _ h4)) fun hv => ?_
 exact Y2.1 (h2.2 hv)
theorem BOk.mono {m : Nat} (h : BOk V n b) (hn : n ≤ m) : BOk V m b := ⟨h.eq, Nat.le_trans h.le hn, h.val, h.has⟩
structure RInv (s : List Int) (V : List Int) (n m p : Nat) (σ : RS) : Prop where
 b : ∀ b ∈ σ.1, BOk V n b
 len : σ.1.length ≤ m
 log : σ.2.1.length ≤ p
 got : ∀ f ∈ σ.2.2, I0 s f = true
 asc : a0G σ.2.2
theorem RInv.gotL {m p : Nat} (h : RInv s V n m p σ) : σ.2.2.length ≤ 5324 := a8z (a1s h.asc) h.got
theorem RInv.gotE {m p : Nat} (h : RInv s V n m p σ) : ∀ f ∈ σ.2.2, f.2.length ≤ 3 := fun f hf => V3 (h.got f hf)
theorem b5p {m p n' : Nat} (hT : TOk s D T) (hD : D (z7 l d8 x b)) (h : RInv s (V ++ (atA d8 x.1).2) n' m p σ) (hb : BOk V n b) (hn : n + (atA d8 x.1).2.length ≤ n') : RInv s (V ++ (atA d8 x.1).2) n' (m + 24) (p + 1) (rb1 T l d8 x σ b) := by
 refine ⟨fun c hc => ?_, ?_, ?_, ?_, ?_⟩
 ·rcases List.mem_append.1 hc with hc | hc
  ·exact h.b c hc
  ·rw [a3V] at hc
   exact (b5v hb (hT.ok _ hD) c hc).mono hn
 ·show (σ.1 ++ E5 [b] _ _).length ≤ _
  rw [List.length_append, a3V]
  have h1 := a2y (b := b) (a := atA d8 x.1) (d4 := T (z7 l d8 x b))
  have h2 := hT.len _ hD
  have h3 := h.len
  omega
 ·show (cond _ σ.2.1 _).length ≤ _
  have h3 := h.log
  cases V4 σ.2.1 (z7 l d8 x b)
  ·simp only [cond_false, List.length_append, List.length_cons, List.length_nil]; omega
  ·simp only [cond_true]; omega
 ·show ∀ f ∈ cond _ σ.2.2 _, _
  cases V4 σ.2.1 (z7 l d8 x b)
  ·intro f hf
   rcases (a1k f).1 hf with hf | hf
   ·exact h.got f hf
   ·exact hT.ok _ hD f hf
  ·exact h.got
 ·show a0G (cond _ σ.2.2 _)
  cases V4 σ.2.1 (z7 l d8 x b)
  ·exact a5V h.asc
  ·exact h.asc
theorem a1c (h : k < σ.1.length) : rbN T l d8 x σ (k + 1) = rb1 T l d8 x (rbN T l d8 x σ k) σ.1[k] := by unfold rbN; rw [a0I h]
theorem a7R (h : k = σ.1.length) : rbN T l d8 x σ k = rs1 T l d8 σ x := by unfold rbN rs1; rw [h, List.take_length]
theorem a7E {m p : Nat} (hT : TOk s D T) (hD : ∀ b ∈ σ.1, D (z7 l d8 x b)) (h : RInv s V n m p σ) : ∀ {k : Nat}, k ≤ σ.1.length → RInv s (V ++ (atA d8 x.1).2) (n + (atA d8 x.1).2.length) (24 * k) (p + k) (rbN T l d8 x σ k)
 | 0, _ => ⟨fun b hb => by simp [rbN] at hb, by simp [rbN], h.log, h.got, h.asc⟩
 | k + 1, hk => by
  have ih := a7E hT hD h (k := k) (by omega)
  rw [a1c (by omega)]
  exact b5p hT (hD _ (List.getElem_mem _)) ih (h.b _ (List.getElem_mem _)) (Nat.le_refl _)
theorem a2L (h : g < c6.length) : j5 T l d8 (c6.take (g + 1)) = rs1 T l d8 (j5 T l d8 (c6.take g)) c6[g] := by unfold j5; rw [a0I h]
theorem b5g {m p : Nat} (hT : TOk s D T) (hD : ∀ b ∈ σ.1, D (z7 l d8 x b)) (h : RInv s V n m p σ) : RInv s (V ++ (atA d8 x.1).2) (n + (atA d8 x.1).2.length) (24 * m) (p + m) (rs1 T l d8 σ x) := by
 have h1 := a7E hT hD h (Nat.le_refl σ.1.length)
 rw [a7R rfl] at h1
 have h2 := h.len
 exact ⟨h1.b, by have := h1.len; omega, by have := h1.log; omega, h1.got, h1.asc⟩
theorem RInv.mono {m p n' m' p' : Nat} (h : RInv s V n m p σ) (h1 : n ≤ n') (h2 : m ≤ m') (h3 : p ≤ p') : RInv s V n' m' p' σ := ⟨fun b hb => (h.b b hb).mono h1, Nat.le_trans h.len h2, Nat.le_trans h.log h3, h.got, h.asc⟩
theorem b0R {q : List Int × List AT2} {m p : Nat} (hm : G5 s l = true) (hq : ∀ a ∈ q.2, ∀ t ∈ a.2, O8 t = true) (ho : Q8 l q.2 c6 (g + 1) = true) (hg : g < c6.length) (h : RInv s (stB q.2 (c6.take g)) n m p σ) : ∀ b ∈ σ.1, N6 s l (z7 l q.2 c6[g] b) = true := fun b hb => by
 have h1 := (Bool.and_eq_true_iff.1 ho).2
 rw [J0 hg] at h1
 simp only [S3, Bool.and_eq_true] at h1
 have a1 := Q5 h1.1
 have a2 := Q5 h1.2.2.1
 refine b6e hm ⟨by omega, by omega⟩ h1.2.2.2 (fun t ht => hq _ ?_ t ht) (h.b b hb)
 rw [V6 (by omega)]; exact List.getElem_mem _
theorem b2P : ∀ {k : Nat}, Q8 l d8 c6 (g + k) = true → Q8 l d8 c6 g = true
 | 0, h => h
 | k + 1, h => b2P (k := k) (by rw [← Nat.add_assoc, Q8] at h; exact (Bool.and_eq_true_iff.1 h).1)
theorem a6Z (h : Q8 l d8 c6 c6.length = true) (hg : g ≤ c6.length) : Q8 l d8 c6 g = true := b2P (k := c6.length - g) (by rw [show g + (c6.length - g) = c6.length from by omega]; exact h)
theorem b5c (h : ∀ a ∈ d8, a.2.length ≤ 3) {i : Int} : (atA d8 i).2.length ≤ 3 := by
 unfold atA
 rcases Nat.lt_or_ge i.toNat d8.length with hk | hk
 ·rw [J0 hk]; exact h _ (List.getElem_mem hk)
 ·simp [List.getD, List.getElem?_eq_none hk]
theorem b0X {q : List Int × List AT2} (hT : TOk s (fun a => N6 s l a = true) T) (hm : G5 s l = true) (hq : ∀ a ∈ q.2, ∀ t ∈ a.2, O8 t = true) (h3 : ∀ a ∈ q.2, a.2.length ≤ 3) (ho : Q8 l q.2 c6 c6.length = true) : ∀ {g : Nat}, g ≤ c6.length → RInv s (stB q.2 (c6.take g)) (3 * g) (24 ^ g) (g * 24 ^ g) (j5 T l q.2 (c6.take g))
 | 0, _ => ⟨fun b hb => by
   simp only [j5, List.take_zero, List.foldl_nil, List.mem_singleton] at hb; subst hb
   exact ⟨rfl, by simp, fun x hx => by simp at hx, fun v _ hv => by simp [stB] at hv⟩, by simp [j5], by simp [j5], fun f hf => by simp [j5] at hf, by simp [j5]⟩
 | g + 1, hg => by
  have ih := b0X hT hm hq h3 ho (g := g) (by omega)
  have h1 := b5g (x := c6[g]) hT (b0R hm hq (a6Z ho hg) (by omega) ih) ih
  rw [← a2L (by omega), a3X (by omega)] at h1
  have h2 := b5c h3 (i := c6[g].1)
  refine h1.mono (by omega) (by rw [Nat.pow_succ]; omega) ?_
  rw [Nat.pow_succ, Nat.add_mul]
  have : g * 24 ^ g ≤ g * (24 ^ g * 24) := Nat.mul_le_mul_left _ (by omega)
  omega
theorem TOk.few (hT : TOk s D T) {c : Acs} (h : D c) : Few a (T c) := b7c (hT.nod _ h) (hT.ok _ h)
theorem W9 (h : k < σ.1.length) : (rbN T l d8 x σ k).1 ++ E5 [σ.1[k]] (atA d8 x.1) (T (z7 l d8 x σ.1[k])) = (rbN T l d8 x σ (k + 1)).1 := by rw [a1c h]; rfl
theorem X1 (h : k < σ.1.length) (hh : V4 (rbN T l d8 x σ k).2.1 (z7 l d8 x σ.1[k]) = false) : (rbN T l d8 x σ k).2.1 ++ [z7 l d8 x σ.1[k]] = (rbN T l d8 x σ (k + 1)).2.1 := by rw [a1c h, rb1, hh]; rfl
theorem W7 (h : k < σ.1.length) (hh : V4 (rbN T l d8 x σ k).2.1 (z7 l d8 x σ.1[k]) = true) : (rbN T l d8 x σ k).2.1 = (rbN T l d8 x σ (k + 1)).2.1 := by rw [a1c h, rb1, hh]; rfl
theorem W8 (h : k < σ.1.length) (hh : V4 (rbN T l d8 x σ k).2.1 (z7 l d8 x σ.1[k]) = false) : (T (z7 l d8 x σ.1[k])).foldl D1 (rbN T l d8 x σ k).2.2 = (rbN T l d8 x σ (k + 1)).2.2 := by rw [a1c h, rb1, hh]; rfl
theorem X2 (h : k < σ.1.length) (hh : V4 (rbN T l d8 x σ k).2.1 (z7 l d8 x σ.1[k]) = true) : (rbN T l d8 x σ k).2.2 = (rbN T l d8 x σ (k + 1)).2.2 := by rw [a1c h, rb1, hh]; rfl
theorem a9T {F v : List Fct} (h : g < F.length) : D1 ((F.take g).foldl D1 v) F[g] = (F.take (g + 1)).foldl D1 v := (a0I h).symm
theorem a9Q {d4 : List Fct} {c : Int} (hf : E0 s d4 = true) : TOk s (fun a => N6 s l a = true) fun a => f5 l d4 a c where
 ok := fun a _ f h => (K3 hf).2 f (a2n h)
 nod := fun a _ => by
  unfold f5
  split
  ·exact a1s (a3A (a4T hf))
  ·exact a1s (a3Y (a3A (a4T hf)) (Nat.le_refl _)).1
 len := fun a _ => Nat.le_trans a5n (K3 hf).1
theorem b5O {l' : List Mth} {d4 : List Fct} {c : Int} (hf : E0 s d4 = true) : TOk s (fun a => N6 s l a = true) fun a => f5 l' d4 a c :=
 ⟨fun a h f hm => (K3 hf).2 f (a2n hm), fun a h => by
  show (f5 l' d4 a c).Nodup
  unfold f5
  split
  ·exact a1s (a3A (a4T hf))
  ·exact a1s (a3Y (a3A (a4T hf)) (Nat.le_refl _)).1, fun a _ => Nat.le_trans a5n (K3 hf).1⟩
end
abbrev b6j := List (List Int) × List Acs × List Fct × Int
def a0F (T : Acs → List Fct) (l : List Mth) (q : List Int × List AT2) (c6 : List Stp) : b6j :=
 (O4 q.1 (j5 T l q.2 c6).1, (j5 T l q.2 c6).2.1, (j5 T l q.2 c6).2.2, U0 l (j5 T l q.2 c6).2.1)
def B9 (s : List Int) (l : List Mth) (q : List Int × List AT2) (c6 : List Stp) (d4 : List Fct) (c : Int) : b6j :=
 cond (H6 s l q c6 && E0 s d4) (a0F (fun a => f5 l d4 a c) l q c6) ([], [], [], 0)
section
variable {s : List Int} {T : Acs → List Fct} {l : List Mth} {q : List Int × List AT2} {c6 : List Stp} {d4 : List Fct} {c : Int} {g : Nat}
theorem F4 (h : H6 s l q c6 = false) : ([], [], [], 0) = B9 s l q c6 d4 c := by rw [B9, h]; rfl
theorem F5 (h : E0 s d4 = false) : ([], [], [], 0) = B9 s l q c6 d4 c := by rw [B9, h, Bool.and_false]; rfl
theorem L7 (h : H6 s l q c6 = true) (h2 : E0 s d4 = true) : a0F (fun a => f5 l d4 a c) l q c6 = B9 s l q c6 d4 c := by rw [B9, h, h2]; rfl
theorem Y5 (h : H6 s l q c6 = true) : G5 s l = true ∧ z8 s q = true ∧ c6.length = q.2.length ∧ Q8 l q.2 c6 c6.length = true := by
 simp only [H6, Bool.and_eq_true, decide_eq_true_eq] at h
 exact ⟨h.1.1, h.1.2, by omega, h.2.2⟩
theorem a4v (h : z8 s q = true) : ∀ a ∈ q.2, ∀ t ∈ a.2, O8 t = true := by
 intro a ha t ht
 simp only [z8, Bool.and_eq_true] at h
 have h1 : M8 s a = true := by
  cases e : M8 s a with
  | true => rfl
  | false =>
   have h2 : (q.2.any fun a => !M8 s a) = true := List.any_eq_true.2 ⟨a, ha, by simp [e]⟩
   rw [h2] at h; simp at h
 cases e : O8 t with
 | true => rfl
 | false =>
  simp only [M8, Bool.and_eq_true] at h1
  have h2 : (a.2.any fun t => !O8 t) = true := List.any_eq_true.2 ⟨t, ht, by simp [e]⟩
  rw [h2] at h1; simp at h1
theorem a4W (ho : H6 s l q c6 = true) (hT : TOk s (fun a => N6 s l a = true) T) (hg : g ≤ c6.length) : RInv s (stB q.2 (c6.take g)) 12 331776 1327104 (j5 T l q.2 (c6.take g)) := by
 obtain ⟨h1, h2, h3, h4⟩ := Y5 ho
 have h5 := R6 h2
 have h6 := b0X hT h1 (a4v h2) h5.2.2 h4 hg
 have h7 : 24 ^ g ≤ 24 ^ 4 := Nat.pow_le_pow_right (by decide) (by have := h5.1; omega)
 have h8 : (24 : Nat) ^ 4 = 331776 := by decide
 have h9 : g ≤ 4 := by have := h5.1; omega
 exact h6.mono (by omega) (by omega) (Nat.le_trans (Nat.mul_le_mul h9 h7) (by omega))
theorem a5m (ho : H6 s l q c6 = true) (hT : TOk s (fun a => N6 s l a = true) T) (hg : g < c6.length) : ∀ b ∈ (j5 T l q.2 (c6.take g)).1, N6 s l (z7 l q.2 c6[g] b) = true := by
 obtain ⟨h1, h2, h3, h4⟩ := Y5 ho
 exact b0R h1 (a4v h2) (a6Z h4 (by omega)) hg (a4W ho hT (by omega))
theorem b2N (ho : H6 s l q c6 = true) (hT : TOk s (fun a => N6 s l a = true) T) (hg : g < c6.length) {k : Nat} (hk : k ≤ (j5 T l q.2 (c6.take g)).1.length) : RInv s (stB q.2 (c6.take g) ++ (atA q.2 c6[g].1).2) (12 + (atA q.2 c6[g].1).2.length) (24 * k) (1327104 + k) (rbN T l q.2 c6[g] (j5 T l q.2 (c6.take g)) k) :=
 a7E hT (a5m ho hT hg) (a4W ho hT (by omega)) hk
theorem b1i (h : g = c6.length) : j5 T l q.2 (c6.take g) = j5 T l q.2 c6 := by rw [h, List.take_length]
end
section
variable {s : List Int} {D : Acs → Prop} {T : Acs → List Fct} {l : List Mth} {q : List Int × List AT2} {d8 : List AT2} {c6 : List Stp} {d4 : List Fct} {c : Int} {g k j n m p : Nat} {V : List Int} {σ : RS} {a : Acs}
theorem b2p (h : Q8 l d8 c6 c6.length = true) (hg : g < c6.length) : ∀ i ∈ (atM l c6[g].2).2.1, 0 ≤ i ∧ i.toNat < (atA d8 c6[g].1).2.length := fun i hi => by
 have h1 := (Bool.and_eq_true_iff.1 (a6Z (g := g + 1) h (by omega))).2
 rw [J0 hg] at h1
 simp only [S3, Bool.and_eq_true] at h1
 have h2 := (Bool.and_eq_true_iff.1 h1.2.2.2).2
 simp only [Bool.not_eq_true', List.any_eq_false, Bool.not_eq_true] at h2
 have h3 := h2 i hi
 simp only [Y1, Bool.or_eq_false_iff, Bool.not_eq_false'] at h3
 have h4 := Q5 h3.1
 omega
theorem b3i (h : RInv s V n m p σ) (hT : TOk s D T) (hD : D a) : (((T a).take j).foldl D1 σ.2.2).length ≤ 6000 ∧ ∀ f ∈ ((T a).take j).foldl D1 σ.2.2, f.2.length ≤ 3 := by
 have h1 := a2B (m := (T a).take j) (v := σ.2.2)
 have h2 := h.gotL
 have h3 := hT.len a hD
 have h4 := List.length_take_le' j (T a)
 refine ⟨by omega, fun f hf => ?_⟩
 rcases (a1k f).1 hf with hf | hf
 ·exact h.gotE f hf
 ·exact V3 (hT.ok a hD f (List.mem_of_mem_take hf))
theorem S4 (hk : k = (j5 T l d8 (c6.take g)).1.length) (hg : g < c6.length) : rbN T l d8 c6[g] (j5 T l d8 (c6.take g)) k = j5 T l d8 (c6.take (g + 1)) := by rw [a7R hk, a2L hg]
theorem a3s : [([], [])] = (j5 T l d8 (c6.take 0)).1 := rfl
theorem a3y : [] = (j5 T l d8 (c6.take 0)).2.1 := rfl
theorem a3C : [] = (j5 T l d8 (c6.take 0)).2.2 := rfl
theorem a3p {x : Stp} : [] = (rbN T l d8 x σ 0).1 := rfl
theorem a3E {x : Stp} : σ.2.1 = (rbN T l d8 x σ 0).2.1 := rfl
theorem a3m {x : Stp} : σ.2.2 = (rbN T l d8 x σ 0).2.2 := rfl
theorem K6 (h : g = c6.length) : (O4 q.1 (j5 T l q.2 (c6.take g)).1, (j5 T l q.2 (c6.take g)).2.1, (j5 T l q.2 (c6.take g)).2.2, U0 l (j5 T l q.2 (c6.take g)).2.1) = a0F T l q c6 := by rw [a0F, b1i h]
theorem N4 (ho : H6 s l q c6 = true) (hf : E0 s d4 = true) (h : g = c6.length) : (O4 q.1 (j5 (fun a => f5 l d4 a c) l q.2 (c6.take g)).1, (j5 (fun a => f5 l d4 a c) l q.2 (c6.take g)).2.1, (j5 (fun a => f5 l d4 a c) l q.2 (c6.take g)).2.2, U0 l (j5 (fun a => f5 l d4 a c) l q.2 (c6.take g)).2.1) = B9 s l q c6 d4 c := by
 rw [← L7 ho hf, b1i h]; rfl
end
end Go.Proofs.YtlfhopooaejpfaaGreat
end
