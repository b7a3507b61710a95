import Derived.Test.YthapcdhdfaibkaaGreatDoorEy
section
namespace Go.Proofs.YthapcdhdfaibkaaGreatDoor
set_option linter.all false
def a4Z : List Int → Nat
 | [] => 0
 | v :: l => v.toNat + 10 * a4Z l
theorem b1g : ∀ {a b : List Int}, a.length = b.length → (∀ x ∈ a, 0 ≤ x ∧ x ≤ 9) → (∀ x ∈ b, 0 ≤ x ∧ x ≤ 9) → a4Z a = a4Z b → a = b
 | [], [], _, _, _, _ => rfl
 | [], y :: b, hl, _, _, _ => by simp at hl
 | x :: a, [], hl, _, _, _ => by simp at hl
 | x :: a, y :: b, hl, ha, hb, h => by
  have h1 := ha x (by simp)
  have h2 := hb y (by simp)
  simp only [a4Z] at h
  rw [b1g (a := a) (b := b) (by simpa using hl) (fun z hz => ha z (by simp [hz])) (fun z hz => hb z (by simp [hz])) (by omega), show x = y by omega]
theorem b2N : ∀ {n : Nat} {a : List Int}, (∀ x ∈ a, 0 ≤ x ∧ x ≤ 9) → a.length ≤ n → a4Z a < 10 ^ n
 | n, [], _, _ => by simp [a4Z]; exact Nat.pow_pos (by decide)
 | 0, x :: a, _, h => by simp at h
 | n + 1, x :: a, ha, h => by
  have h1 := b2N (n := n) (a := a) (fun z hz => ha z (by simp [hz])) (by simpa using h)
  have h2 := ha x (by simp)
  simp only [a4Z, Nat.pow_succ]; omega
section
variable {s : List Int} {d6 d9 : List IL} {a : IL} {l : List (List Int × List Int)} {b : List Int × List Int} {g h n : Nat}
abbrev Few (a : IL) (d6 : List IL) : Prop := ∀ b, (Y0 b a d6).length ≤ 1000
theorem a7R (hf : d6.length ≤ 24) : Few a d6 := fun b => Nat.le_trans a4r (Nat.le_trans hf (by decide))
theorem c0M (hd : d6.Nodup) (ho : ∀ f ∈ d6, O6 s f = true) : Few a d6 := fun b => by
 have hl : ∀ f ∈ d6.filter (s7 b a), f.1 = a.1 ∧ f.2.length = a.2.length ∧ O6 s f = true := fun f hf => by
  obtain ⟨h1, h2⟩ := List.mem_filter.1 hf
  simp only [s7, Bool.and_eq_true, decide_eq_true_eq] at h2
  exact ⟨h2.1.symm, h2.2.1.symm, ho f h1⟩
 have hn : (d6.filter (s7 b a)).Nodup := hd.sublist List.filter_sublist
 have h1 : ((d6.filter (s7 b a)).map fun f => a4Z f.2).Nodup := by
  unfold List.Nodup at hn ⊢
  rw [List.pairwise_map]
  refine List.Pairwise.imp_of_mem (fun {x y} hx hy hxy e => hxy ?_) hn
  obtain ⟨x1, x2, x3⟩ := hl x hx
  obtain ⟨y1, y2, y3⟩ := hl y hy
  exact Prod.ext (x1.trans y1.symm) (b1g (x2.trans y2.symm) (a1j x3) (a1j y3) e)
 have h2 := a4y (n := 1000) h1 fun x hx => by
  obtain ⟨f, hf, rfl⟩ := List.mem_map.1 hx
  obtain ⟨x1, x2, x3⟩ := hl f hf
  exact b2N (n := 3) (a1j x3) (W7 x3)
 unfold Y0
 simpa using h2
theorem b6j (h : Nat) : (Y0 b a (d6.take h)).length ≤ (Y0 b a d6).length := by
 unfold Y0
 simp only [List.length_map]
 exact ((List.take_sublist h d6).filter _).length_le
theorem a4k (hk : Few a d6) : ∀ {l : List (List Int × List Int)}, (J6 l a d6).length ≤ l.length * 1000
 | [] => by simp [J6]
 | b :: l => by
  have h1 := a4k (l := l) hk
  have h2 := hk b
  simp only [J6, List.flatMap_cons, List.length_append, List.length_cons, Nat.succ_mul] at h1 ⊢; omega
theorem b0T (hk : Few a d6) (hn : l.length * 1000 ≤ n) (hg : g < l.length) (h : Nat) : (J6 (l.take g) a d6 ++ Y0 l[g] a (d6.take h)).length ≤ n := by
 have h1 := a4k (l := l.take g) hk
 have h2 := hk l[g]
 have h3 := b6j (b := l[g]) (a := a) (d6 := d6) h
 have h4 : (l.take g).length ≤ g := by simp; omega
 have h5 : (g + 1) * 1000 ≤ l.length * 1000 := Nat.mul_le_mul_right _ hg
 rw [List.length_append]; omega
theorem b2j (hk : ∀ a ∈ d9, Few a d6) (ha : ∀ a ∈ d9, a.2.length ≤ 3) : ∀ {g : Nat}, g ≤ d9.length → (H6 (d9.take g) d6).length ≤ 1000 ^ g ∧ ∀ b ∈ H6 (d9.take g) d6, b.1.length ≤ 3 * g ∧ b.2.length ≤ 3 * g
 | 0, _ => by simp [a1v]
 | g + 1, hg => by
  obtain ⟨i1, i2⟩ := b2j hk ha (g := g) (by omega)
  rw [List.take_succ_eq_append_getElem (by omega), a1c]
  have h1 := a4k (hk _ (List.getElem_mem (by omega : g < d9.length))) (l := H6 (d9.take g) d6)
  refine ⟨Nat.le_trans h1 (by rw [Nat.pow_succ]; exact Nat.mul_le_mul_right _ i1), fun b hb => ?_⟩
  have h2 := b1V (n := 3 * g) (k := 3) (d6 := d6) (ha _ (List.getElem_mem (by omega : g < d9.length))) i2 b hb
  omega
theorem a4L (hk : ∀ a ∈ d9, Few a d6) (hn : d9.length ≤ 4) (ha : ∀ a ∈ d9, a.2.length ≤ 3) (hg : g < d9.length) : (H6 (d9.take g) d6).length * 1000 ≤ 1000000000000 ∧ ∀ b ∈ H6 (d9.take g) d6, b.1.length ≤ 12 ∧ b.2.length ≤ 12 := by
 obtain ⟨i1, i2⟩ := b2j hk ha (g := g) (by omega)
 have h1 : 1000 ^ g ≤ 1000 ^ 3 := Nat.pow_le_pow_right (by decide) (by omega)
 have h2 : (1000 : Nat) ^ 3 = 1000000000 := by decide
 exact ⟨by omega, fun b hb => by have := i2 b hb; omega⟩
theorem b4H (hk : ∀ a ∈ d9, Few a d6) (hn : d9.length ≤ 4) (ha : ∀ a ∈ d9, a.2.length ≤ 3) : (H6 d9 d6).length ≤ 1000000000000 ∧ ∀ b ∈ H6 d9 d6, b.1.length ≤ 12 ∧ b.2.length ≤ 12 := by
 obtain ⟨i1, i2⟩ := b2j hk ha (g := d9.length) (Nat.le_refl _)
 rw [List.take_length] at i1 i2
 have h1 : 1000 ^ d9.length ≤ 1000 ^ 4 := Nat.pow_le_pow_right (by decide) hn
 have h2 : (1000 : Nat) ^ 4 = 1000000000000 := by decide
 exact ⟨by omega, fun b hb => by have := i2 b hb; omega⟩
end
end Go.Proofs.YthapcdhdfaibkaaGreatDoor
end
section
namespace Go.Proofs.YthapcdhdfaibkaaGreatDoor
set_option linter.all false
abbrev Bnd := List Int × List Int
abbrev RS := List Bnd × List Acs × List Fct
def D7 (l : List Mth) (d9 : List AT2) (x : Stp) (b : Bnd) : Acs := (x.2, R0 (atM l x.2) (atA d9 x.1) b)
def rb1 (T : Acs → List Fct) (l : List Mth) (d9 : List AT2) (x : Stp) (σ : RS) (b : Bnd) : RS :=
 (σ.1 ++ J6 [b] (atA d9 x.1) (T (D7 l d9 x b)), cond (W6 σ.2.1 (D7 l d9 x b)) σ.2.1 (σ.2.1 ++ [D7 l d9 x b]), cond (W6 σ.2.1 (D7 l d9 x b)) σ.2.2 ((T (D7 l d9 x b)).foldl G8 σ.2.2))
def rbN (T : Acs → List Fct) (l : List Mth) (d9 : List AT2) (x : Stp) (σ : RS) (k : Nat) : RS := (σ.1.take k).foldl (rb1 T l d9 x) ([], σ.2)
def rs1 (T : Acs → List Fct) (l : List Mth) (d9 : List AT2) (σ : RS) (x : Stp) : RS := σ.1.foldl (rb1 T l d9 x) ([], σ.2)
def m7 (T : Acs → List Fct) (l : List Mth) (d9 : List AT2) (d7 : List Stp) : RS := d7.foldl (rs1 T l d9) ([([], [])], [], [])
structure BOk (V : List Int) (n : Nat) (b : Bnd) : Prop where
 eq : b.1.length = b.2.length
 le : b.1.length ≤ n
 val : ∀ x ∈ b.2, 0 ≤ x ∧ x ≤ 9
 has : ∀ v, inR v 10 17 = true → v ∈ V → v ∈ b.1
structure TOk (s : List Int) (D : Acs → Prop) (T : Acs → List Fct) : Prop where
 ok : ∀ a, D a → ∀ f ∈ T a, O6 s f = true
 nod : ∀ a, D a → (T a).Nodup
 len : ∀ a, D a → (T a).length ≤ 24
section
variable {s : List Int} {D : Acs → Prop} {T : Acs → List Fct} {l : List Mth} {d9 : List AT2} {x : Stp} {σ : RS} {b : Bnd} {V : List Int} {n k g : Nat} {a f : IL} {d7 : List Stp}
theorem b8M {t : Int} (h : b.1.length = b.2.length) (hu : unb b t = false) : t ∈ b.1 := by
 have e : b.1.take (min b.1.length b.2.length) = b.1 := List.take_of_length_le (by omega)
 rw [unb, e, Bool.not_eq_false'] at hu
 obtain ⟨y, hy, hd⟩ := List.any_eq_true.1 hu
 rw [← of_decide_eq_true hd]; exact hy
theorem b8f {t v : Int} (h : BOk V n b) (hv : 0 ≤ v ∧ v ≤ 9) : BOk (V ++ [t]) (n + 1) (F5 b t v) := by
 have h1 := a4d (t := t) (v := v) h.eq
 have h2 := b2B (x := b) (t := t) (v := v)
 have h3 := h.le
 refine ⟨h1, by omega, fun y hy => ?_, fun w hw hm => ?_⟩
 ·unfold F5 at hy
  split at hy
  ·rcases List.mem_append.1 hy with hy | hy
   ·exact h.val y hy
   ·simp only [List.mem_singleton] at hy; subst hy; exact hv
  ·exact h.val y hy
 ·unfold F5
  split
  ·rcases List.mem_append.1 hm with hm | hm
   ·exact List.mem_append_left _ (h.has w hw hm)
   ·exact List.mem_append_right _ hm
  ·rename_i hc
   rcases List.mem_append.1 hm with hm | hm
   ·exact h.has w hw hm
   ·simp only [List.mem_singleton] at hm; subst hm
    rw [hw, Bool.true_and] at hc
    exact b8M h.eq (by simpa using hc)
theorem b2R : ∀ {t v : List Int} {V : List Int} {n : Nat} {b : Bnd}, t.length = v.length → BOk V n b → (∀ y ∈ v, 0 ≤ y ∧ y ≤ 9) → BOk (V ++ t) (n + t.length) (I6 b (t.zip v))
 | [], [], V, n, b, _, h, _ => by simpa [I6] using h
 | [], _ :: _, _, _, _, e, _, _ => by simp at e
 | _ :: _, [], _, _, _, e, _, _ => by simp at e
 | t :: ts, v :: vs, V, n, b, e, h, hv => by
  have h1 := b2R (t := ts) (v := vs) (by simpa using e) (b8f (t := t) h (hv v (List.mem_cons_self ..))) fun y hy => hv y (List.mem_cons_of_mem _ hy)
  rw [List.append_assoc, List.singleton_append] at h1
  rw [List.length_cons, show n + (ts.length + 1) = n + 1 + ts.length from by omega]
  exact h1
theorem b3X {F : List Fct} (h : BOk V n b) (ho : ∀ f ∈ F, O6 s f = true) : ∀ c ∈ Y0 b a F, BOk (V ++ a.2) (n + a.2.length) c := by
 intro c hc
 obtain ⟨f, hf, rfl⟩ := List.mem_map.1 hc
 obtain ⟨h1, h2⟩ := List.mem_filter.1 hf
 simp only [s7, Bool.and_eq_true, decide_eq_true_eq] at h2
 exact b2R h2.2.1 h (a1j (ho f h1))
theorem a6h {F : List Fct} : J6 [b] a F = Y0 b a F := by simp [J6]
theorem b8o {t : Int} (h : BOk V n b) (ht : inR t 0 9 = true ∨ inR t 10 17 = true) (hV : inR t 10 17 = true → t ∈ V) : 0 ≤ F6 b t ∧ F6 b t ≤ 9 := by
 cases hv : inR t 10 17
 ·rw [← a0c hv]
  rcases ht with ht | ht
  ·exact V2 ht
  ·rw [hv] at ht; cases ht
 ·have hm := h.has t hv (hV hv)
  have e : b.1.take (min b.1.length b.2.length) = b.1 := List.take_of_length_le (by have := h.eq; omega)
  have hi : ¬ J0 (fun x => decide (x = t)) b.1 < 0 := by
   unfold J0
   rw [if_pos (List.any_eq_true.2 ⟨t, hm, by simp⟩)]; omega
  have h2 := a7H hi
  have h3 := h.eq
  simp only [F6, hv, if_true, e, if_neg hi]
  rw [at0, J5 (by omega)]
  exact h.val _ (List.getElem_mem _)
theorem b5S {t : Int} (h : L6 t = true) : inR t 0 9 = true ∨ inR t 10 17 = true := by simpa [L6] using h
theorem b5E (hm : J3 s l = true) (hx : 0 ≤ x.2 ∧ x.2.toNat < l.length) (hc : O4 (atM l x.2) (atA d9 x.1) V = true) (ht : ∀ t ∈ (atA d9 x.1).2, L6 t = true) (h : BOk V n b) : S8 s l (D7 l d9 x b) = true := by
 have hin : ∀ i ∈ (atM l x.2).2.1, a0V (atA d9 x.1) V i = false := fun i hi => by
  have := (Bool.and_eq_true_iff.1 hc).2
  simp only [Bool.not_eq_true', List.any_eq_false, Bool.not_eq_true] at this
  exact this i hi
 rw [S8, hm, Bool.true_and]
 have h1 : inR x.2 0 ((l.length : Int) - 1) = true := by unfold inR; exact decide_eq_true (by omega)
 show (inR x.2 0 ((l.length : Int) - 1) && (decide ((R0 (atM l x.2) (atA d9 x.1) b).length = (atM l x.2).2.1.length) && V4 (R0 (atM l x.2) (atA d9 x.1) b))) = true
 rw [h1, Bool.true_and, decide_eq_true (by simp [R0]), Bool.true_and]
 refine b5P fun y hy => ?_
 obtain ⟨i, hi, rfl⟩ := List.mem_map.1 hy
 have h2 := hin i hi
 simp only [a0V, Bool.or_eq_false_iff, Bool.not_eq_false', Bool.and_eq_false_imp] at h2
 have h3 := V2 h2.1
 have h4 : at0 (atA d9 x.1).2 i ∈ (atA d9 x.1).2 := by rw [at0, J5 (by omega)]; exact List.getElem_mem _
 refine b8o h (b5S (ht _ h4)) fun hv => ?_
 exact a2a.1 (h2.2 hv)
theorem BOk.mono {m : Nat} (h : BOk V n b) (hn : n ≤ m) : BOk V m b := ⟨h.eq, Nat.le_trans h.le hn, h.val, h.has⟩
structure RInv (s : List Int) (V : List Int) (n m p : Nat) (σ : RS) : Prop where
 b : ∀ b ∈ σ.1, BOk V n b
 len : σ.1.length ≤ m
 log : σ.2.1.length ≤ p
 got : ∀ f ∈ σ.2.2, O6 s f = true
 asc : a2b σ.2.2
theorem RInv.gotL {m p : Nat} (h : RInv s V n m p σ) : σ.2.2.length ≤ 5324 := b0Q (a3k h.asc) h.got
theorem RInv.gotE {m p : Nat} (h : RInv s V n m p σ) : ∀ f ∈ σ.2.2, f.2.length ≤ 3 := fun f hf => W7 (h.got f hf)
theorem b8z {m p n' : Nat} (hT : TOk s D T) (hD : D (D7 l d9 x b)) (h : RInv s (V ++ (atA d9 x.1).2) n' m p σ) (hb : BOk V n b) (hn : n + (atA d9 x.1).2.length ≤ n') : RInv s (V ++ (atA d9 x.1).2) n' (m + 24) (p + 1) (rb1 T l d9 x σ b) := by
 refine ⟨fun c hc => ?_, ?_, ?_, ?_, ?_⟩
 ·rcases List.mem_append.1 hc with hc | hc
  ·exact h.b c hc
  ·rw [a6h] at hc
   exact (b3X hb (hT.ok _ hD) c hc).mono hn
 ·show (σ.1 ++ J6 [b] _ _).length ≤ _
  rw [List.length_append, a6h]
  have h1 := a4r (b := b) (a := atA d9 x.1) (d6 := T (D7 l d9 x b))
  have h2 := hT.len _ hD
  have h3 := h.len
  omega
 ·show (cond _ σ.2.1 _).length ≤ _
  have h3 := h.log
  cases W6 σ.2.1 (D7 l d9 x b)
  ·simp only [cond_false, List.length_append, List.length_cons, List.length_nil]; omega
  ·simp only [cond_true]; omega
 ·show ∀ f ∈ cond _ σ.2.2 _, _
  cases W6 σ.2.1 (D7 l d9 x b)
  ·intro f hf
   rcases (a0J f).1 hf with hf | hf
   ·exact h.got f hf
   ·exact hT.ok _ hD f hf
  ·exact h.got
 ·show a2b (cond _ σ.2.2 _)
  cases W6 σ.2.1 (D7 l d9 x b)
  ·exact a8U h.asc
  ·exact h.asc
theorem a2N (h : k < σ.1.length) : rbN T l d9 x σ (k + 1) = rb1 T l d9 x (rbN T l d9 x σ k) σ.1[k] := by unfold rbN; rw [a1u h]
theorem b0m (h : k = σ.1.length) : rbN T l d9 x σ k = rs1 T l d9 σ x := by unfold rbN rs1; rw [h, List.take_length]
theorem b0s {m p : Nat} (hT : TOk s D T) (hD : ∀ b ∈ σ.1, D (D7 l d9 x b)) (h : RInv s V n m p σ) : ∀ {k : Nat}, k ≤ σ.1.length → RInv s (V ++ (atA d9 x.1).2) (n + (atA d9 x.1).2.length) (24 * k) (p + k) (rbN T l d9 x σ k)
 | 0, _ => ⟨fun b hb => by simp [rbN] at hb, by simp [rbN], h.log, h.got, h.asc⟩
 | k + 1, hk => by
  have ih := b0s hT hD h (k := k) (by omega)
  rw [a2N (by omega)]
  exact b8z hT (hD _ (List.getElem_mem _)) ih (h.b _ (List.getElem_mem _)) (Nat.le_refl _)
theorem a3O (h : g < d7.length) : m7 T l d9 (d7.take (g + 1)) = rs1 T l d9 (m7 T l d9 (d7.take g)) d7[g] := by unfold m7; rw [a1u h]
theorem b8E {m p : Nat} (hT : TOk s D T) (hD : ∀ b ∈ σ.1, D (D7 l d9 x b)) (h : RInv s V n m p σ) : RInv s (V ++ (atA d9 x.1).2) (n + (atA d9 x.1).2.length) (24 * m) (p + m) (rs1 T l d9 σ x) := by
 have h1 := b0s hT hD h (Nat.le_refl σ.1.length)
 rw [b0m rfl] at h1
 have h2 := h.len
 exact ⟨h1.b, by have := h1.len; omega, by have := h1.log; omega, h1.got, h1.asc⟩
theorem RInv.mono {m p n' m' p' : Nat} (h : RInv s V n m p σ) (h1 : n ≤ n') (h2 : m ≤ m') (h3 : p ≤ p') : RInv s V n' m' p' σ := ⟨fun b hb => (h.b b hb).mono h1, Nat.le_trans h.len h2, Nat.le_trans h.log h3, h.got, h.asc⟩
theorem b3K {q : List Int × List AT2} {m p : Nat} (hm : J3 s l = true) (hq : ∀ a ∈ q.2, ∀ t ∈ a.2, L6 t = true) (ho : U8 l q.2 d7 (g + 1) = true) (hg : g < d7.length) (h : RInv s (stB q.2 (d7.take g)) n m p σ) : ∀ b ∈ σ.1, S8 s l (D7 l q.2 d7[g] b) = true := fun b hb => by
 have h1 := (Bool.and_eq_true_iff.1 ho).2
 rw [J5 hg] at h1
 simp only [Y2, Bool.and_eq_true] at h1
 have a1 := V2 h1.1
 have a2 := V2 h1.2.2.1
 refine b5E hm ⟨by omega, by omega⟩ h1.2.2.2 (fun t ht => hq _ ?_ t ht) (h.b b hb)
 rw [a1K (by omega)]; exact List.getElem_mem _
theorem b6c : ∀ {k : Nat}, U8 l d9 d7 (g + k) = true → U8 l d9 d7 g = true
 | 0, h => h
 | k + 1, h => b6c (k := k) (by rw [← Nat.add_assoc, U8] at h; exact (Bool.and_eq_true_iff.1 h).1)
theorem a7e (h : U8 l d9 d7 d7.length = true) (hg : g ≤ d7.length) : U8 l d9 d7 g = true := b6c (k := d7.length - g) (by rw [show g + (d7.length - g) = d7.length from by omega]; exact h)
theorem b8J (h : ∀ a ∈ d9, a.2.length ≤ 3) {i : Int} : (atA d9 i).2.length ≤ 3 := by
 unfold atA
 rcases Nat.lt_or_ge i.toNat d9.length with hk | hk
 ·rw [J5 hk]; exact h _ (List.getElem_mem hk)
 ·simp [List.getD, List.getElem?_eq_none hk]
theorem b4b {q : List Int × List AT2} (hT : TOk s (fun a => S8 s l a = true) T) (hm : J3 s l = true) (hq : ∀ a ∈ q.2, ∀ t ∈ a.2, L6 t = true) (h3 : ∀ a ∈ q.2, a.2.length ≤ 3) (ho : U8 l q.2 d7 d7.length = true) : ∀ {g : Nat}, g ≤ d7.length → RInv s (stB q.2 (d7.take g)) (3 * g) (24 ^ g) (g * 24 ^ g) (m7 T l q.2 (d7.take g))
 | 0, _ => ⟨fun b hb => by
   simp only [m7, List.take_zero, List.foldl_nil, List.mem_singleton] at hb; subst hb
   exact ⟨rfl, by simp, fun x hx => by simp at hx, fun v _ hv => by simp [stB] at hv⟩, by simp [m7], by simp [m7], fun f hf => by simp [m7] at hf, by simp [m7]⟩
 | g + 1, hg => by
  have ih := b4b hT hm hq h3 ho (g := g) (by omega)
  have h1 := b8E (x := d7[g]) hT (b3K hm hq (a7e ho hg) (by omega) ih) ih
  rw [← a3O (by omega), b2O (by omega)] at h1
  have h2 := b8J h3 (i := d7[g].1)
  refine h1.mono (by omega) (by rw [Nat.pow_succ]; omega) ?_
  rw [Nat.pow_succ, Nat.add_mul]
  have : g * 24 ^ g ≤ g * (24 ^ g * 24) := Nat.mul_le_mul_left _ (by omega)
  omega
theorem TOk.few (hT : TOk s D T) {c : Acs} (h : D c) : Few a (T c) := c0M (hT.nod _ h) (hT.ok _ h)
theorem a1b (h : k < σ.1.length) : (rbN T l d9 x σ k).1 ++ J6 [σ.1[k]] (atA d9 x.1) (T (D7 l d9 x σ.1[k])) = (rbN T l d9 x σ (k + 1)).1 := by rw [a2N h]; rfl
theorem a0Z (h : k < σ.1.length) (hh : W6 (rbN T l d9 x σ k).2.1 (D7 l d9 x σ.1[k]) = false) : (rbN T l d9 x σ k).2.1 ++ [D7 l d9 x σ.1[k]] = (rbN T l d9 x σ (k + 1)).2.1 := by rw [a2N h, rb1, hh]; rfl
theorem a1a (h : k < σ.1.length) (hh : W6 (rbN T l d9 x σ k).2.1 (D7 l d9 x σ.1[k]) = true) : (rbN T l d9 x σ k).2.1 = (rbN T l d9 x σ (k + 1)).2.1 := by rw [a2N h, rb1, hh]; rfl
theorem a0W (h : k < σ.1.length) (hh : W6 (rbN T l d9 x σ k).2.1 (D7 l d9 x σ.1[k]) = false) : (T (D7 l d9 x σ.1[k])).foldl G8 (rbN T l d9 x σ k).2.2 = (rbN T l d9 x σ (k + 1)).2.2 := by rw [a2N h, rb1, hh]; rfl
theorem a0Y (h : k < σ.1.length) (hh : W6 (rbN T l d9 x σ k).2.1 (D7 l d9 x σ.1[k]) = true) : (rbN T l d9 x σ k).2.2 = (rbN T l d9 x σ (k + 1)).2.2 := by rw [a2N h, rb1, hh]; rfl
theorem b2P {F v : List Fct} (h : g < F.length) : G8 ((F.take g).foldl G8 v) F[g] = (F.take (g + 1)).foldl G8 v := (a1u h).symm
theorem b9l {d6 : List Fct} {c : Int} (hf : F1 s d6 = true) : TOk s (fun a => S8 s l a = true) fun a => r5 l d6 a c where
 ok := fun a _ f h => (G4 hf).2 f (b0g h)
 nod := fun a _ => by
  unfold r5
  split
  ·exact a3k (a7V (a9E hf))
  ·exact a3k (a9c (a7V (a9E hf)) (Nat.le_refl _)).1
 len := fun a _ => Nat.le_trans b3G (G4 hf).1
theorem b1X {d6 : List Fct} (hf : F1 s d6 = true) : TOk s (fun a => S8 s l a = true) fun a => m6 l d6 a where
 ok := fun a _ f h => (G4 hf).2 f (List.mem_filter.1 h).1
 nod := fun a _ => a3k (a7V (a9E hf))
 len := fun a _ => Nat.le_trans a5B (G4 hf).1
end
abbrev b7l := List (List Int) × List Acs × List Fct × Int
def X2 (T : Acs → List Fct) (l : List Mth) (q : List Int × List AT2) (d7 : List Stp) : b7l :=
 (S2 q.1 (m7 T l q.2 d7).1, (m7 T l q.2 d7).2.1, (m7 T l q.2 d7).2.2, a0q l (m7 T l q.2 d7).2.1)
def P0 (s : List Int) (l : List Mth) (q : List Int × List AT2) (d7 : List Stp) (d6 : List Fct) (c : Int) : b7l :=
 cond (P3 s l q d7 && F1 s d6) (X2 (fun a => r5 l d6 a c) l q d7) ([], [], [], 0)
section
variable {s : List Int} {T : Acs → List Fct} {l : List Mth} {q : List Int × List AT2} {d7 : List Stp} {d6 : List Fct} {c : Int} {g : Nat}
theorem V9 (h : P3 s l q d7 = false) : ([], [], [], 0) = P0 s l q d7 d6 c := by rw [P0, h]; rfl
theorem V7 (h : F1 s d6 = false) : ([], [], [], 0) = P0 s l q d7 d6 c := by rw [P0, h, Bool.and_false]; rfl
theorem b0C (h : P3 s l q d7 = true) (h2 : F1 s d6 = true) : X2 (fun a => r5 l d6 a c) l q d7 = P0 s l q d7 d6 c := by rw [P0, h, h2]; rfl
theorem a1M (h : P3 s l q d7 = true) : J3 s l = true ∧ I3 s q = true ∧ d7.length = q.2.length ∧ U8 l q.2 d7 d7.length = true := by
 simp only [P3, Bool.and_eq_true, decide_eq_true_eq] at h
 exact ⟨h.1.1, h.1.2, by omega, h.2.2⟩
theorem a6I (h : I3 s q = true) : ∀ a ∈ q.2, ∀ t ∈ a.2, L6 t = true := by
 intro a ha t ht
 simp only [I3, Bool.and_eq_true] at h
 have h1 : K3 s a = true := by
  cases e : K3 s a with
  | true => rfl
  | false =>
   have h2 : (q.2.any fun a => !K3 s a) = true := List.any_eq_true.2 ⟨a, ha, by simp [e]⟩
   rw [h2] at h; simp at h
 cases e : L6 t with
 | true => rfl
 | false =>
  simp only [K3, Bool.and_eq_true] at h1
  have h2 : (a.2.any fun t => !L6 t) = true := List.any_eq_true.2 ⟨t, ht, by simp [e]⟩
  rw [h2] at h1; simp at h1
theorem a6X (ho : P3 s l q d7 = true) (hT : TOk s (fun a => S8 s l a = true) T) (hg : g ≤ d7.length) : RInv s (stB q.2 (d7.take g)) 12 331776 1327104 (m7 T l q.2 (d7.take g)) := by
 obtain ⟨h1, h2, h3, h4⟩ := a1M ho
 have h5 := J7 h2
 have h6 := b4b hT h1 (a6I h2) h5.2.2 h4 hg
 have h7 : 24 ^ g ≤ 24 ^ 4 := Nat.pow_le_pow_right (by decide) (by have := h5.1; omega)
 have h8 : (24 : Nat) ^ 4 = 331776 := by decide
 have h9 : g ≤ 4 := by have := h5.1; omega
 exact h6.mono (by omega) (by omega) (Nat.le_trans (Nat.mul_le_mul h9 h7) (by omega))
theorem a7T (ho : P3 s l q d7 = true) (hT : TOk s (fun a => S8 s l a = true) T) (hg : g < d7.length) : ∀ b ∈ (m7 T l q.2 (d7.take g)).1, S8 s l (D7 l q.2 d7[g] b) = true := by
 obtain ⟨h1, h2, h3, h4⟩ := a1M ho
 exact b3K h1 (a6I h2) (a7e h4 (by omega)) hg (a6X ho hT (by omega))
theorem b5Q (ho : P3 s l q d7 = true) (hT : TOk s (fun a => S8 s l a = true) T) (hg : g < d7.length) {k : Nat} (hk : k ≤ (m7 T l q.2 (d7.take g)).1.length) : RInv s (stB q.2 (d7.take g) ++ (atA q.2 d7[g].1).2) (12 + (atA q.2 d7[g].1).2.length) (24 * k) (1327104 + k) (rbN T l q.2 d7[g] (m7 T l q.2 (d7.take g)) k) :=
 b0s hT (a7T ho hT hg) (a6X ho hT (by omega)) hk
theorem b4j (h : g = d7.length) : m7 T l q.2 (d7.take g) = m7 T l q.2 d7 := by rw [h, List.take_length]
end
section
variable {s : List Int} {D : Acs → Prop} {T : Acs → List Fct} {l : List Mth} {q : List Int × List AT2} {d9 : List AT2} {d7 : List Stp} {d6 : List Fct} {c : Int} {g k j n m p : Nat} {V : List Int} {σ : RS} {a : Acs}
theorem b6b (h : U8 l d9 d7 d7.length = true) (hg : g < d7.length) : ∀ i ∈ (atM l d7[g].2).2.1, 0 ≤ i ∧ i.toNat < (atA d9 d7[g].1).2.length := fun i hi => by
 have h1 := (Bool.and_eq_true_iff.1 (a7e (g := g + 1) h (by omega))).2
 rw [J5 hg] at h1
 simp only [Y2, Bool.and_eq_true] at h1
 have h2 := (Bool.and_eq_true_iff.1 h1.2.2.2).2
 simp only [Bool.not_eq_true', List.any_eq_false, Bool.not_eq_true] at h2
 have h3 := h2 i hi
 simp only [a0V, Bool.or_eq_false_iff, Bool.not_eq_false'] at h3
 have h4 := V2 h3.1
 omega
theorem b5W (h : RInv s V n m p σ) (hT : TOk s D T) (hD : D a) : (((T a).take j).foldl G8 σ.2.2).length ≤ 6000 ∧ ∀ f ∈ ((T a).take j).foldl G8 σ.2.2, f.2.length ≤ 3 := by
 have h1 := a4t (m := (T a).take j) (v := σ.2.2)
 have h2 := h.gotL
 have h3 := hT.len a hD
 have h4 := List.length_take_le' j (T a)
 refine ⟨by omega, fun f hf => ?_⟩
 rcases (a0J f).1 hf with hf | hf
 ·exact h.gotE f hf
 ·exact W7 (hT.ok a hD f (List.mem_of_mem_take hf))
theorem a0n (hk : k = (m7 T l d9 (d7.take g)).1.length) (hg : g < d7.length) : rbN T l d9 d7[g] (m7 T l d9 (d7.take g)) k = m7 T l d9 (d7.take (g + 1)) := by rw [b0m hk, a3O hg]
theorem a5M : [([], [])] = (m7 T l d9 (d7.take 0)).1 := rfl
theorem a5J : [] = (m7 T l d9 (d7.take 0)).2.1 := rfl
theorem a5r : [] = (m7 T l d9 (d7.take 0)).2.2 := rfl
theorem a5t {x : Stp} : [] = (rbN T l d9 x σ 0).1 := rfl
theorem a5Q {x : Stp} : σ.2.1 = (rbN T l d9 x σ 0).2.1 := rfl
theorem a5G {x : Stp} : σ.2.2 = (rbN T l d9 x σ 0).2.2 := rfl
theorem S9 (h : g = d7.length) : (S2 q.1 (m7 T l q.2 (d7.take g)).1, (m7 T l q.2 (d7.take g)).2.1, (m7 T l q.2 (d7.take g)).2.2, a0q l (m7 T l q.2 (d7.take g)).2.1) = X2 T l q d7 := by rw [X2, b4j h]
theorem V8 (ho : P3 s l q d7 = true) (hf : F1 s d6 = true) (h : g = d7.length) : (S2 q.1 (m7 (fun a => r5 l d6 a c) l q.2 (d7.take g)).1, (m7 (fun a => r5 l d6 a c) l q.2 (d7.take g)).2.1, (m7 (fun a => r5 l d6 a c) l q.2 (d7.take g)).2.2, a0q l (m7 (fun a => r5 l d6 a c) l q.2 (d7.take g)).2.1) = P0 s l q d7 d6 c := by
 rw [← b0C ho hf, b4j h]; rfl
end
end Go.Proofs.YthapcdhdfaibkaaGreatDoor
end
