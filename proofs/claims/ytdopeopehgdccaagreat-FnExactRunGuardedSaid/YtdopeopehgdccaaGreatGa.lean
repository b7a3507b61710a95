import Derived.Test.YtdopeopehgdccaaGreatEy
import Derived.Test.YtdopeopehgdccaaGreatEf
namespace Go.Proofs.YtdopeopehgdccaaGreat
set_option linter.unusedVariables false
set_option linter.unusedSimpArgs false
abbrev Bnd := List Int × List Int
abbrev RS := List Bnd × List Acs × List Fct
def C2 (l : List Mth) (f5 : List AT2) (x : Stp) (b : Bnd) : Acs := (x.2, N7 (atM l x.2) (atA f5 x.1) b)
def rb1 (T : Acs → List Fct) (l : List Mth) (f5 : List AT2) (x : Stp) (σ : RS) (b : Bnd) : RS :=
 (σ.1 ++ G2 [b] (atA f5 x.1) (T (C2 l f5 x b)), cond (a0e σ.2.1 (C2 l f5 x b)) σ.2.1 (σ.2.1 ++ [C2 l f5 x b]), cond (a0e σ.2.1 (C2 l f5 x b)) σ.2.2 ((T (C2 l f5 x b)).foldl F0 σ.2.2))
def rbN (T : Acs → List Fct) (l : List Mth) (f5 : List AT2) (x : Stp) (σ : RS) (k : Nat) : RS := (σ.1.take k).foldl (rb1 T l f5 x) ([], σ.2)
def rs1 (T : Acs → List Fct) (l : List Mth) (f5 : List AT2) (σ : RS) (x : Stp) : RS := σ.1.foldl (rb1 T l f5 x) ([], σ.2)
def n8 (T : Acs → List Fct) (l : List Mth) (f5 : List AT2) (d9 : List Stp) : RS := d9.foldl (rs1 T l f5) ([([], [])], [], [])
structure BOk (V : List Int) (n : Nat) (b : Bnd) : Prop where
 eq : b.1.length = b.2.length
 le : b.1.length ≤ n
 val : ∀ x ∈ b.2, 0 ≤ x ∧ x ≤ 9
 has : ∀ v, inR v 10 17 = true → v ∈ V → v ∈ b.1
structure TOk (s : List Int) (D : Acs → Prop) (T : Acs → List Fct) : Prop where
 ok : ∀ a, D a → ∀ f ∈ T a, J2 s f = true
 nod : ∀ a, D a → (T a).Nodup
 len : ∀ a, D a → (T a).length ≤ 24
section
variable {s : List Int} {D : Acs → Prop} {T : Acs → List Fct} {l : List Mth} {f5 : List AT2} {x : Stp} {σ : RS} {b : Bnd} {V : List Int} {n k g : Nat} {a f : Int × List Int} {d9 : List Stp}
theorem b7X {t : Int} (h : b.1.length = b.2.length) (hu : unb b t = false) : t ∈ b.1 := by
 have e : b.1.take (min b.1.length b.2.length) = b.1 := List.take_of_length_le (by omega)
 rw [unb, e, Bool.not_eq_false'] at hu
 obtain ⟨y, hy, hd⟩ := List.any_eq_true.1 hu
 rw [← of_decide_eq_true hd]; exact hy
theorem b7p {t v : Int} (h : BOk V n b) (hv : 0 ≤ v ∧ v ≤ 9) : BOk (V ++ [t]) (n + 1) (F4 b t v) := by
 have h1 := b3P (t := t) (v := v) h.eq
 have h2 := b2D (x := b) (t := t) (v := v)
 have h3 := h.le
 refine ⟨h1, by omega, fun y hy => ?_, fun w hw hm => ?_⟩
 ·unfold F4 at hy
  split at hy
  ·rcases List.mem_append.1 hy with hy | hy
   ·exact h.val y hy
   ·simp only [List.mem_singleton] at hy; subst hy; exact hv
  ·exact h.val y hy
 ·unfold F4
  split
  ·rcases List.mem_append.1 hm with hm | hm
   ·exact List.mem_append_left _ (h.has w hw hm)
   ·exact List.mem_append_right _ hm
  ·rename_i hc
   rcases List.mem_append.1 hm with hm | hm
   ·exact h.has w hw hm
   ·simp only [List.mem_singleton] at hm; subst hm
    rw [hw, Bool.true_and] at hc
    exact b7X h.eq (by simpa using hc)
theorem b2K : ∀ {t v : List Int} {V : List Int} {n : Nat} {b : Bnd}, t.length = v.length → BOk V n b → (∀ y ∈ v, 0 ≤ y ∧ y ≤ 9) → BOk (V ++ t) (n + t.length) (E3 b (t.zip v))
 | [], [], V, n, b, _, h, _ => by simpa [E3] using h
 | [], _ :: _, _, _, _, e, _, _ => by simp at e
 | _ :: _, [], _, _, _, e, _, _ => by simp at e
 | t :: ts, v :: vs, V, n, b, e, h, hv => by
  have h1 := b2K (t := ts) (v := vs) (by simpa using e) (b7p (t := t) h (hv v (List.mem_cons_self ..))) fun y hy => hv y (List.mem_cons_of_mem _ hy)
  rw [List.append_assoc, List.singleton_append] at h1
  rw [List.length_cons, show n + (ts.length + 1) = n + 1 + ts.length from by omega]
  exact h1
theorem b3R {F : List Fct} (h : BOk V n b) (ho : ∀ f ∈ F, J2 s f = true) : ∀ c ∈ Q7 b a F, BOk (V ++ a.2) (n + a.2.length) c := by
 intro c hc
 obtain ⟨f, hf, rfl⟩ := List.mem_map.1 hc
 obtain ⟨h1, h2⟩ := List.mem_filter.1 hf
 simp only [s9, Bool.and_eq_true, decide_eq_true_eq] at h2
 exact b2K h2.2.1 h (a1y (ho f h1))
theorem a6f {F : List Fct} : G2 [b] a F = Q7 b a F := by simp [G2]
theorem b7w {t : Int} (h : BOk V n b) (ht : inR t 0 9 = true ∨ inR t 10 17 = true) (hV : inR t 10 17 = true → t ∈ V) : 0 ≤ F3 b t ∧ F3 b t ≤ 9 := by
 cases hv : inR t 10 17
 ·rw [← b0t hv]
  rcases ht with ht | ht
  ·exact W2 ht
  ·rw [hv] at ht; cases ht
 ·have hm := h.has t hv (hV hv)
  have e : b.1.take (min b.1.length b.2.length) = b.1 := List.take_of_length_le (by have := h.eq; omega)
  have hi : ¬ H0 (fun x => decide (x = t)) b.1 < 0 := by
   unfold H0
   rw [if_pos (List.any_eq_true.2 ⟨t, hm, by simp⟩)]; omega
  have h2 := a7p hi
  have h3 := h.eq
  simp only [F3, hv, if_true, e, if_neg hi]
  rw [at0, J3 (by omega)]
  exact h.val _ (List.getElem_mem _)
theorem b4Y {t : Int} (h : V3 t = true) : inR t 0 9 = true ∨ inR t 10 17 = true := by simpa [V3] using h
theorem b5J (hm : G9 s l = true) (hx : 0 ≤ x.2 ∧ x.2.toNat < l.length) (hc : N5 (atM l x.2) (atA f5 x.1) V = true) (ht : ∀ t ∈ (atA f5 x.1).2, V3 t = true) (h : BOk V n b) : Q0 s l (C2 l f5 x b) = true := by
 have hin : ∀ i ∈ (atM l x.2).2.1, a1x (atA f5 x.1) V i = false := fun i hi => by
  have := (Bool.and_eq_true_iff.1 hc).2
  simp only [Bool.not_eq_true', List.any_eq_false, Bool.not_eq_true] at this
  exact this i hi
 rw [Q0, hm, Bool.true_and]
 have h1 : inR x.2 0 ((l.length : Int) - 1) = true := by unfold inR; exact decide_eq_true (by omega)
 show (inR x.2 0 ((l.length : Int) - 1) && (decide ((N7 (atM l x.2) (atA f5 x.1) b).length = (atM l x.2).2.1.length) && U5 (N7 (atM l x.2) (atA f5 x.1) b))) = true
 rw [h1, Bool.true_and, decide_eq_true (by simp [N7]), Bool.true_and]
 refine b5k fun y hy => ?_
 obtain ⟨i, hi, rfl⟩ := List.mem_map.1 hy
 have h2 := hin i hi
 simp only [a1x, Bool.or_eq_false_iff, Bool.not_eq_false', Bool.and_eq_false_imp] at h2
 have h3 := W2 h2.1
 have h4 : at0 (atA f5 x.1).2 i ∈ (atA f5 x.1).2 := by rw [at0, J3 (by omega)]; exact List.getElem_mem _
 refine b7w h (b4Y (ht _ h4)) fun hv => ?_
 exact a6k.1 (h2.2 hv)
theorem BOk.mono {m : Nat} (h : BOk V n b) (hn : n ≤ m) : BOk V m b := ⟨h.eq, Nat.le_trans h.le hn, h.val, h.has⟩
structure RInv (s : List Int) (V : List Int) (n m p : Nat) (σ : RS) : Prop where
 b : ∀ b ∈ σ.1, BOk V n b
 len : σ.1.length ≤ m
 log : σ.2.1.length ≤ p
 got : ∀ f ∈ σ.2.2, J2 s f = true
 asc : a2r σ.2.2
theorem RInv.gotL {m p : Nat} (h : RInv s V n m p σ) : σ.2.2.length ≤ 5324 := b1g (a3p h.asc) h.got
theorem RInv.gotE {m p : Nat} (h : RInv s V n m p σ) : ∀ f ∈ σ.2.2, f.2.length ≤ 3 := fun f hf => U2 (h.got f hf)
theorem b7z {m p n' : Nat} (hT : TOk s D T) (hD : D (C2 l f5 x b)) (h : RInv s (V ++ (atA f5 x.1).2) n' m p σ) (hb : BOk V n b) (hn : n + (atA f5 x.1).2.length ≤ n') : RInv s (V ++ (atA f5 x.1).2) n' (m + 24) (p + 1) (rb1 T l f5 x σ b) := by
 refine ⟨fun c hc => ?_, ?_, ?_, ?_, ?_⟩
 ·rcases List.mem_append.1 hc with hc | hc
  ·exact h.b c hc
  ·rw [a6f] at hc
   exact (b3R hb (hT.ok _ hD) c hc).mono hn
 ·show (σ.1 ++ G2 [b] _ _).length ≤ _
  rw [List.length_append, a6f]
  have h1 := a4w (b := b) (a := atA f5 x.1) (d8 := T (C2 l f5 x b))
  have h2 := hT.len _ hD
  have h3 := h.len
  omega
 ·show (cond _ σ.2.1 _).length ≤ _
  have h3 := h.log
  cases a0e σ.2.1 (C2 l f5 x b)
  ·simp only [cond_false, List.length_append, List.length_cons, List.length_nil]; omega
  ·simp only [cond_true]; omega
 ·show ∀ f ∈ cond _ σ.2.2 _, _
  cases a0e σ.2.1 (C2 l f5 x b)
  ·intro f hf
   rcases (a3i f).1 hf with hf | hf
   ·exact h.got f hf
   ·exact hT.ok _ hD f hf
  ·exact h.got
 ·show a2r (cond _ σ.2.2 _)
  cases a0e σ.2.1 (C2 l f5 x b)
  ·exact a8S h.asc
  ·exact h.asc
theorem a2V (h : k < σ.1.length) : rbN T l f5 x σ (k + 1) = rb1 T l f5 x (rbN T l f5 x σ k) σ.1[k] := by unfold rbN; rw [a1Q h]
theorem b0n (h : k = σ.1.length) : rbN T l f5 x σ k = rs1 T l f5 σ x := by unfold rbN rs1; rw [h, List.take_length]
theorem b0D {m p : Nat} (hT : TOk s D T) (hD : ∀ b ∈ σ.1, D (C2 l f5 x b)) (h : RInv s V n m p σ) : ∀ {k : Nat}, k ≤ σ.1.length → RInv s (V ++ (atA f5 x.1).2) (n + (atA f5 x.1).2.length) (24 * k) (p + k) (rbN T l f5 x σ k)
 | 0, _ => ⟨fun b hb => by simp [rbN] at hb, by simp [rbN], h.log, h.got, h.asc⟩
 | k + 1, hk => by
  have ih := b0D hT hD h (k := k) (by omega)
  rw [a2V (by omega)]
  exact b7z hT (hD _ (List.getElem_mem _)) ih (h.b _ (List.getElem_mem _)) (Nat.le_refl _)
theorem a7u (h : g < d9.length) : n8 T l f5 (d9.take (g + 1)) = rs1 T l f5 (n8 T l f5 (d9.take g)) d9[g] := by unfold n8; rw [a1Q h]
theorem b7Y {m p : Nat} (hT : TOk s D T) (hD : ∀ b ∈ σ.1, D (C2 l f5 x b)) (h : RInv s V n m p σ) : RInv s (V ++ (atA f5 x.1).2) (n + (atA f5 x.1).2.length) (24 * m) (p + m) (rs1 T l f5 σ x) := by
 have h1 := b0D hT hD h (Nat.le_refl σ.1.length)
 rw [b0n rfl] at h1
 have h2 := h.len
 exact ⟨h1.b, by have := h1.len; omega, by have := h1.log; omega, h1.got, h1.asc⟩
theorem RInv.mono {m p n' m' p' : Nat} (h : RInv s V n m p σ) (h1 : n ≤ n') (h2 : m ≤ m') (h3 : p ≤ p') : RInv s V n' m' p' σ := ⟨fun b hb => (h.b b hb).mono h1, Nat.le_trans h.len h2, Nat.le_trans h.log h3, h.got, h.asc⟩
theorem b3U {q : List Int × List AT2} {m p : Nat} (hm : G9 s l = true) (hq : ∀ a ∈ q.2, ∀ t ∈ a.2, V3 t = true) (ho : V1 l q.2 d9 (g + 1) = true) (hg : g < d9.length) (h : RInv s (stB q.2 (d9.take g)) n m p σ) : ∀ b ∈ σ.1, Q0 s l (C2 l q.2 d9[g] b) = true := fun b hb => by
 have h1 := (Bool.and_eq_true_iff.1 ho).2
 rw [J3 hg] at h1
 simp only [a0o, Bool.and_eq_true] at h1
 have a1 := W2 h1.1
 have a2 := W2 h1.2.2.1
 refine b5J hm ⟨by omega, by omega⟩ h1.2.2.2 (fun t ht => hq _ ?_ t ht) (h.b b hb)
 rw [a3M (by omega)]; exact List.getElem_mem _
theorem b5g : ∀ {k : Nat}, V1 l f5 d9 (g + k) = true → V1 l f5 d9 g = true
 | 0, h => h
 | k + 1, h => b5g (k := k) (by rw [← Nat.add_assoc, V1] at h; exact (Bool.and_eq_true_iff.1 h).1)
theorem b2q (h : V1 l f5 d9 d9.length = true) (hg : g ≤ d9.length) : V1 l f5 d9 g = true := b5g (k := d9.length - g) (by rw [show g + (d9.length - g) = d9.length from by omega]; exact h)
theorem b7W (h : ∀ a ∈ f5, a.2.length ≤ 3) {i : Int} : (atA f5 i).2.length ≤ 3 := by
 unfold atA
 rcases Nat.lt_or_ge i.toNat f5.length with hk | hk
 ·rw [J3 hk]; exact h _ (List.getElem_mem hk)
 ·simp [List.getD, List.getElem?_eq_none hk]
theorem b3X {q : List Int × List AT2} (hT : TOk s (fun a => Q0 s l a = true) T) (hm : G9 s l = true) (hq : ∀ a ∈ q.2, ∀ t ∈ a.2, V3 t = true) (h3 : ∀ a ∈ q.2, a.2.length ≤ 3) (ho : V1 l q.2 d9 d9.length = true) : ∀ {g : Nat}, g ≤ d9.length → RInv s (stB q.2 (d9.take g)) (3 * g) (24 ^ g) (g * 24 ^ g) (n8 T l q.2 (d9.take g))
 | 0, _ => ⟨fun b hb => by
   simp only [n8, List.take_zero, List.foldl_nil, List.mem_singleton] at hb; subst hb
   exact ⟨rfl, by simp, fun x hx => by simp at hx, fun v _ hv => by simp [stB] at hv⟩, by simp [n8], by simp [n8], fun f hf => by simp [n8] at hf, by simp [n8]⟩
 | g + 1, hg => by
  have ih := b3X hT hm hq h3 ho (g := g) (by omega)
  have h1 := b7Y (x := d9[g]) hT (b3U hm hq (b2q ho hg) (by omega) ih) ih
  rw [← a7u (by omega), b6t (by omega)] at h1
  have h2 := b7W h3 (i := d9[g].1)
  refine h1.mono (by omega) (by rw [Nat.pow_succ]; omega) ?_
  rw [Nat.pow_succ, Nat.add_mul]
  have : g * 24 ^ g ≤ g * (24 ^ g * 24) := Nat.mul_le_mul_left _ (by omega)
  omega
theorem TOk.few (hT : TOk s D T) {c : Acs} (h : D c) : Few a (T c) := b9A (hT.nod _ h) (hT.ok _ h)
theorem a1r (h : k < σ.1.length) : (rbN T l f5 x σ k).1 ++ G2 [σ.1[k]] (atA f5 x.1) (T (C2 l f5 x σ.1[k])) = (rbN T l f5 x σ (k + 1)).1 := by rw [a2V h]; rfl
theorem a1s (h : k < σ.1.length) (hh : a0e (rbN T l f5 x σ k).2.1 (C2 l f5 x σ.1[k]) = false) : (rbN T l f5 x σ k).2.1 ++ [C2 l f5 x σ.1[k]] = (rbN T l f5 x σ (k + 1)).2.1 := by rw [a2V h, rb1, hh]; rfl
theorem a1o (h : k < σ.1.length) (hh : a0e (rbN T l f5 x σ k).2.1 (C2 l f5 x σ.1[k]) = true) : (rbN T l f5 x σ k).2.1 = (rbN T l f5 x σ (k + 1)).2.1 := by rw [a2V h, rb1, hh]; rfl
theorem a1q (h : k < σ.1.length) (hh : a0e (rbN T l f5 x σ k).2.1 (C2 l f5 x σ.1[k]) = false) : (T (C2 l f5 x σ.1[k])).foldl F0 (rbN T l f5 x σ k).2.2 = (rbN T l f5 x σ (k + 1)).2.2 := by rw [a2V h, rb1, hh]; rfl
theorem a1p (h : k < σ.1.length) (hh : a0e (rbN T l f5 x σ k).2.1 (C2 l f5 x σ.1[k]) = true) : (rbN T l f5 x σ k).2.2 = (rbN T l f5 x σ (k + 1)).2.2 := by rw [a2V h, rb1, hh]; rfl
theorem b2I {F v : List Fct} (h : g < F.length) : F0 ((F.take g).foldl F0 v) F[g] = (F.take (g + 1)).foldl F0 v := (a1Q h).symm
theorem b8E {d8 : List Fct} {c : Int} (hf : F2 s d8 = true) : TOk s (fun a => Q0 s l a = true) fun a => o7 l d8 a c where
 ok := fun a _ f h => (I3 hf).2 f (b7U h)
 nod := fun a _ => by
  unfold o7
  split
  ·exact a3p (a7O (a9E hf))
  ·exact a3p (a8M (a7O (a9E hf)) (Nat.le_refl _)).1
 len := fun a _ => Nat.le_trans b3L (I3 hf).1
theorem b2y {d8 : List Fct} (hf : F2 s d8 = true) : TOk s (fun a => Q0 s l a = true) fun a => l2 l d8 a where
 ok := fun a _ f h => (I3 hf).2 f (List.mem_filter.1 h).1
 nod := fun a _ => a3p (a7O (a9E hf))
 len := fun a _ => Nat.le_trans a5y (I3 hf).1
end
abbrev b6p := List (List Int) × List Acs × List Fct × Int
def U7 (T : Acs → List Fct) (l : List Mth) (q : List Int × List AT2) (d9 : List Stp) : b6p :=
 (S0 q.1 (n8 T l q.2 d9).1, (n8 T l q.2 d9).2.1, (n8 T l q.2 d9).2.2, a0m l (n8 T l q.2 d9).2.1)
def N3 (s : List Int) (l : List Mth) (q : List Int × List AT2) (d9 : List Stp) (d8 : List Fct) (c : Int) : b6p :=
 cond (O1 s l q d9 && F2 s d8) (U7 (fun a => o7 l d8 a c) l q d9) ([], [], [], 0)
section
variable {s : List Int} {T : Acs → List Fct} {l : List Mth} {q : List Int × List AT2} {d9 : List Stp} {d8 : List Fct} {c : Int} {g : Nat}
theorem S8 (h : O1 s l q d9 = false) : ([], [], [], 0) = N3 s l q d9 d8 c := by rw [N3, h]; rfl
theorem S6 (h : F2 s d8 = false) : ([], [], [], 0) = N3 s l q d9 d8 c := by rw [N3, h, Bool.and_false]; rfl
theorem b3S (h : O1 s l q d9 = true) (h2 : F2 s d8 = true) : U7 (fun a => o7 l d8 a c) l q d9 = N3 s l q d9 d8 c := by rw [N3, h, h2]; rfl
theorem a4c (h : O1 s l q d9 = true) : G9 s l = true ∧ I4 s q = true ∧ d9.length = q.2.length ∧ V1 l q.2 d9 d9.length = true := by
 simp only [O1, Bool.and_eq_true, decide_eq_true_eq] at h
 exact ⟨h.1.1, h.1.2, by omega, h.2.2⟩
theorem a6P (h : I4 s q = true) : ∀ a ∈ q.2, ∀ t ∈ a.2, V3 t = true := by
 intro a ha t ht
 simp only [I4, Bool.and_eq_true] at h
 have h1 : J0 s a = true := by
  cases e : J0 s a with
  | true => rfl
  | false =>
   have h2 : (q.2.any fun a => !J0 s a) = true := List.any_eq_true.2 ⟨a, ha, by simp [e]⟩
   rw [h2] at h; simp at h
 cases e : V3 t with
 | true => rfl
 | false =>
  simp only [J0, Bool.and_eq_true] at h1
  have h2 : (a.2.any fun t => !V3 t) = true := List.any_eq_true.2 ⟨t, ht, by simp [e]⟩
  rw [h2] at h1; simp at h1
theorem a7v (ho : O1 s l q d9 = true) (hT : TOk s (fun a => Q0 s l a = true) T) (hg : g ≤ d9.length) : RInv s (stB q.2 (d9.take g)) 12 331776 1327104 (n8 T l q.2 (d9.take g)) := by
 obtain ⟨h1, h2, h3, h4⟩ := a4c ho
 have h5 := a0P h2
 have h6 := b3X hT h1 (a6P h2) h5.2.2 h4 hg
 have h7 : 24 ^ g ≤ 24 ^ 4 := Nat.pow_le_pow_right (by decide) (by have := h5.1; omega)
 have h8 : (24 : Nat) ^ 4 = 331776 := by decide
 have h9 : g ≤ 4 := by have := h5.1; omega
 exact h6.mono (by omega) (by omega) (Nat.le_trans (Nat.mul_le_mul h9 h7) (by omega))
theorem a7L (ho : O1 s l q d9 = true) (hT : TOk s (fun a => Q0 s l a = true) T) (hg : g < d9.length) : ∀ b ∈ (n8 T l q.2 (d9.take g)).1, Q0 s l (C2 l q.2 d9[g] b) = true := by
 obtain ⟨h1, h2, h3, h4⟩ := a4c ho
 exact b3U h1 (a6P h2) (b2q h4 (by omega)) hg (a7v ho hT (by omega))
theorem b5z (ho : O1 s l q d9 = true) (hT : TOk s (fun a => Q0 s l a = true) T) (hg : g < d9.length) {k : Nat} (hk : k ≤ (n8 T l q.2 (d9.take g)).1.length) : RInv s (stB q.2 (d9.take g) ++ (atA q.2 d9[g].1).2) (12 + (atA q.2 d9[g].1).2.length) (24 * k) (1327104 + k) (rbN T l q.2 d9[g] (n8 T l q.2 (d9.take g)) k) :=
 b0D hT (a7L ho hT hg) (a7v ho hT (by omega)) hk
theorem b3K (h : g = d9.length) : n8 T l q.2 (d9.take g) = n8 T l q.2 d9 := by rw [h, List.take_length]
end
section
variable {s : List Int} {D : Acs → Prop} {T : Acs → List Fct} {l : List Mth} {q : List Int × List AT2} {f5 : List AT2} {d9 : List Stp} {d8 : List Fct} {c : Int} {g k j n m p : Nat} {V : List Int} {σ : RS} {a : Acs}
theorem b5o (h : V1 l f5 d9 d9.length = true) (hg : g < d9.length) : ∀ i ∈ (atM l d9[g].2).2.1, 0 ≤ i ∧ i.toNat < (atA f5 d9[g].1).2.length := fun i hi => by
 have h1 := (Bool.and_eq_true_iff.1 (b2q (g := g + 1) h (by omega))).2
 rw [J3 hg] at h1
 simp only [a0o, Bool.and_eq_true] at h1
 have h2 := (Bool.and_eq_true_iff.1 h1.2.2.2).2
 simp only [Bool.not_eq_true', List.any_eq_false, Bool.not_eq_true] at h2
 have h3 := h2 i hi
 simp only [a1x, Bool.or_eq_false_iff, Bool.not_eq_false'] at h3
 have h4 := W2 h3.1
 omega
theorem b5f (h : RInv s V n m p σ) (hT : TOk s D T) (hD : D a) : (((T a).take j).foldl F0 σ.2.2).length ≤ 6000 ∧ ∀ f ∈ ((T a).take j).foldl F0 σ.2.2, f.2.length ≤ 3 := by
 have h1 := a4y (m := (T a).take j) (v := σ.2.2)
 have h2 := h.gotL
 have h3 := hT.len a hD
 have h4 := List.length_take_le' j (T a)
 refine ⟨by omega, fun f hf => ?_⟩
 rcases (a3i f).1 hf with hf | hf
 ·exact h.gotE f hf
 ·exact U2 (hT.ok a hD f (List.mem_of_mem_take hf))
theorem Z0 (hk : k = (n8 T l f5 (d9.take g)).1.length) (hg : g < d9.length) : rbN T l f5 d9[g] (n8 T l f5 (d9.take g)) k = n8 T l f5 (d9.take (g + 1)) := by rw [b0n hk, a7u hg]
theorem a5H : [([], [])] = (n8 T l f5 (d9.take 0)).1 := rfl
theorem a5v : [] = (n8 T l f5 (d9.take 0)).2.1 := rfl
theorem a5J : [] = (n8 T l f5 (d9.take 0)).2.2 := rfl
theorem a5T {x : Stp} : [] = (rbN T l f5 x σ 0).1 := rfl
theorem a5C {x : Stp} : σ.2.1 = (rbN T l f5 x σ 0).2.1 := rfl
theorem a5I {x : Stp} : σ.2.2 = (rbN T l f5 x σ 0).2.2 := rfl
theorem Q6 (h : g = d9.length) : (S0 q.1 (n8 T l q.2 (d9.take g)).1, (n8 T l q.2 (d9.take g)).2.1, (n8 T l q.2 (d9.take g)).2.2, a0m l (n8 T l q.2 (d9.take g)).2.1) = U7 T l q d9 := by rw [U7, b3K h]
theorem S7 (ho : O1 s l q d9 = true) (hf : F2 s d8 = true) (h : g = d9.length) : (S0 q.1 (n8 (fun a => o7 l d8 a c) l q.2 (d9.take g)).1, (n8 (fun a => o7 l d8 a c) l q.2 (d9.take g)).2.1, (n8 (fun a => o7 l d8 a c) l q.2 (d9.take g)).2.2, a0m l (n8 (fun a => o7 l d8 a c) l q.2 (d9.take g)).2.1) = N3 s l q d9 d8 c := by
 rw [← b3S ho hf, b3K h]; rfl
end
end Go.Proofs.YtdopeopehgdccaaGreat
