import Derived.Test.YtdopeopehgdccaaGreatEy
import Derived.Test.YtdopeopehgdccaaGreatEf
namespace Go.Proofs.YtdopeopehgdccaaGreat
set_option linter.unusedVariables false
set_option linter.unusedSimpArgs false
abbrev Bnd := List Int × List Int
abbrev RS := List Bnd × List Acs × List Fct
def w3 (l : List Mth) (d7 : List AT2) (x : Stp) (b : Bnd) : Acs := (x.2, V8 (atM l x.2) (atA d7 x.1) b)
def rb1 (T : Acs → List Fct) (l : List Mth) (d7 : List AT2) (x : Stp) (σ : RS) (b : Bnd) : RS :=
  (σ.1 ++ C0 [b] (atA d7 x.1) (T (w3 l d7 x b)), cond (a0v σ.2.1 (w3 l d7 x b)) σ.2.1 (σ.2.1 ++ [w3 l d7 x b]), cond (a0v σ.2.1 (w3 l d7 x b)) σ.2.2 ((T (w3 l d7 x b)).foldl x6 σ.2.2))
def rbN (T : Acs → List Fct) (l : List Mth) (d7 : List AT2) (x : Stp) (σ : RS) (k : Nat) : RS := (σ.1.take k).foldl (rb1 T l d7 x) ([], σ.2)
def rs1 (T : Acs → List Fct) (l : List Mth) (d7 : List AT2) (σ : RS) (x : Stp) : RS := σ.1.foldl (rb1 T l d7 x) ([], σ.2)
def j5 (T : Acs → List Fct) (l : List Mth) (d7 : List AT2) (d6 : List Stp) : RS := d6.foldl (rs1 T l d7) ([([], [])], [], [])
/-- a binding that knows V, of at most n values -/
structure BOk (V : List Int) (n : Nat) (b : Bnd) : Prop where
  eq : b.1.length = b.2.length
  le : b.1.length ≤ n
  val : ∀ x ∈ b.2, 0 ≤ x ∧ x ≤ 9
  has : ∀ v, inR v 10 17 = true → v ∈ V → v ∈ b.1
/-- what a source tells is valid, short and in order -/
structure TOk (s : List Int) (D : Acs → Prop) (T : Acs → List Fct) : Prop where
  ok : ∀ a, D a → ∀ f ∈ T a, H2 s f = true
  nod : ∀ a, D a → (T a).Nodup
  len : ∀ a, D a → (T a).length ≤ 24
section
variable {s : List Int} {D : Acs → Prop} {T : Acs → List Fct} {l : List Mth} {d7 : List AT2} {x : Stp} {σ : RS} {b : Bnd} {V : List Int} {n k g : Nat} {a f : Int × List Int} {d6 : List Stp}
theorem b4m {t : Int} (h : b.1.length = b.2.length) (hu : unb b t = false) : t ∈ b.1 := by
  have e : b.1.take (min b.1.length b.2.length) = b.1 := List.take_of_length_le (by omega)
  rw [unb, e, Bool.not_eq_false'] at hu
  obtain ⟨y, hy, hd⟩ := List.any_eq_true.1 hu
  rw [← of_decide_eq_true hd]; exact hy
theorem b4s {t v : Int} (h : BOk V n b) (hv : 0 ≤ v ∧ v ≤ 9) : BOk (V ++ [t]) (n + 1) (B1 b t v) := by
  have h1 := b1l (t := t) (v := v) h.eq
  have h2 := a9B (x := b) (t := t) (v := v)
  have h3 := h.le
  refine ⟨h1, by omega, fun y hy => ?_, fun w hw hm => ?_⟩
  · unfold B1 at hy
    split at hy
    · rcases List.mem_append.1 hy with hy | hy
      · exact h.val y hy
      · simp only [List.mem_singleton] at hy; subst hy; exact hv
    · exact h.val y hy
  · unfold B1
    split
    · rcases List.mem_append.1 hm with hm | hm
      · exact List.mem_append_left _ (h.has w hw hm)
      · exact List.mem_append_right _ hm
    · rename_i hc
      rcases List.mem_append.1 hm with hm | hm
      · exact h.has w hw hm
      · simp only [List.mem_singleton] at hm; subst hm
        rw [hw, Bool.true_and] at hc
        exact b4m h.eq (by simpa using hc)
theorem b0C : ∀ {t v : List Int} {V : List Int} {n : Nat} {b : Bnd}, t.length = v.length → BOk V n b → (∀ y ∈ v, 0 ≤ y ∧ y ≤ 9) → BOk (V ++ t) (n + t.length) (y4 b (t.zip v))
  | [], [], V, n, b, _, h, _ => by simpa [y4] using h
  | [], _ :: _, _, _, _, e, _, _ => by simp at e
  | _ :: _, [], _, _, _, e, _, _ => by simp at e
  | t :: ts, v :: vs, V, n, b, e, h, hv => by
    have h1 := b0C (t := ts) (v := vs) (by simpa using e) (b4s (t := t) h (hv v (List.mem_cons_self ..))) fun y hy => hv y (List.mem_cons_of_mem _ hy)
    rw [List.append_assoc, List.singleton_append] at h1
    rw [List.length_cons, show n + (ts.length + 1) = n + 1 + ts.length from by omega]
    exact h1
theorem b4P {F : List Fct} (h : BOk V n b) (ho : ∀ f ∈ F, H2 s f = true) : ∀ c ∈ I3 b a F, BOk (V ++ a.2) (n + a.2.length) c := by
  intro c hc
  obtain ⟨f, hf, rfl⟩ := List.mem_map.1 hc
  obtain ⟨h1, h2⟩ := List.mem_filter.1 hf
  simp only [o4, Bool.and_eq_true, decide_eq_true_eq] at h2
  exact b0C h2.2.1 h (X5 (ho f h1))
theorem a3R {F : List Fct} : C0 [b] a F = I3 b a F := by simp [C0]
theorem b4M {t : Int} (h : BOk V n b) (ht : inR t 0 9 = true ∨ inR t 10 17 = true) (hV : inR t 10 17 = true → t ∈ V) : 0 ≤ w4 b t ∧ w4 b t ≤ 9 := by
  cases hv : inR t 10 17
  · rw [← a7D hv]
    rcases ht with ht | ht
    · exact S5 ht
    · rw [hv] at ht; cases ht
  · have hm := h.has t hv (hV hv)
    have e : b.1.take (min b.1.length b.2.length) = b.1 := List.take_of_length_le (by have := h.eq; omega)
    have hi : ¬ E8 (fun x => decide (x = t)) b.1 < 0 := by
      unfold E8
      rw [if_pos (List.any_eq_true.2 ⟨t, hm, by simp⟩)]; omega
    have h2 := a4Q hi
    have h3 := h.eq
    simp only [w4, hv, if_true, e, if_neg hi]
    rw [at0, F6 (by omega)]
    exact h.val _ (List.getElem_mem _)
theorem b2h {t : Int} (h : O0 t = true) : inR t 0 9 = true ∨ inR t 10 17 = true := by simpa [O0] using h
/-- the access of a step that fits is valid -/
theorem b5G (hm : B3 s l = true) (hx : 0 ≤ x.2 ∧ x.2.toNat < l.length) (hc : F7 (atM l x.2) (atA d7 x.1) V = true) (ht : ∀ t ∈ (atA d7 x.1).2, O0 t = true) (h : BOk V n b) : K8 s l (w3 l d7 x b) = true := by
  have hin : ∀ i ∈ (atM l x.2).2.1, X3 (atA d7 x.1) V i = false := fun i hi => by
    have := (Bool.and_eq_true_iff.1 hc).2
    simp only [Bool.not_eq_true', List.any_eq_false, Bool.not_eq_true] at this
    exact this i hi
  rw [K8, hm, Bool.true_and]
  have h1 : inR x.2 0 ((l.length : Int) - 1) = true := by unfold inR; exact decide_eq_true (by omega)
  show (inR x.2 0 ((l.length : Int) - 1) && (decide ((V8 (atM l x.2) (atA d7 x.1) b).length = (atM l x.2).2.1.length) && M6 (V8 (atM l x.2) (atA d7 x.1) b))) = true
  rw [h1, Bool.true_and, decide_eq_true (by simp [V8]), Bool.true_and]
  refine b1Z fun y hy => ?_
  obtain ⟨i, hi, rfl⟩ := List.mem_map.1 hy
  have h2 := hin i hi
  simp only [X3, Bool.or_eq_false_iff, Bool.not_eq_false', Bool.and_eq_false_imp] at h2
  have h3 := S5 h2.1
  have h4 : at0 (atA d7 x.1).2 i ∈ (atA d7 x.1).2 := by rw [at0, F6 (by omega)]; exact List.getElem_mem _
  refine b4M h (b2h (ht _ h4)) fun hv => ?_
  exact a0d.1 (h2.2 hv)
theorem BOk.mono {m : Nat} (h : BOk V n b) (hn : n ≤ m) : BOk V m b := ⟨h.eq, Nat.le_trans h.le hn, h.val, h.has⟩
/-- of a state: its bindings know V and have at most n values, there are at most m; at most p accesses; what was got is valid and in order -/
structure RInv (s : List Int) (V : List Int) (n m p : Nat) (σ : RS) : Prop where
  b : ∀ b ∈ σ.1, BOk V n b
  len : σ.1.length ≤ m
  log : σ.2.1.length ≤ p
  got : ∀ f ∈ σ.2.2, H2 s f = true
  asc : a0q σ.2.2
theorem RInv.gotL {m p : Nat} (h : RInv s V n m p σ) : σ.2.2.length ≤ 5324 := b2p (a2y h.asc) h.got
theorem RInv.gotE {m p : Nat} (h : RInv s V n m p σ) : ∀ f ∈ σ.2.2, f.2.length ≤ 3 := fun f hf => U4 (h.got f hf)
theorem b4x {m p n' : Nat} (hT : TOk s D T) (hD : D (w3 l d7 x b)) (h : RInv s (V ++ (atA d7 x.1).2) n' m p σ) (hb : BOk V n b) (hn : n + (atA d7 x.1).2.length ≤ n') : RInv s (V ++ (atA d7 x.1).2) n' (m + 24) (p + 1) (rb1 T l d7 x σ b) := by
  refine ⟨fun c hc => ?_, ?_, ?_, ?_, ?_⟩
  · rcases List.mem_append.1 hc with hc | hc
    · exact h.b c hc
    · rw [a3R] at hc
      exact (b4P hb (hT.ok _ hD) c hc).mono hn
  · show (σ.1 ++ C0 [b] _ _).length ≤ _
    rw [List.length_append, a3R]
    have h1 := a3Z (b := b) (a := atA d7 x.1) (d8 := T (w3 l d7 x b))
    have h2 := hT.len _ hD
    have h3 := h.len
    omega
  · show (cond _ σ.2.1 _).length ≤ _
    have h3 := h.log
    cases a0v σ.2.1 (w3 l d7 x b)
    · simp only [cond_false, List.length_append, List.length_cons, List.length_nil]; omega
    · simp only [cond_true]; omega
  · show ∀ f ∈ cond _ σ.2.2 _, _
    cases a0v σ.2.1 (w3 l d7 x b)
    · intro f hf
      rcases (a2S f).1 hf with hf | hf
      · exact h.got f hf
      · exact hT.ok _ hD f hf
    · exact h.got
  · show a0q (cond _ σ.2.2 _)
    cases a0v σ.2.1 (w3 l d7 x b)
    · exact a5V h.asc
    · exact h.asc
theorem a2c (h : k < σ.1.length) : rbN T l d7 x σ (k + 1) = rb1 T l d7 x (rbN T l d7 x σ k) σ.1[k] := by unfold rbN; rw [a1p h]
theorem b1g (h : k = σ.1.length) : rbN T l d7 x σ k = rs1 T l d7 σ x := by unfold rbN rs1; rw [h, List.take_length]
theorem a8n {m p : Nat} (hT : TOk s D T) (hD : ∀ b ∈ σ.1, D (w3 l d7 x b)) (h : RInv s V n m p σ) : ∀ {k : Nat}, k ≤ σ.1.length → RInv s (V ++ (atA d7 x.1).2) (n + (atA d7 x.1).2.length) (24 * k) (p + k) (rbN T l d7 x σ k)
  | 0, _ => ⟨fun b hb => by simp [rbN] at hb, by simp [rbN], h.log, h.got, h.asc⟩
  | k + 1, hk => by
    have ih := a8n hT hD h (k := k) (by omega)
    rw [a2c (by omega)]
    exact b4x hT (hD _ (List.getElem_mem _)) ih (h.b _ (List.getElem_mem _)) (Nat.le_refl _)
theorem a8U (h : g < d6.length) : j5 T l d7 (d6.take (g + 1)) = rs1 T l d7 (j5 T l d7 (d6.take g)) d6[g] := by unfold j5; rw [a1p h]
/-- one step of the run -/
theorem b4N {m p : Nat} (hT : TOk s D T) (hD : ∀ b ∈ σ.1, D (w3 l d7 x b)) (h : RInv s V n m p σ) : RInv s (V ++ (atA d7 x.1).2) (n + (atA d7 x.1).2.length) (24 * m) (p + m) (rs1 T l d7 σ x) := by
  have h1 := a8n hT hD h (Nat.le_refl σ.1.length)
  rw [b1g rfl] at h1
  have h2 := h.len
  exact ⟨h1.b, by have := h1.len; omega, by have := h1.log; omega, h1.got, h1.asc⟩
theorem RInv.mono {m p n' m' p' : Nat} (h : RInv s V n m p σ) (h1 : n ≤ n') (h2 : m ≤ m') (h3 : p ≤ p') : RInv s V n' m' p' σ := ⟨fun b hb => (h.b b hb).mono h1, Nat.le_trans h.len h2, Nat.le_trans h.log h3, h.got, h.asc⟩
/-- the access of a step of an order, with a binding that was made so far -/
theorem b1o {q : List Int × List AT2} {m p : Nat} (hm : B3 s l = true) (hq : ∀ a ∈ q.2, ∀ t ∈ a.2, O0 t = true) (ho : N7 l q.2 d6 (g + 1) = true) (hg : g < d6.length) (h : RInv s (stB q.2 (d6.take g)) n m p σ) : ∀ b ∈ σ.1, K8 s l (w3 l q.2 d6[g] b) = true := fun b hb => by
  have h1 := (Bool.and_eq_true_iff.1 ho).2
  rw [F6 hg] at h1
  simp only [S4, Bool.and_eq_true] at h1
  have a1 := S5 h1.1
  have a2 := S5 h1.2.2.1
  refine b5G hm ⟨by omega, by omega⟩ h1.2.2.2 (fun t ht => hq _ ?_ t ht) (h.b b hb)
  rw [a1U (by omega)]; exact List.getElem_mem _
theorem b2K : ∀ {k : Nat}, N7 l d7 d6 (g + k) = true → N7 l d7 d6 g = true
  | 0, h => h
  | k + 1, h => b2K (k := k) (by rw [← Nat.add_assoc, N7] at h; exact (Bool.and_eq_true_iff.1 h).1)
theorem b0d (h : N7 l d7 d6 d6.length = true) (hg : g ≤ d6.length) : N7 l d7 d6 g = true := b2K (k := d6.length - g) (by rw [show g + (d6.length - g) = d6.length from by omega]; exact h)
theorem b4r (h : ∀ a ∈ d7, a.2.length ≤ 3) {i : Int} : (atA d7 i).2.length ≤ 3 := by
  unfold atA
  rcases Nat.lt_or_ge i.toNat d7.length with hk | hk
  · rw [F6 hk]; exact h _ (List.getElem_mem hk)
  · simp [List.getD, List.getElem?_eq_none hk]
theorem b1c {q : List Int × List AT2} (hT : TOk s (fun a => K8 s l a = true) T) (hm : B3 s l = true) (hq : ∀ a ∈ q.2, ∀ t ∈ a.2, O0 t = true) (h3 : ∀ a ∈ q.2, a.2.length ≤ 3) (ho : N7 l q.2 d6 d6.length = true) : ∀ {g : Nat}, g ≤ d6.length → RInv s (stB q.2 (d6.take g)) (3 * g) (24 ^ g) (g * 24 ^ g) (j5 T l q.2 (d6.take g))
  | 0, _ => ⟨fun b hb => by
      simp only [j5, List.take_zero, List.foldl_nil, List.mem_singleton] at hb; subst hb
      exact ⟨rfl, by simp, fun x hx => by simp at hx, fun v _ hv => by simp [stB] at hv⟩, by simp [j5], by simp [j5], fun f hf => by simp [j5] at hf, by simp [j5]⟩
  | g + 1, hg => by
    have ih := b1c hT hm hq h3 ho (g := g) (by omega)
    have h1 := b4N (x := d6[g]) hT (b1o hm hq (b0d ho hg) (by omega) ih) ih
    rw [← a8U (by omega), b3k (by omega)] at h1
    have h2 := b4r h3 (i := d6[g].1)
    refine h1.mono (by omega) (by rw [Nat.pow_succ]; omega) ?_
    rw [Nat.pow_succ, Nat.add_mul]
    have : g * 24 ^ g ≤ g * (24 ^ g * 24) := Nat.mul_le_mul_left _ (by omega)
    omega
theorem TOk.few (hT : TOk s D T) {c : Acs} (h : D c) : Few a (T c) := b6c (hT.nod _ h) (hT.ok _ h)
/-- the parts of a state, one binding on -/
theorem W9 (h : k < σ.1.length) : (rbN T l d7 x σ k).1 ++ C0 [σ.1[k]] (atA d7 x.1) (T (w3 l d7 x σ.1[k])) = (rbN T l d7 x σ (k + 1)).1 := by rw [a2c h]; rfl
theorem X0 (h : k < σ.1.length) (hh : a0v (rbN T l d7 x σ k).2.1 (w3 l d7 x σ.1[k]) = false) : (rbN T l d7 x σ k).2.1 ++ [w3 l d7 x σ.1[k]] = (rbN T l d7 x σ (k + 1)).2.1 := by rw [a2c h, rb1, hh]; rfl
theorem W5 (h : k < σ.1.length) (hh : a0v (rbN T l d7 x σ k).2.1 (w3 l d7 x σ.1[k]) = true) : (rbN T l d7 x σ k).2.1 = (rbN T l d7 x σ (k + 1)).2.1 := by rw [a2c h, rb1, hh]; rfl
theorem W6 (h : k < σ.1.length) (hh : a0v (rbN T l d7 x σ k).2.1 (w3 l d7 x σ.1[k]) = false) : (T (w3 l d7 x σ.1[k])).foldl x6 (rbN T l d7 x σ k).2.2 = (rbN T l d7 x σ (k + 1)).2.2 := by rw [a2c h, rb1, hh]; rfl
theorem W4 (h : k < σ.1.length) (hh : a0v (rbN T l d7 x σ k).2.1 (w3 l d7 x σ.1[k]) = true) : (rbN T l d7 x σ k).2.2 = (rbN T l d7 x σ (k + 1)).2.2 := by rw [a2c h, rb1, hh]; rfl
theorem a9Z {F v : List Fct} (h : g < F.length) : x6 ((F.take g).foldl x6 v) F[g] = (F.take (g + 1)).foldl x6 v := (a1p h).symm
/-- what respond tells is valid -/
theorem b5a {d8 : List Fct} {c : Int} (hf : B7 s d8 = true) : TOk s (fun a => K8 s l a = true) fun a => n0 l d8 a c where
  ok := fun a _ f h => (J1 hf).2 f (b4l h)
  nod := fun a _ => by
    unfold n0
    split
    · exact a2y (a5q (a7k hf))
    · exact a2y (a6z (a5q (a7k hf)) (Nat.le_refl _)).1
  len := fun a _ => Nat.le_trans b1e (J1 hf).1
theorem b2c {d8 : List Fct} (hf : B7 s d8 = true) : TOk s (fun a => K8 s l a = true) fun a => j6 l d8 a where
  ok := fun a _ f h => (J1 hf).2 f (List.mem_filter.1 h).1
  nod := fun a _ => a2y (a5q (a7k hf))
  len := fun a _ => Nat.le_trans a3m (J1 hf).1
end
abbrev b5I := List (List Int) × List Acs × List Fct × Int
def a2u (T : Acs → List Fct) (l : List Mth) (q : List Int × List AT2) (d6 : List Stp) : b5I :=
  (M0 q.1 (j5 T l q.2 d6).1, (j5 T l q.2 d6).2.1, (j5 T l q.2 d6).2.2, U7 l (j5 T l q.2 d6).2.1)
def K4 (s : List Int) (l : List Mth) (q : List Int × List AT2) (d6 : List Stp) (d8 : List Fct) (c : Int) : b5I :=
  cond (G7 s l q d6 && B7 s d8) (a2u (fun a => n0 l d8 a c) l q d6) ([], [], [], 0)
section
variable {s : List Int} {T : Acs → List Fct} {l : List Mth} {q : List Int × List AT2} {d6 : List Stp} {d8 : List Fct} {c : Int} {g : Nat}
theorem K5 (h : G7 s l q d6 = false) : ([], [], [], 0) = K4 s l q d6 d8 c := by rw [K4, h]; rfl
theorem K7 (h : B7 s d8 = false) : ([], [], [], 0) = K4 s l q d6 d8 c := by rw [K4, h, Bool.and_false]; rfl
theorem b1d (h : G7 s l q d6 = true) (h2 : B7 s d8 = true) : a2u (fun a => n0 l d8 a c) l q d6 = K4 s l q d6 d8 c := by rw [K4, h, h2]; rfl
theorem a0Z (h : G7 s l q d6 = true) : B3 s l = true ∧ y8 s q = true ∧ d6.length = q.2.length ∧ N7 l q.2 d6 d6.length = true := by
  simp only [G7, Bool.and_eq_true, decide_eq_true_eq] at h
  exact ⟨h.1.1, h.1.2, by omega, h.2.2⟩
theorem a4u (h : y8 s q = true) : ∀ a ∈ q.2, ∀ t ∈ a.2, O0 t = true := by
  intro a ha t ht
  simp only [y8, Bool.and_eq_true] at h
  have h1 : I2 s a = true := by
    cases e : I2 s a with
    | true => rfl
    | false =>
      have h2 : (q.2.any fun a => !I2 s a) = true := List.any_eq_true.2 ⟨a, ha, by simp [e]⟩
      rw [h2] at h; simp at h
  cases e : O0 t with
  | true => rfl
  | false =>
    simp only [I2, Bool.and_eq_true] at h1
    have h2 : (a.2.any fun t => !O0 t) = true := List.any_eq_true.2 ⟨t, ht, by simp [e]⟩
    rw [h2] at h1; simp at h1
/-- what is known at step g of a run -/
theorem a4M (ho : G7 s l q d6 = true) (hT : TOk s (fun a => K8 s l a = true) T) (hg : g ≤ d6.length) : RInv s (stB q.2 (d6.take g)) 12 331776 1327104 (j5 T l q.2 (d6.take g)) := by
  obtain ⟨h1, h2, h3, h4⟩ := a0Z ho
  have h5 := C1 h2
  have h6 := b1c hT h1 (a4u h2) h5.2.2 h4 hg
  have h7 : 24 ^ g ≤ 24 ^ 4 := Nat.pow_le_pow_right (by decide) (by have := h5.1; omega)
  have h8 : (24 : Nat) ^ 4 = 331776 := by decide
  have h9 : g ≤ 4 := by have := h5.1; omega
  exact h6.mono (by omega) (by omega) (Nat.le_trans (Nat.mul_le_mul h9 h7) (by omega))
theorem a8m (ho : G7 s l q d6 = true) (hT : TOk s (fun a => K8 s l a = true) T) (hg : g < d6.length) : ∀ b ∈ (j5 T l q.2 (d6.take g)).1, K8 s l (w3 l q.2 d6[g] b) = true := by
  obtain ⟨h1, h2, h3, h4⟩ := a0Z ho
  exact b1o h1 (a4u h2) (b0d h4 (by omega)) hg (a4M ho hT (by omega))
/-- what is known at binding k of step g -/
theorem b2O (ho : G7 s l q d6 = true) (hT : TOk s (fun a => K8 s l a = true) T) (hg : g < d6.length) {k : Nat} (hk : k ≤ (j5 T l q.2 (d6.take g)).1.length) : RInv s (stB q.2 (d6.take g) ++ (atA q.2 d6[g].1).2) (12 + (atA q.2 d6[g].1).2.length) (24 * k) (1327104 + k) (rbN T l q.2 d6[g] (j5 T l q.2 (d6.take g)) k) :=
  a8n hT (a8m ho hT hg) (a4M ho hT (by omega)) hk
theorem b1u (h : g = d6.length) : j5 T l q.2 (d6.take g) = j5 T l q.2 d6 := by rw [h, List.take_length]
end
section
variable {s : List Int} {D : Acs → Prop} {T : Acs → List Fct} {l : List Mth} {q : List Int × List AT2} {d7 : List AT2} {d6 : List Stp} {d8 : List Fct} {c : Int} {g k j n m p : Nat} {V : List Int} {σ : RS} {a : Acs}
theorem b2u (h : N7 l d7 d6 d6.length = true) (hg : g < d6.length) : ∀ i ∈ (atM l d6[g].2).2.1, 0 ≤ i ∧ i.toNat < (atA d7 d6[g].1).2.length := fun i hi => by
  have h1 := (Bool.and_eq_true_iff.1 (b0d (g := g + 1) h (by omega))).2
  rw [F6 hg] at h1
  simp only [S4, Bool.and_eq_true] at h1
  have h2 := (Bool.and_eq_true_iff.1 h1.2.2.2).2
  simp only [Bool.not_eq_true', List.any_eq_false, Bool.not_eq_true] at h2
  have h3 := h2 i hi
  simp only [X3, Bool.or_eq_false_iff, Bool.not_eq_false'] at h3
  have h4 := S5 h3.1
  omega
theorem b2t (h : RInv s V n m p σ) (hT : TOk s D T) (hD : D a) : (((T a).take j).foldl x6 σ.2.2).length ≤ 6000 ∧ ∀ f ∈ ((T a).take j).foldl x6 σ.2.2, f.2.length ≤ 3 := by
  have h1 := a2C (m := (T a).take j) (v := σ.2.2)
  have h2 := h.gotL
  have h3 := hT.len a hD
  have h4 := List.length_take_le' j (T a)
  refine ⟨by omega, fun f hf => ?_⟩
  rcases (a2S f).1 hf with hf | hf
  · exact h.gotE f hf
  · exact U4 (hT.ok a hD f (List.mem_of_mem_take hf))
theorem Q5 (hk : k = (j5 T l d7 (d6.take g)).1.length) (hg : g < d6.length) : rbN T l d7 d6[g] (j5 T l d7 (d6.take g)) k = j5 T l d7 (d6.take (g + 1)) := by rw [b1g hk, a8U hg]
theorem a3z : [([], [])] = (j5 T l d7 (d6.take 0)).1 := rfl
theorem a3x : [] = (j5 T l d7 (d6.take 0)).2.1 := rfl
theorem a3l : [] = (j5 T l d7 (d6.take 0)).2.2 := rfl
theorem a3E {x : Stp} : [] = (rbN T l d7 x σ 0).1 := rfl
theorem a3I {x : Stp} : σ.2.1 = (rbN T l d7 x σ 0).2.1 := rfl
theorem a3y {x : Stp} : σ.2.2 = (rbN T l d7 x σ 0).2.2 := rfl
theorem I4 (h : g = d6.length) : (M0 q.1 (j5 T l q.2 (d6.take g)).1, (j5 T l q.2 (d6.take g)).2.1, (j5 T l q.2 (d6.take g)).2.2, U7 l (j5 T l q.2 (d6.take g)).2.1) = a2u T l q d6 := by rw [a2u, b1u h]
theorem K6 (ho : G7 s l q d6 = true) (hf : B7 s d8 = true) (h : g = d6.length) : (M0 q.1 (j5 (fun a => n0 l d8 a c) l q.2 (d6.take g)).1, (j5 (fun a => n0 l d8 a c) l q.2 (d6.take g)).2.1, (j5 (fun a => n0 l d8 a c) l q.2 (d6.take g)).2.2, U7 l (j5 (fun a => n0 l d8 a c) l q.2 (d6.take g)).2.1) = K4 s l q d6 d8 c := by
  rw [← b1d ho hf, b1u h]; rfl
end
end Go.Proofs.YtdopeopehgdccaaGreat
