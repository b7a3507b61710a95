import Derived.Test.YtdopeopehgdccaaGreatEy
import Derived.Test.YtdopeopehgdccaaGreatEf
namespace Go.Proofs.YtdopeopehgdccaaGreat
set_option linter.unusedVariables false
set_option linter.unusedSimpArgs false
abbrev Bnd := List Int × List Int
abbrev RS := List Bnd × List Acs × List Fct
def u5 (l : List Mth) (i9 : List AT2) (x : Stp) (b : Bnd) : Acs := (x.2, U8 (atM l x.2) (atA i9 x.1) b)
def rb1 (T : Acs → List Fct) (l : List Mth) (i9 : List AT2) (x : Stp) (σ : RS) (b : Bnd) : RS :=
  (σ.1 ++ C7 [b] (atA i9 x.1) (T (u5 l i9 x b)), cond (Y0 σ.2.1 (u5 l i9 x b)) σ.2.1 (σ.2.1 ++ [u5 l i9 x b]), cond (Y0 σ.2.1 (u5 l i9 x b)) σ.2.2 ((T (u5 l i9 x b)).foldl y4 σ.2.2))
def rbN (T : Acs → List Fct) (l : List Mth) (i9 : List AT2) (x : Stp) (σ : RS) (k : Nat) : RS := (σ.1.take k).foldl (rb1 T l i9 x) ([], σ.2)
def rs1 (T : Acs → List Fct) (l : List Mth) (i9 : List AT2) (σ : RS) (x : Stp) : RS := σ.1.foldl (rb1 T l i9 x) ([], σ.2)
def j0 (T : Acs → List Fct) (l : List Mth) (i9 : List AT2) (d7 : List Stp) : RS := d7.foldl (rs1 T l i9) ([([], [])], [], [])
/-- a binding that knows V, of at most n values -/
structure BOk (V : List Int) (n : Nat) (b : Bnd) : Prop where
  eq : b.1.length = b.2.length
  le : b.1.length ≤ n
  val : ∀ x ∈ b.2, 0 ≤ x ∧ x ≤ 9
  has : ∀ v, inR v 10 17 = true → v ∈ V → v ∈ b.1
/-- what a source tells is valid, short and in order -/
structure TOk (s : List Int) (D : Acs → Prop) (T : Acs → List Fct) : Prop where
  ok : ∀ a, D a → ∀ f ∈ T a, F3 s f = true
  nod : ∀ a, D a → (T a).Nodup
  len : ∀ a, D a → (T a).length ≤ 24
section
variable {s : List Int} {D : Acs → Prop} {T : Acs → List Fct} {l : List Mth} {i9 : List AT2} {x : Stp} {σ : RS} {b : Bnd} {V : List Int} {n k g : Nat} {a f : Int × List Int} {d7 : List Stp}
theorem b1f {t : Int} (h : b.1.length = b.2.length) (hu : unb b t = false) : t ∈ b.1 := by
  have e : b.1.take (min b.1.length b.2.length) = b.1 := List.take_of_length_le (by omega)
  rw [unb, e, Bool.not_eq_false'] at hu
  obtain ⟨y, hy, hd⟩ := List.any_eq_true.1 hu
  rw [← of_decide_eq_true hd]; exact hy
theorem b0P {t v : Int} (h : BOk V n b) (hv : 0 ≤ v ∧ v ≤ 9) : BOk (V ++ [t]) (n + 1) (y5 b t v) := by
  have h1 := a8q (t := t) (v := v) h.eq
  have h2 := a7f (x := b) (t := t) (v := v)
  have h3 := h.le
  refine ⟨h1, by omega, fun y hy => ?_, fun w hw hm => ?_⟩
  · unfold y5 at hy
    split at hy
    · rcases List.mem_append.1 hy with hy | hy
      · exact h.val y hy
      · simp only [List.mem_singleton] at hy; subst hy; exact hv
    · exact h.val y hy
  · unfold y5
    split
    · rcases List.mem_append.1 hm with hm | hm
      · exact List.mem_append_left _ (h.has w hw hm)
      · exact List.mem_append_right _ hm
    · rename_i hc
      rcases List.mem_append.1 hm with hm | hm
      · exact h.has w hw hm
      · simp only [List.mem_singleton] at hm; subst hm
        rw [hw, Bool.true_and] at hc
        exact b1f h.eq (by simpa using hc)
theorem a7L : ∀ {t v : List Int} {V : List Int} {n : Nat} {b : Bnd}, t.length = v.length → BOk V n b → (∀ y ∈ v, 0 ≤ y ∧ y ≤ 9) → BOk (V ++ t) (n + t.length) (w7 b (t.zip v))
  | [], [], V, n, b, _, h, _ => by simpa [w7] using h
  | [], _ :: _, _, _, _, e, _, _ => by simp at e
  | _ :: _, [], _, _, _, e, _, _ => by simp at e
  | t :: ts, v :: vs, V, n, b, e, h, hv => by
    have h1 := a7L (t := ts) (v := vs) (by simpa using e) (b0P (t := t) h (hv v (List.mem_cons_self ..))) fun y hy => hv y (List.mem_cons_of_mem _ hy)
    rw [List.append_assoc, List.singleton_append] at h1
    rw [List.length_cons, show n + (ts.length + 1) = n + 1 + ts.length from by omega]
    exact h1
theorem b0S {F : List Fct} (h : BOk V n b) (ho : ∀ f ∈ F, F3 s f = true) : ∀ c ∈ G4 b a F, BOk (V ++ a.2) (n + a.2.length) c := by
  intro c hc
  obtain ⟨f, hf, rfl⟩ := List.mem_map.1 hc
  obtain ⟨h1, h2⟩ := List.mem_filter.1 hf
  simp only [l0, Bool.and_eq_true, decide_eq_true_eq] at h2
  exact a7L h2.2.1 h (V0 (ho f h1))
theorem a2i {F : List Fct} : C7 [b] a F = G4 b a F := by simp [C7]
theorem b1h {t : Int} (h : BOk V n b) (ht : inR t 0 9 = true ∨ inR t 10 17 = true) (hV : inR t 10 17 = true → t ∈ V) : 0 ≤ B7 b t ∧ B7 b t ≤ 9 := by
  cases hv : inR t 10 17
  · rw [← a5t hv]
    rcases ht with ht | ht
    · exact O1 ht
    · rw [hv] at ht; cases ht
  · have hm := h.has t hv (hV hv)
    have e : b.1.take (min b.1.length b.2.length) = b.1 := List.take_of_length_le (by have := h.eq; omega)
    have hi : ¬ D3 (fun x => decide (x = t)) b.1 < 0 := by
      unfold D3
      rw [if_pos (List.any_eq_true.2 ⟨t, hm, by simp⟩)]; omega
    have h2 := a7H hi
    have h3 := h.eq
    simp only [B7, hv, if_true, e, if_neg hi]
    rw [at0, F5 (by omega)]
    exact h.val _ (List.getElem_mem _)
theorem a9b {t : Int} (h : K5 t = true) : inR t 0 9 = true ∨ inR t 10 17 = true := by simpa [K5] using h
/-- the access of a step that fits is valid -/
theorem b1w (hm : D6 s l = true) (hx : 0 ≤ x.2 ∧ x.2.toNat < l.length) (hc : S9 (atM l x.2) (atA i9 x.1) V = true) (ht : ∀ t ∈ (atA i9 x.1).2, K5 t = true) (h : BOk V n b) : I0 s l (u5 l i9 x b) = true := by
  have hin : ∀ i ∈ (atM l x.2).2.1, W0 (atA i9 x.1) V i = false := fun i hi => by
    have := (Bool.and_eq_true_iff.1 hc).2
    simp only [Bool.not_eq_true', List.any_eq_false, Bool.not_eq_true] at this
    exact this i hi
  rw [I0, hm, Bool.true_and]
  have h1 : inR x.2 0 ((l.length : Int) - 1) = true := by unfold inR; exact decide_eq_true (by omega)
  show (inR x.2 0 ((l.length : Int) - 1) && (decide ((U8 (atM l x.2) (atA i9 x.1) b).length = (atM l x.2).2.1.length) && I7 (U8 (atM l x.2) (atA i9 x.1) b))) = true
  rw [h1, Bool.true_and, decide_eq_true (by simp [U8]), Bool.true_and]
  refine a9B fun y hy => ?_
  obtain ⟨i, hi, rfl⟩ := List.mem_map.1 hy
  have h2 := hin i hi
  simp only [W0, Bool.or_eq_false_iff, Bool.not_eq_false', Bool.and_eq_false_imp] at h2
  have h3 := O1 h2.1
  have h4 : at0 (atA i9 x.1).2 i ∈ (atA i9 x.1).2 := by rw [at0, F5 (by omega)]; exact List.getElem_mem _
  refine b1h h (a9b (ht _ h4)) fun hv => ?_
  exact a2n.1 (h2.2 hv)
theorem BOk.mono {m : Nat} (h : BOk V n b) (hn : n ≤ m) : BOk V m b := ⟨h.eq, Nat.le_trans h.le hn, h.val, h.has⟩
/-- of a state: its bindings know V and have at most n values, there are at most m; at most p accesses; what was got is valid and in order -/
structure RInv (s : List Int) (V : List Int) (n m p : Nat) (σ : RS) : Prop where
  b : ∀ b ∈ σ.1, BOk V n b
  len : σ.1.length ≤ m
  log : σ.2.1.length ≤ p
  got : ∀ f ∈ σ.2.2, F3 s f = true
  asc : Z0 σ.2.2
theorem RInv.gotL {m p : Nat} (h : RInv s V n m p σ) : σ.2.2.length ≤ 5324 := a9C (a0C h.asc) h.got
theorem RInv.gotE {m p : Nat} (h : RInv s V n m p σ) : ∀ f ∈ σ.2.2, f.2.length ≤ 3 := fun f hf => P0 (h.got f hf)
theorem b0M {m p n' : Nat} (hT : TOk s D T) (hD : D (u5 l i9 x b)) (h : RInv s (V ++ (atA i9 x.1).2) n' m p σ) (hb : BOk V n b) (hn : n + (atA i9 x.1).2.length ≤ n') : RInv s (V ++ (atA i9 x.1).2) n' (m + 24) (p + 1) (rb1 T l i9 x σ b) := by
  refine ⟨fun c hc => ?_, ?_, ?_, ?_, ?_⟩
  · rcases List.mem_append.1 hc with hc | hc
    · exact h.b c hc
    · rw [a2i] at hc
      exact (b0S hb (hT.ok _ hD) c hc).mono hn
  · show (σ.1 ++ C7 [b] _ _).length ≤ _
    rw [List.length_append, a2i]
    have h1 := a3S (b := b) (a := atA i9 x.1) (d8 := T (u5 l i9 x b))
    have h2 := hT.len _ hD
    have h3 := h.len
    omega
  · show (cond _ σ.2.1 _).length ≤ _
    have h3 := h.log
    cases Y0 σ.2.1 (u5 l i9 x b)
    · simp only [cond_false, List.length_append, List.length_cons, List.length_nil]; omega
    · simp only [cond_true]; omega
  · show ∀ f ∈ cond _ σ.2.2 _, _
    cases Y0 σ.2.1 (u5 l i9 x b)
    · intro f hf
      rcases (a1w f).1 hf with hf | hf
      · exact h.got f hf
      · exact hT.ok _ hD f hf
    · exact h.got
  · show Z0 (cond _ σ.2.2 _)
    cases Y0 σ.2.1 (u5 l i9 x b)
    · exact a3O h.asc
    · exact h.asc
theorem a0s (h : k < σ.1.length) : rbN T l i9 x σ (k + 1) = rb1 T l i9 x (rbN T l i9 x σ k) σ.1[k] := by unfold rbN; rw [Y8 h]
theorem a5J (h : k = σ.1.length) : rbN T l i9 x σ k = rs1 T l i9 σ x := by unfold rbN rs1; rw [h, List.take_length]
theorem a5P {m p : Nat} (hT : TOk s D T) (hD : ∀ b ∈ σ.1, D (u5 l i9 x b)) (h : RInv s V n m p σ) : ∀ {k : Nat}, k ≤ σ.1.length → RInv s (V ++ (atA i9 x.1).2) (n + (atA i9 x.1).2.length) (24 * k) (p + k) (rbN T l i9 x σ k)
  | 0, _ => ⟨fun b hb => by simp [rbN] at hb, by simp [rbN], h.log, h.got, h.asc⟩
  | k + 1, hk => by
    have ih := a5P hT hD h (k := k) (by omega)
    rw [a0s (by omega)]
    exact b0M hT (hD _ (List.getElem_mem _)) ih (h.b _ (List.getElem_mem _)) (Nat.le_refl _)
theorem a2P (h : g < d7.length) : j0 T l i9 (d7.take (g + 1)) = rs1 T l i9 (j0 T l i9 (d7.take g)) d7[g] := by unfold j0; rw [Y8 h]
/-- one step of the run -/
theorem b0Q {m p : Nat} (hT : TOk s D T) (hD : ∀ b ∈ σ.1, D (u5 l i9 x b)) (h : RInv s V n m p σ) : RInv s (V ++ (atA i9 x.1).2) (n + (atA i9 x.1).2.length) (24 * m) (p + m) (rs1 T l i9 σ x) := by
  have h1 := a5P hT hD h (Nat.le_refl σ.1.length)
  rw [a5J rfl] at h1
  have h2 := h.len
  exact ⟨h1.b, by have := h1.len; omega, by have := h1.log; omega, h1.got, h1.asc⟩
theorem RInv.mono {m p n' m' p' : Nat} (h : RInv s V n m p σ) (h1 : n ≤ n') (h2 : m ≤ m') (h3 : p ≤ p') : RInv s V n' m' p' σ := ⟨fun b hb => (h.b b hb).mono h1, Nat.le_trans h.len h2, Nat.le_trans h.log h3, h.got, h.asc⟩
/-- the access of a step of an order, with a binding that was made so far -/
theorem a8u {q : List Int × List AT2} {m p : Nat} (hm : D6 s l = true) (hq : ∀ a ∈ q.2, ∀ t ∈ a.2, K5 t = true) (ho : P4 l q.2 d7 (g + 1) = true) (hg : g < d7.length) (h : RInv s (stB q.2 (d7.take g)) n m p σ) : ∀ b ∈ σ.1, I0 s l (u5 l q.2 d7[g] b) = true := fun b hb => by
  have h1 := (Bool.and_eq_true_iff.1 ho).2
  rw [F5 hg] at h1
  simp only [R4, Bool.and_eq_true] at h1
  have a1 := O1 h1.1
  have a2 := O1 h1.2.2.1
  refine b1w hm ⟨by omega, by omega⟩ h1.2.2.2 (fun t ht => hq _ ?_ t ht) (h.b b hb)
  rw [V8 (by omega)]; exact List.getElem_mem _
theorem a9v : ∀ {k : Nat}, P4 l i9 d7 (g + k) = true → P4 l i9 d7 g = true
  | 0, h => h
  | k + 1, h => a9v (k := k) (by rw [← Nat.add_assoc, P4] at h; exact (Bool.and_eq_true_iff.1 h).1)
theorem a7h (h : P4 l i9 d7 d7.length = true) (hg : g ≤ d7.length) : P4 l i9 d7 g = true := a9v (k := d7.length - g) (by rw [show g + (d7.length - g) = d7.length from by omega]; exact h)
theorem b1b (h : ∀ a ∈ i9, a.2.length ≤ 3) {i : Int} : (atA i9 i).2.length ≤ 3 := by
  unfold atA
  rcases Nat.lt_or_ge i.toNat i9.length with hk | hk
  · rw [F5 hk]; exact h _ (List.getElem_mem hk)
  · simp [List.getD, List.getElem?_eq_none hk]
theorem a8j {q : List Int × List AT2} (hT : TOk s (fun a => I0 s l a = true) T) (hm : D6 s l = true) (hq : ∀ a ∈ q.2, ∀ t ∈ a.2, K5 t = true) (h3 : ∀ a ∈ q.2, a.2.length ≤ 3) (ho : P4 l q.2 d7 d7.length = true) : ∀ {g : Nat}, g ≤ d7.length → RInv s (stB q.2 (d7.take g)) (3 * g) (24 ^ g) (g * 24 ^ g) (j0 T l q.2 (d7.take g))
  | 0, _ => ⟨fun b hb => by
      simp only [j0, List.take_zero, List.foldl_nil, List.mem_singleton] at hb; subst hb
      exact ⟨rfl, by simp, fun x hx => by simp at hx, fun v _ hv => by simp [stB] at hv⟩, by simp [j0], by simp [j0], fun f hf => by simp [j0] at hf, by simp [j0]⟩
  | g + 1, hg => by
    have ih := a8j hT hm hq h3 ho (g := g) (by omega)
    have h1 := b0Q (x := d7[g]) hT (a8u hm hq (a7h ho hg) (by omega) ih) ih
    rw [← a2P (by omega), a4j (by omega)] at h1
    have h2 := b1b h3 (i := d7[g].1)
    refine h1.mono (by omega) (by rw [Nat.pow_succ]; omega) ?_
    rw [Nat.pow_succ, Nat.add_mul]
    have : g * 24 ^ g ≤ g * (24 ^ g * 24) := Nat.mul_le_mul_left _ (by omega)
    omega
theorem TOk.few (hT : TOk s D T) {c : Acs} (h : D c) : Few a (T c) := b2g (hT.nod _ h) (hT.ok _ h)
/-- the parts of a state, one binding on -/
theorem U3 (h : k < σ.1.length) : (rbN T l i9 x σ k).1 ++ C7 [σ.1[k]] (atA i9 x.1) (T (u5 l i9 x σ.1[k])) = (rbN T l i9 x σ (k + 1)).1 := by rw [a0s h]; rfl
theorem T2 (h : k < σ.1.length) (hh : Y0 (rbN T l i9 x σ k).2.1 (u5 l i9 x σ.1[k]) = false) : (rbN T l i9 x σ k).2.1 ++ [u5 l i9 x σ.1[k]] = (rbN T l i9 x σ (k + 1)).2.1 := by rw [a0s h, rb1, hh]; rfl
theorem U0 (h : k < σ.1.length) (hh : Y0 (rbN T l i9 x σ k).2.1 (u5 l i9 x σ.1[k]) = true) : (rbN T l i9 x σ k).2.1 = (rbN T l i9 x σ (k + 1)).2.1 := by rw [a0s h, rb1, hh]; rfl
theorem U2 (h : k < σ.1.length) (hh : Y0 (rbN T l i9 x σ k).2.1 (u5 l i9 x σ.1[k]) = false) : (T (u5 l i9 x σ.1[k])).foldl y4 (rbN T l i9 x σ k).2.2 = (rbN T l i9 x σ (k + 1)).2.2 := by rw [a0s h, rb1, hh]; rfl
theorem U4 (h : k < σ.1.length) (hh : Y0 (rbN T l i9 x σ k).2.1 (u5 l i9 x σ.1[k]) = true) : (rbN T l i9 x σ k).2.2 = (rbN T l i9 x σ (k + 1)).2.2 := by rw [a0s h, rb1, hh]; rfl
theorem a7V {F v : List Fct} (h : g < F.length) : y4 ((F.take g).foldl y4 v) F[g] = (F.take (g + 1)).foldl y4 v := (Y8 h).symm
/-- what respond tells is valid -/
theorem a7l {d8 : List Fct} {c : Int} (hf : C5 s d8 = true) : TOk s (fun a => I0 s l a = true) fun a => f7 l d8 a c where
  ok := fun a _ f h => (H1 hf).2 f (a8i h)
  nod := fun a _ => by
    unfold f7
    split
    · exact a0C (a1K (a2U hf))
    · exact a0C (a2g (a1K (a2U hf)) (Nat.le_refl _)).1
  len := fun a _ => Nat.le_trans a3m (H1 hf).1
theorem b0N {l' : List Mth} {d8 : List Fct} {c : Int} (hf : C5 s d8 = true) : TOk s (fun a => I0 s l a = true) fun a => f7 l' d8 a c :=
  ⟨fun a h f hm => (H1 hf).2 f (a8i hm), fun a h => by
    show (f7 l' d8 a c).Nodup
    unfold f7
    split
    · exact a0C (a1K (a2U hf))
    · exact a0C (a2g (a1K (a2U hf)) (Nat.le_refl _)).1, fun a _ => Nat.le_trans a3m (H1 hf).1⟩
end
abbrev b1s := List (List Int) × List Acs × List Fct × Int
def a0S (T : Acs → List Fct) (l : List Mth) (q : List Int × List AT2) (d7 : List Stp) : b1s :=
  (J8 q.1 (j0 T l q.2 d7).1, (j0 T l q.2 d7).2.1, (j0 T l q.2 d7).2.2, P6 l (j0 T l q.2 d7).2.1)
def x6 (s : List Int) (l : List Mth) (q : List Int × List AT2) (d7 : List Stp) (d8 : List Fct) (c : Int) : b1s :=
  cond (G1 s l q d7 && C5 s d8) (a0S (fun a => f7 l d8 a c) l q d7) ([], [], [], 0)
section
variable {s : List Int} {T : Acs → List Fct} {l : List Mth} {q : List Int × List AT2} {d7 : List Stp} {d8 : List Fct} {c : Int} {g : Nat}
theorem B5 (h : G1 s l q d7 = false) : ([], [], [], 0) = x6 s l q d7 d8 c := by rw [x6, h]; rfl
theorem B6 (h : C5 s d8 = false) : ([], [], [], 0) = x6 s l q d7 d8 c := by rw [x6, h, Bool.and_false]; rfl
theorem H0 (h : G1 s l q d7 = true) (h2 : C5 s d8 = true) : a0S (fun a => f7 l d8 a c) l q d7 = x6 s l q d7 d8 c := by rw [x6, h, h2]; rfl
theorem a0k (h : G1 s l q d7 = true) : D6 s l = true ∧ E2 s q = true ∧ d7.length = q.2.length ∧ P4 l q.2 d7 d7.length = true := by
  simp only [G1, Bool.and_eq_true, decide_eq_true_eq] at h
  exact ⟨h.1.1, h.1.2, by omega, h.2.2⟩
theorem a2G (h : E2 s q = true) : ∀ a ∈ q.2, ∀ t ∈ a.2, K5 t = true := by
  intro a ha t ht
  simp only [E2, Bool.and_eq_true] at h
  have h1 : I8 s a = true := by
    cases e : I8 s a with
    | true => rfl
    | false =>
      have h2 : (q.2.any fun a => !I8 s a) = true := List.any_eq_true.2 ⟨a, ha, by simp [e]⟩
      rw [h2] at h; simp at h
  cases e : K5 t with
  | true => rfl
  | false =>
    simp only [I8, Bool.and_eq_true] at h1
    have h2 : (a.2.any fun t => !K5 t) = true := List.any_eq_true.2 ⟨t, ht, by simp [e]⟩
    rw [h2] at h1; simp at h1
/-- what is known at step g of a run -/
theorem a1J (ho : G1 s l q d7 = true) (hT : TOk s (fun a => I0 s l a = true) T) (hg : g ≤ d7.length) : RInv s (stB q.2 (d7.take g)) 12 331776 1327104 (j0 T l q.2 (d7.take g)) := by
  obtain ⟨h1, h2, h3, h4⟩ := a0k ho
  have h5 := a0u h2
  have h6 := a8j hT h1 (a2G h2) h5.2.2 h4 hg
  have h7 : 24 ^ g ≤ 24 ^ 4 := Nat.pow_le_pow_right (by decide) (by have := h5.1; omega)
  have h8 : (24 : Nat) ^ 4 = 331776 := by decide
  have h9 : g ≤ 4 := by have := h5.1; omega
  exact h6.mono (by omega) (by omega) (Nat.le_trans (Nat.mul_le_mul h9 h7) (by omega))
theorem a3p (ho : G1 s l q d7 = true) (hT : TOk s (fun a => I0 s l a = true) T) (hg : g < d7.length) : ∀ b ∈ (j0 T l q.2 (d7.take g)).1, I0 s l (u5 l q.2 d7[g] b) = true := by
  obtain ⟨h1, h2, h3, h4⟩ := a0k ho
  exact a8u h1 (a2G h2) (a7h h4 (by omega)) hg (a1J ho hT (by omega))
/-- what is known at binding k of step g -/
theorem a9l (ho : G1 s l q d7 = true) (hT : TOk s (fun a => I0 s l a = true) T) (hg : g < d7.length) {k : Nat} (hk : k ≤ (j0 T l q.2 (d7.take g)).1.length) : RInv s (stB q.2 (d7.take g) ++ (atA q.2 d7[g].1).2) (12 + (atA q.2 d7[g].1).2.length) (24 * k) (1327104 + k) (rbN T l q.2 d7[g] (j0 T l q.2 (d7.take g)) k) :=
  a5P hT (a3p ho hT hg) (a1J ho hT (by omega)) hk
theorem a8v (h : g = d7.length) : j0 T l q.2 (d7.take g) = j0 T l q.2 d7 := by rw [h, List.take_length]
end
section
variable {s : List Int} {D : Acs → Prop} {T : Acs → List Fct} {l : List Mth} {q : List Int × List AT2} {i9 : List AT2} {d7 : List Stp} {d8 : List Fct} {c : Int} {g k j n m p : Nat} {V : List Int} {σ : RS} {a : Acs}
theorem a9t (h : P4 l i9 d7 d7.length = true) (hg : g < d7.length) : ∀ i ∈ (atM l d7[g].2).2.1, 0 ≤ i ∧ i.toNat < (atA i9 d7[g].1).2.length := fun i hi => by
  have h1 := (Bool.and_eq_true_iff.1 (a7h (g := g + 1) h (by omega))).2
  rw [F5 hg] at h1
  simp only [R4, Bool.and_eq_true] at h1
  have h2 := (Bool.and_eq_true_iff.1 h1.2.2.2).2
  simp only [Bool.not_eq_true', List.any_eq_false, Bool.not_eq_true] at h2
  have h3 := h2 i hi
  simp only [W0, Bool.or_eq_false_iff, Bool.not_eq_false'] at h3
  have h4 := O1 h3.1
  omega
theorem a9i (h : RInv s V n m p σ) (hT : TOk s D T) (hD : D a) : (((T a).take j).foldl y4 σ.2.2).length ≤ 6000 ∧ ∀ f ∈ ((T a).take j).foldl y4 σ.2.2, f.2.length ≤ 3 := by
  have h1 := a1h (m := (T a).take j) (v := σ.2.2)
  have h2 := h.gotL
  have h3 := hT.len a hD
  have h4 := List.length_take_le' j (T a)
  refine ⟨by omega, fun f hf => ?_⟩
  rcases (a1w f).1 hf with hf | hf
  · exact h.gotE f hf
  · exact P0 (hT.ok a hD f (List.mem_of_mem_take hf))
theorem O2 (hk : k = (j0 T l i9 (d7.take g)).1.length) (hg : g < d7.length) : rbN T l i9 d7[g] (j0 T l i9 (d7.take g)) k = j0 T l i9 (d7.take (g + 1)) := by rw [a5J hk, a2P hg]
theorem a2d : [([], [])] = (j0 T l i9 (d7.take 0)).1 := rfl
theorem a2c : [] = (j0 T l i9 (d7.take 0)).2.1 := rfl
theorem a1X : [] = (j0 T l i9 (d7.take 0)).2.2 := rfl
theorem a2a {x : Stp} : [] = (rbN T l i9 x σ 0).1 := rfl
theorem a1W {x : Stp} : σ.2.1 = (rbN T l i9 x σ 0).2.1 := rfl
theorem a1L {x : Stp} : σ.2.2 = (rbN T l i9 x σ 0).2.2 := rfl
theorem G2 (h : g = d7.length) : (J8 q.1 (j0 T l q.2 (d7.take g)).1, (j0 T l q.2 (d7.take g)).2.1, (j0 T l q.2 (d7.take g)).2.2, P6 l (j0 T l q.2 (d7.take g)).2.1) = a0S T l q d7 := by rw [a0S, a8v h]
theorem H9 (ho : G1 s l q d7 = true) (hf : C5 s d8 = true) (h : g = d7.length) : (J8 q.1 (j0 (fun a => f7 l d8 a c) l q.2 (d7.take g)).1, (j0 (fun a => f7 l d8 a c) l q.2 (d7.take g)).2.1, (j0 (fun a => f7 l d8 a c) l q.2 (d7.take g)).2.2, P6 l (j0 (fun a => f7 l d8 a c) l q.2 (d7.take g)).2.1) = x6 s l q d7 d8 c := by
  rw [← H0 ho hf, a8v h]; rfl
end
end Go.Proofs.YtdopeopehgdccaaGreat
