import Derived.Test.YtlfhopooaejpfaaGreatDz
namespace Go.Proofs.YtlfhopooaejpfaaGreat
set_option linter.unusedVariables false
set_option linter.unusedSimpArgs false
def a0B (s : List Int) (c6 : List Fct) : Prop := c6.length ≤ 7000 ∧ ∀ f ∈ c6, H8 s f = true
theorem b4N {s : List Int} {l : List Mth} {c6 : List Fct} {i : Int} (h : C0 s l = true) (hf : a0B s c6) (hi : 0 ≤ i ∧ i.toNat < l.length) : ∀ f ∈ c6, f.1 = (atM l i).1 → ∀ j ∈ (atM l i).2.1, 0 ≤ j ∧ j < f.2.length := by
 rw [a3O hi.2]
 exact fun f hm e => b3W (b3V h _ (List.getElem_mem _)) (hf.2 f hm) e
abbrev NoS := List Fct × List Lin
abbrev UU := List Fct × List Int × List Acs × List Lin
def notU (S : NoS) (x : Lin) : NoS := if I5 S.1 x.2.2 then S else (w6 S.1 x.2.2, S.2 ++ [x])
def notes (S : NoS) (xs : List Lin) : NoS := xs.foldl notU S
def lnA (a : Acs) (f : Fct) : Lin := (-1, a, f)
def lnR (d4 : List Rul) (F : List Fct) (f : Fct) : Lin := (a1U d4 F f, (0, []), f)
def rndA (l : List Mth) (c6 : List Fct) (O : List Acs) (S : NoS) : NoS := O.foldl (fun S a => notes S ((U5 l c6 a).map (lnA a))) S
def uO (l : List Mth) (u : UU) : List Acs := d7 u.2.1 u.2.2.1 l 0
def uA (l : List Mth) (c6 : List Fct) (u : UU) : NoS := rndA l c6 (uO l u) (u.1, u.2.2.2)
def uM (l : List Mth) (d4 : List Rul) (c6 : List Fct) (u : UU) : List Fct := l6 d4 (uA l c6 u).1
def uD (l : List Mth) (d4 : List Rul) (c6 : List Fct) (u : UU) : List Lin := (uM l d4 c6 u).map (lnR d4 (uA l c6 u).1)
def uS (l : List Mth) (d4 : List Rul) (c6 : List Fct) (u : UU) : NoS := notes (uA l c6 u) (uD l d4 c6 u)
def H0 (l : List Mth) (d4 : List Rul) (c6 : List Fct) (u : UU) : UU := ((uS l d4 c6 u).1, (uS l d4 c6 u).1.foldl pvI u.2.1, u.2.2.1 ++ uO l u, (uS l d4 c6 u).2)
def uIt (l : List Mth) (d4 : List Rul) (c6 : List Fct) (m6 : List Int) : Nat → UU
 | 0 => ([], I2 (m6.filter fun t => inR t 0 9), [], [])
 | n + 1 => H0 l d4 c6 (uIt l d4 c6 m6 n)
def H6 (l : List Mth) (d4 : List Rul) (c6 : List Fct) (m6 : List Int) : UU := uIt l d4 c6 m6 6000
-- noting
theorem b8Y {S : NoS} {x : Lin} : S.2.length ≤ (notU S x).2.length := by unfold notU; split <;> simp
theorem b6G {S : NoS} {x : Lin} (h : (notU S x).2.length ≤ S.2.length) : notU S x = S := by
 unfold notU at h ⊢
 split
 ·rfl
 ·rename_i hn; rw [if_neg hn] at h; simp at h; omega
theorem a4G : ∀ {xs : List Lin} {S : NoS}, S.2.length ≤ (notes S xs).2.length
 | [], _ => Nat.le_refl _
 | x :: xs, S => Nat.le_trans (b8Y (x := x)) (a4G (xs := xs))
theorem a6y : ∀ {xs : List Lin} {S : NoS}, (notes S xs).2.length ≤ S.2.length → notes S xs = S
 | [], _, _ => rfl
 | x :: xs, S, h => by
  have h1 : (notes (notU S x) xs).2.length ≤ S.2.length := h
  have h2 := a4G (xs := xs) (S := notU S x)
  have h3 := b6G (S := S) (x := x) (Nat.le_trans h2 h1)
  show notes (notU S x) xs = S
  rw [h3] at h1 ⊢
  exact a6y h1
theorem b0E {l : List Mth} {c6 : List Fct} : ∀ {O : List Acs} {S : NoS}, S.2.length ≤ (rndA l c6 O S).2.length
 | [], _ => Nat.le_refl _
 | a :: O, S => Nat.le_trans a4G (b0E (O := O))
theorem b0Z {l : List Mth} {c6 : List Fct} : ∀ {O : List Acs} {S : NoS}, (rndA l c6 O S).2.length ≤ S.2.length → rndA l c6 O S = S
 | [], _, _ => rfl
 | a :: O, S, h => by
  have h1 : (rndA l c6 O (notes S ((U5 l c6 a).map (lnA a)))).2.length ≤ S.2.length := h
  have h2 := b0E (l := l) (c6 := c6) (O := O) (S := notes S ((U5 l c6 a).map (lnA a)))
  have h3 := a6y (Nat.le_trans h2 h1)
  show rndA l c6 O (notes S ((U5 l c6 a).map (lnA a))) = S
  rw [h3] at h1 ⊢
  exact b0Z h1
structure nInv (s : List Int) (S : NoS) : Prop where
 fold : S.1 = (S.2.map fun x => x.2.2).foldl w6 []
 nd : (S.2.map fun x => x.2.2).Nodup
 ok : ∀ x ∈ S.2, H8 s x.2.2 = true
 acc : ∀ x ∈ S.2, x.2.1.2.length ≤ 3
theorem nInv.mem {s : List Int} {S : NoS} (h : nInv s S) {f : Fct} : f ∈ S.1 ↔ ∃ x ∈ S.2, x.2.2 = f := by
 rw [h.fold, a2c]
 simp only [List.not_mem_nil, false_or, List.mem_map]
theorem nInv.okF {s : List Int} {S : NoS} (h : nInv s S) : ∀ f ∈ S.1, H8 s f = true := fun f hf => by
 obtain ⟨x, hx, rfl⟩ := h.mem.1 hf
 exact h.ok x hx
theorem nInv.len {s : List Int} {S : NoS} (h : nInv s S) : S.2.length ≤ 5324 ∧ S.1.length ≤ 5324 := by
 have h1 := a5a (s := s) h.nd fun f hf => by
  obtain ⟨x, hx, rfl⟩ := List.mem_map.1 hf
  exact h.ok x hx
 have h2 := a4R (m := S.2.map fun x => x.2.2) (x := [])
 rw [← h.fold] at h2
 simp only [List.length_map, List.length_nil] at h1 h2
 omega
theorem nInv.notU {s : List Int} {S : NoS} {x : Lin} (h : nInv s S) (h1 : H8 s x.2.2 = true) (h2 : x.2.1.2.length ≤ 3) : nInv s (notU S x) := by
 unfold Go.Proofs.YtlfhopooaejpfaaGreat.notU
 split
 ·exact h
 ·rename_i hn
  refine ⟨?_, ?_, fun y hy => ?_, fun y hy => ?_⟩
  ·simp only [List.map_append, List.foldl_append, ← h.fold]; rfl
  ·rw [List.map_append, List.nodup_append]
   refine ⟨h.nd, by simp, fun a ha b hb e => hn ?_⟩
   simp only [List.map_cons, List.map_nil, List.mem_singleton] at hb
   subst e; subst hb
   obtain ⟨y, hy, e⟩ := List.mem_map.1 ha
   exact a0E.2 (h.mem.2 ⟨y, hy, e⟩)
  ·rcases List.mem_append.1 hy with hy | hy
   ·exact h.ok y hy
   ·obtain rfl := List.mem_singleton.1 hy; exact h1
  ·rcases List.mem_append.1 hy with hy | hy
   ·exact h.acc y hy
   ·obtain rfl := List.mem_singleton.1 hy; exact h2
theorem nInv.notes {s : List Int} : ∀ {xs : List Lin} {S : NoS}, nInv s S → (∀ x ∈ xs, H8 s x.2.2 = true ∧ x.2.1.2.length ≤ 3) → nInv s (notes S xs)
 | [], _, h, _ => h
 | x :: xs, S, h, hx => nInv.notes (xs := xs) (h.notU (hx x (by simp)).1 (hx x (by simp)).2) fun y hy => hx y (by simp [hy])
theorem c0q {s : List Int} {l : List Mth} {c6 : List Fct} {a : Acs} (hf : ∀ f ∈ c6, H8 s f = true) (ha : a.2.length ≤ 3) : ∀ x ∈ (U5 l c6 a).map (lnA a), H8 s x.2.2 = true ∧ x.2.1.2.length ≤ 3 := by
 intro x hx
 obtain ⟨f, h, rfl⟩ := List.mem_map.1 hx
 exact ⟨hf f (List.mem_filter.1 h).1, ha⟩
theorem nInv.rndA {s : List Int} {l : List Mth} {c6 : List Fct} (hf : ∀ f ∈ c6, H8 s f = true) : ∀ {O : List Acs} {S : NoS}, nInv s S → (∀ a ∈ O, a.2.length ≤ 3) → nInv s (rndA l c6 O S)
 | [], _, h, _ => h
 | a :: O, S, h, ho => nInv.rndA hf (O := O) (h.notes (c0q hf (ho a (by simp)))) fun b hb => ho b (by simp [hb])
theorem b6w {l : List Mth} {c6 : List Fct} {O : List Acs} {S : NoS} {g : Nat} (h : g < O.length) : notes (rndA l c6 (O.take g) S) ((U5 l c6 O[g]).map (lnA O[g])) = rndA l c6 (O.take (g + 1)) S := by
 unfold rndA; rw [List.take_succ_eq_append_getElem h, List.foldl_append]; rfl
-- what is missing
theorem b6O {c6 : List Fct} {f : Fct} {r : Rul} {out : List Fct} (h : a0I out) : a0I (G5 c6 f out r) := by
 unfold G5
 split
 ·split
  ·exact h
  ·exact b2y h
 ·exact h
theorem b1b {c6 : List Fct} {f : Fct} : ∀ {l : List Rul} {out : List Fct}, a0I out → a0I (l.foldl (G5 c6 f) out)
 | [], _, h => h
 | r :: l, _, h => b1b (l := l) (b6O h)
theorem a9A {l : List Rul} {c6 : List Fct} : ∀ {fs : List Fct} {out : List Fct}, a0I out → a0I (fs.foldl (F7 l c6) out)
 | [], _, h => h
 | f :: fs, _, h => a9A (fs := fs) (b1b h)
theorem b6L {l : List Rul} {c6 : List Fct} : a0I (l6 l c6) := a9A .nil
theorem b7Q {F : List Fct} {f g : Fct} (h : I5 F g = false) (hn : g ≠ f) : I5 (w6 F f) g = false := by
 cases hh : I5 (w6 F f) g
 ·rfl
 ·rcases a0z (a0E.1 hh) with h1 | h1
  ·rw [a0E.2 h1] at h; cases h
  ·exact absurd h1 hn
theorem b0P {w : Fct → Lin} (hw : ∀ f, (w f).2.2 = f) : ∀ {M : List Fct} {S : NoS}, M.Nodup → (∀ f ∈ M, I5 S.1 f = false) → notes S (M.map w) = (M.foldl w6 S.1, S.2 ++ M.map w)
 | [], S, _, _ => by simp [notes]
 | f :: M, S, hn, h => by
  rw [List.nodup_cons] at hn
  have h1 : notU S (w f) = (w6 S.1 f, S.2 ++ [w f]) := by unfold notU; rw [hw, h f (by simp)]; rfl
  show notes (notU S (w f)) (M.map w) = _
  rw [h1, b0P hw (M := M) hn.2 fun g hg => b7Q (h g (by simp [hg])) fun e => hn.1 (by rw [← e]; exact hg)]
  simp
-- a round
structure uInv (s : List Int) (u : UU) : Prop where
 n : nInv s (u.1, u.2.2.2)
 vals : X2 u.2.1 = true
 cl : ∀ f ∈ u.1, ∀ x ∈ f.2, x ∈ u.2.1
 acc : ∀ a ∈ u.2.2.1, a.2.length ≤ 3
section
variable {s : List Int} {l : List Mth} {d4 : List Rul} {c6 : List Fct} {m6 : List Int} {u : UU} {g : Nat}
theorem a6w (hm : C0 s l = true) (h : uInv s u) : (uO l u).length ≤ 5000 ∧ ∀ a ∈ uO l u, a.2.length ≤ 3 := by
 obtain ⟨m1, m2⟩ := a3T hm
 have o1 := a4s (j6 := u.2.1) (log := u.2.2.1) (i := 0) (a1F h.vals) m1
 exact ⟨by unfold uO; omega, b4B m1⟩
theorem b5Y (hm : C0 s l = true) (hf : a0B s c6) (h : uInv s u) : nInv s (uA l c6 u) := h.n.rndA hf.2 (a6w hm h).2
theorem b8w (hm : C0 s l = true) (hr : C4 s d4 = true) (hf : a0B s c6) (h : uInv s u) : ∀ x ∈ uM l d4 c6 u, H8 s x = true ∧ I5 (uA l c6 u).1 x = false :=
 a2r hr (b5Y hm hf h).okF
theorem b6C (hm : C0 s l = true) (hr : C4 s d4 = true) (hf : a0B s c6) (h : uInv s u) : nInv s (uS l d4 c6 u) :=
 (b5Y hm hf h).notes fun x hx => by
  obtain ⟨f, h1, rfl⟩ := List.mem_map.1 hx
  exact ⟨(b8w hm hr hf h f h1).1, by simp [lnR]⟩
theorem b5k (hm : C0 s l = true) (hr : C4 s d4 = true) (hf : a0B s c6) (h : uInv s u) : uS l d4 c6 u = ((uM l d4 c6 u).foldl w6 (uA l c6 u).1, (uA l c6 u).2 ++ uD l d4 c6 u) :=
 b0P (w := lnR d4 (uA l c6 u).1) (fun _ => rfl) (a4o b6L) fun f hf' => (b8w hm hr hf h f hf').2
theorem b2g {m : List Fct} : ∀ {v : List Int}, v.Pairwise (· < ·) → (m.foldl pvI v).Pairwise (· < ·) ∧ ∀ y, y ∈ m.foldl pvI v ↔ y ∈ v ∨ ∃ f ∈ m, y ∈ f.2 := by
 induction m with
 | nil => intro v h; simpa using h
 | cons f m ih =>
  intro v h
  have h1 := a8F (f := f) h
  have h2 := ih h1.1
  refine ⟨h2.1, fun y => ?_⟩
  rw [List.foldl_cons, h2.2 y, h1.2 y]
  simp only [List.mem_cons, exists_eq_or_imp, or_assoc]
theorem a7B (hm : C0 s l = true) (hr : C4 s d4 = true) (hf : a0B s c6) (h : uInv s u) : uInv s (H0 l d4 c6 u) := by
 have h1 := b6C hm hr hf h
 have h2 := b2n (m := (uS l d4 c6 u).1) h.vals fun f hf' => W4 (h1.okF f hf')
 refine ⟨h1, h2.2, fun f hf' x hx => ?_, fun a ha => ?_⟩
 ·exact ((b2g (a1a h.vals).1).2 x).2 (.inr ⟨f, hf', hx⟩)
 ·rcases List.mem_append.1 ha with ha | ha
  ·exact h.acc a ha
  ·exact (a6w hm h).2 a ha
theorem b1C : uInv s (uIt l d4 c6 m6 0) := by
 refine ⟨⟨rfl, .nil, by simp [uIt], by simp [uIt]⟩, a4I a6B fun x hx => ?_, by simp [uIt], by simp [uIt]⟩
 simp only [uIt, a2Q, List.mem_filter] at hx
 simpa [inR] using hx.2
theorem a2I (hm : C0 s l = true) (hr : C4 s d4 = true) (hf : a0B s c6) : ∀ n, uInv s (uIt l d4 c6 m6 n)
 | 0 => b1C
 | n + 1 => a7B hm hr hf (a2I hm hr hf n)
theorem b3c {j6 : List Int} {A B : List Acs} : ∀ {l : List Mth} {i : Int}, (∀ a ∈ d7 j6 A l i, a ∈ B) → d7 j6 (A ++ B) l i = []
 | [], _, _ => rfl
 | m :: l, i, h => by
  simp only [d7, List.mem_append] at h
  rw [d7, b3c (l := l) fun a ha => h a (.inr ha), List.append_nil]
  split
  ·rfl
  ·rename_i hl
   rw [O0, List.filter_eq_nil_iff.2, List.map_nil]
   intro v hv
   simp only [Bool.not_eq_true, Bool.not_eq_false']
   cases hA : M0 A (i, v)
   ·have h1 := h (i, v) (.inl (by rw [if_neg hl, O0]; exact List.mem_map.2 ⟨v, List.mem_filter.2 ⟨hv, by simp [hA]⟩, rfl⟩))
    simp only [M0, List.any_append, Bool.or_eq_true, List.any_eq_true]
    exact .inr ⟨_, h1, by simp⟩
   ·simp only [M0, List.any_append, Bool.or_eq_true] at hA ⊢
    exact .inl hA
theorem b4d {v : List Int} {m : List Fct} (h : v.Pairwise (· < ·)) (hc : ∀ f ∈ m, ∀ x ∈ f.2, x ∈ v) : m.foldl pvI v = v := by
 have h1 := b2g (m := m) h
 refine a8a h1.1 h fun x => ?_
 rw [h1.2 x]
 refine ⟨fun hx => ?_, .inl⟩
 rcases hx with hx | ⟨f, hf, hx⟩
 ·exact hx
 ·exact hc f hf x hx
structure uStay (l : List Mth) (d4 : List Rul) (c6 : List Fct) (u : UU) : Prop where
 a : uA l c6 u = (u.1, u.2.2.2)
 m : uM l d4 c6 u = []
 s : uS l d4 c6 u = (u.1, u.2.2.2)
 v : (H0 l d4 c6 u).2.1 = u.2.1
 o : uO l (H0 l d4 c6 u) = []
theorem b2c (hm : C0 s l = true) (hr : C4 s d4 = true) (hf : a0B s c6) (h : uInv s u) (e : (H0 l d4 c6 u).2.2.2.length ≤ u.2.2.2.length) : uStay l d4 c6 u := by
 have e' : (uS l d4 c6 u).2.length ≤ u.2.2.2.length := e
 have h1 : (uA l c6 u).2.length ≤ (uS l d4 c6 u).2.length := a4G
 have h2 : uA l c6 u = (u.1, u.2.2.2) := b0Z (S := (u.1, u.2.2.2)) (Nat.le_trans h1 e')
 have h3 : uS l d4 c6 u = uA l c6 u := a6y (by rw [show (uA l c6 u).2.length = u.2.2.2.length from by rw [h2]]; exact e')
 have h4 := congrArg (fun z => z.2.length) (b5k hm hr hf h)
 rw [h3] at h4
 simp only [List.length_append, uD, List.length_map] at h4
 have h5 : (H0 l d4 c6 u).2.1 = u.2.1 := by
  show (uS l d4 c6 u).1.foldl pvI u.2.1 = u.2.1
  rw [h3, h2]
  exact b4d (a1a h.vals).1 h.cl
 refine ⟨h2, List.eq_nil_of_length_eq_zero (by omega), h3.trans h2, h5, ?_⟩
 show d7 (H0 l d4 c6 u).2.1 (u.2.2.1 ++ uO l u) l 0 = []
 rw [h5]
 exact b3c fun a ha => ha
theorem b7i (hm : C0 s l = true) (hr : C4 s d4 = true) (hf : a0B s c6) (h : uInv s u) (e : (H0 l d4 c6 u).2.2.2.length ≤ u.2.2.2.length) : H0 l d4 c6 (H0 l d4 c6 u) = H0 l d4 c6 u := by
 have hs := b2c hm hr hf h e
 have e1 : (H0 l d4 c6 u).1 = u.1 := congrArg (fun z => z.1) hs.s
 have e2 : (H0 l d4 c6 u).2.2.2 = u.2.2.2 := congrArg (fun z => z.2) hs.s
 have a1 : uA l c6 (H0 l d4 c6 u) = (u.1, u.2.2.2) := by unfold uA; rw [hs.o, e1, e2]; rfl
 have m1 : uM l d4 c6 (H0 l d4 c6 u) = [] := by have := hs.m; unfold uM at this ⊢; rw [a1]; rw [hs.a] at this; exact this
 have s1 : uS l d4 c6 (H0 l d4 c6 u) = (u.1, u.2.2.2) := by unfold uS uD; rw [m1, a1]; rfl
 have e3 : H0 l d4 c6 (H0 l d4 c6 u) = ((uS l d4 c6 (H0 l d4 c6 u)).1, (uS l d4 c6 (H0 l d4 c6 u)).1.foldl pvI (H0 l d4 c6 u).2.1, (H0 l d4 c6 u).2.2.1 ++ uO l (H0 l d4 c6 u), (uS l d4 c6 (H0 l d4 c6 u)).2) := rfl
 rw [e3, s1, hs.o, hs.v, List.append_nil]
 have e4 : H0 l d4 c6 u = ((H0 l d4 c6 u).1, (H0 l d4 c6 u).2.1, (H0 l d4 c6 u).2.2.1, (H0 l d4 c6 u).2.2.2) := rfl
 rw [e4, e1, e2, hs.v, b4d (a1a h.vals).1 h.cl]
theorem b3t (h : H0 l d4 c6 (uIt l d4 c6 m6 g) = uIt l d4 c6 m6 g) : ∀ k, uIt l d4 c6 m6 (g + k) = uIt l d4 c6 m6 g
 | 0 => rfl
 | k + 1 => by rw [← Nat.add_assoc]; show H0 l d4 c6 (uIt l d4 c6 m6 (g + k)) = _; rw [b3t h k, h]
theorem b4S (hg : g ≤ 6000) (h : H0 l d4 c6 (uIt l d4 c6 m6 g) = uIt l d4 c6 m6 g) : uIt l d4 c6 m6 g = H6 l d4 c6 m6 := by
 have := b3t h (6000 - g)
 rw [show g + (6000 - g) = 6000 by omega] at this
 exact this.symm
def gI (s : List Int) (l : List Mth) (d4 : List Rul) (c6 : List Fct) (m6 : List Int) (g : Nat) : Prop :=
 uInv s (uIt l d4 c6 m6 g) ∧ (g ≤ (uIt l d4 c6 m6 g).2.2.2.length ∨ (g ≤ (uIt l d4 c6 m6 g).2.2.2.length + 1 ∧ H0 l d4 c6 (uIt l d4 c6 m6 g) = uIt l d4 c6 m6 g ∧ uO l (uIt l d4 c6 m6 g) = []))
theorem b4M : gI s l d4 c6 m6 0 := ⟨b1C, .inl (Nat.zero_le _)⟩
theorem b5u (h : gI s l d4 c6 m6 g) : g ≤ 5325 := by
 have := h.1.n.len.1
 rcases h.2 with h2 | ⟨h2, _⟩
 ·exact Nat.le_trans h2 (Nat.le_trans this (by decide))
 ·exact Nat.le_trans h2 (Nat.succ_le_succ this)
theorem b0G (hm : C0 s l = true) (hr : C4 s d4 = true) (hf : a0B s c6) (h : gI s l d4 c6 m6 g)
  (hc : 0 < (uO l (uIt l d4 c6 m6 g)).length ∨ (uIt l d4 c6 m6 g).2.2.2.length < (uIt l d4 c6 m6 (g + 1)).2.2.2.length) : gI s l d4 c6 m6 (g + 1) := by
 obtain ⟨h1, h2⟩ := h
 refine ⟨a7B hm hr hf h1, ?_⟩
 rcases h2 with h2 | ⟨_, h3, h4⟩
 ·rcases Nat.lt_or_ge (uIt l d4 c6 m6 g).2.2.2.length (uIt l d4 c6 m6 (g + 1)).2.2.2.length with h5 | h5
  ·exact .inl (by omega)
  ·have h6 := b2c hm hr hf h1 h5
   refine .inr ⟨?_, b7i hm hr hf h1 h5, h6.o⟩
   have e2 : (uIt l d4 c6 m6 (g + 1)).2.2.2 = (uIt l d4 c6 m6 g).2.2.2 := congrArg (fun z => z.2) h6.s
   rw [e2]; omega
 ·rcases hc with hc | hc
  ·rw [h4] at hc; simp at hc
  ·have : uIt l d4 c6 m6 (g + 1) = uIt l d4 c6 m6 g := h3
   rw [this] at hc; omega
theorem a6a (hm : C0 s l = true) (hr : C4 s d4 = true) (hf : a0B s c6) (h : gI s l d4 c6 m6 g) (hc : (uIt l d4 c6 m6 (g + 1)).2.2.2.length ≤ (uIt l d4 c6 m6 g).2.2.2.length) : uIt l d4 c6 m6 (g + 1) = H6 l d4 c6 m6 :=
 b4S (by have := b5u h; omega) (b7i hm hr hf h.1 hc)
theorem b4C (hm : C0 s l = true) (hr : C4 s d4 = true) (hf : a0B s c6) (h : gI s l d4 c6 m6 g)
  (hc : ¬ ((uIt l d4 c6 m6 (g + 1)).2.2.2.length = (uIt l d4 c6 m6 g).2.2.2.length ∧ (uO l (uIt l d4 c6 m6 (g + 1))).length = 0)) : (uIt l d4 c6 m6 g).2.2.2.length < (uIt l d4 c6 m6 (g + 1)).2.2.2.length := by
 have h1 : (uA l c6 (uIt l d4 c6 m6 g)).2.length ≤ (uS l d4 c6 (uIt l d4 c6 m6 g)).2.length := a4G
 have h2 : (uIt l d4 c6 m6 g).2.2.2.length ≤ (uA l c6 (uIt l d4 c6 m6 g)).2.length := b0E (S := ((uIt l d4 c6 m6 g).1, (uIt l d4 c6 m6 g).2.2.2))
 have h3 : (uIt l d4 c6 m6 (g + 1)).2.2.2.length = (uS l d4 c6 (uIt l d4 c6 m6 g)).2.length := rfl
 rcases Nat.lt_or_ge (uIt l d4 c6 m6 g).2.2.2.length (uIt l d4 c6 m6 (g + 1)).2.2.2.length with h5 | h5
 ·exact h5
 ·refine absurd ⟨by omega, ?_⟩ hc
  have h6 : uO l (uIt l d4 c6 m6 (g + 1)) = [] := (b2c hm hr hf h.1 h5).o
  rw [h6]; rfl
end
-- within a round
theorem b8o {s : List Int} {m : List Fct} {a : Acs} (hm : ∀ f ∈ m, H8 s f = true) (ha : a.2.length ≤ 3) : ∀ x ∈ m.map (lnA a), H8 s x.2.2 = true ∧ x.2.1.2.length ≤ 3 := by
 intro x hx
 obtain ⟨f, h, rfl⟩ := List.mem_map.1 hx
 exact ⟨hm f h, ha⟩
theorem b5K {s : List Int} {d4 : List Rul} {F m : List Fct} (hm : ∀ f ∈ m, H8 s f = true) : ∀ x ∈ m.map (lnR d4 F), H8 s x.2.2 = true ∧ x.2.1.2.length ≤ 3 := by
 intro x hx
 obtain ⟨f, h, rfl⟩ := List.mem_map.1 hx
 exact ⟨hm f h, by simp [lnR]⟩
theorem b1h {d4 : List Rul} {F : List Fct} {f : Fct} (h : d4.length ≤ 4) : I64 (a1U d4 F f) := by
 have := a5v (p := a6n F f) (s := d4)
 unfold a1U I64; omega
section
variable {s : List Int} {l : List Mth} {d4 : List Rul} {c6 F : List Fct} {V : List Int} {A : List Acs} {L : List Lin} {g k j i : Nat} {S : NoS}
theorem F4 (hg : ¬ g < (d7 V A l 0).length) (hk : ¬ k < (l6 d4 (rndA l c6 ((d7 V A l 0).take g) (F, L)).1).length)
  (hj : ¬ j < (((l6 d4 (rndA l c6 ((d7 V A l 0).take g) (F, L)).1).take k).map (lnR d4 (rndA l c6 ((d7 V A l 0).take g) (F, L)).1)).length) :
  notes (rndA l c6 ((d7 V A l 0).take g) (F, L)) ((((l6 d4 (rndA l c6 ((d7 V A l 0).take g) (F, L)).1).take k).map (lnR d4 (rndA l c6 ((d7 V A l 0).take g) (F, L)).1)).take j) = uS l d4 c6 (F, V, A, L) := by
 have e1 : (d7 V A l 0).take g = d7 V A l 0 := List.take_of_length_le (Nat.le_of_not_lt hg)
 rw [e1] at hk hj ⊢
 have e2 := List.take_of_length_le (Nat.le_of_not_lt hk)
 rw [e2] at hj ⊢
 rw [List.take_of_length_le (Nat.le_of_not_lt hj)]; rfl
theorem a1I (e : S = uS l d4 c6 (F, V, A, L)) : S.1 = (H0 l d4 c6 (F, V, A, L)).1 := by rw [e]; rfl
theorem a1H (e : S = uS l d4 c6 (F, V, A, L)) : S.2 = (H0 l d4 c6 (F, V, A, L)).2.2.2 := by rw [e]; rfl
theorem b9A {F : List Fct} {V : List Int} {i : Nat} (h : i < F.length) : I2 (([F.take i |>.foldl wvI V, F[i].2].flatten).filter fun t => inR t 0 9) = (F.take (i + 1)).foldl wvI V := by
 rw [List.take_succ_eq_append_getElem h, List.foldl_append]; simp [wvI]
theorem b9m {F : List Fct} {V : List Int} {p j : Nat} (h : p < F.length) (hj : ¬ j < F[p].2.length) : (F[p].2.take j).foldl M3 ((F.take p).foldl pvI V) = (F.take (p + 1)).foldl pvI V := by
 rw [List.take_of_length_le (Nat.le_of_not_lt hj), List.take_succ_eq_append_getElem h, List.foldl_append]; rfl
theorem a1J (hg : ¬ g < (d7 V A l 0).length) : A ++ (d7 V A l 0).take g = (H0 l d4 c6 (F, V, A, L)).2.2.1 := congrArg (A ++ ·) (List.take_of_length_le (Nat.le_of_not_lt hg))
theorem a1G (e : S = uS l d4 c6 (F, V, A, L)) (hm : C0 s l = true) (hr : C4 s d4 = true) (hf : a0B s c6) (h : uInv s (F, V, A, L)) (hi : ¬ i < S.1.length) : (S.1.take i).foldl wvI V = (H0 l d4 c6 (F, V, A, L)).2.1 := by
 subst e
 rw [List.take_of_length_le (Nat.le_of_not_lt hi)]
 exact (b2n h.vals fun f hf' => W4 ((b6C hm hr hf h).okF f hf')).1
theorem P1 (h : 0 < (d7 V A l 0).length) {b : Bool} : true = (decide (0 < (uO l (F, V, A, L)).length) || b) := by
 have h1 : 0 < (uO l (F, V, A, L)).length := h
 rw [decide_eq_true h1]; rfl
theorem P0 (e : S = uS l d4 c6 (F, V, A, L)) (h : ¬ 0 < (d7 V A l 0).length) : decide ((L.length : Int) < (S.2.length : Int)) = (decide (0 < (uO l (F, V, A, L)).length) || decide (L.length < (H0 l d4 c6 (F, V, A, L)).2.2.2.length)) := by
 subst e
 have h1 : ¬ 0 < (uO l (F, V, A, L)).length := h
 rw [decide_eq_false h1, Bool.false_or, decide_eq_decide]
 exact Int.ofNat_lt
end
section
variable {s : List Int} {l : List Mth} {d4 : List Rul} {c6 : List Fct} {m6 : List Int} {u : UU} {g i p n : Nat}
theorem b5Z (hg : ¬ g < (d7 u.2.1 u.2.2.1 l 0).length) : rndA l c6 ((d7 u.2.1 u.2.2.1 l 0).take g) (u.1, u.2.2.2) = uA l c6 u := by rw [List.take_of_length_le (Nat.le_of_not_lt hg)]; rfl
theorem b8P (hm : C0 s l = true) (hr : C4 s d4 = true) (hf : a0B s c6) (h : uInv s u) (hg : ¬ g < (d7 u.2.1 u.2.2.1 l 0).length) :
  (rndA l c6 ((d7 u.2.1 u.2.2.1 l 0).take g) (u.1, u.2.2.2)).2 ++ (l6 d4 (rndA l c6 ((d7 u.2.1 u.2.2.1 l 0).take g) (u.1, u.2.2.2)).1).map (lnR d4 (rndA l c6 ((d7 u.2.1 u.2.2.1 l 0).take g) (u.1, u.2.2.2)).1) = (H0 l d4 c6 u).2.2.2 := by
 rw [b5Z hg]; exact (congrArg (fun z => z.2) (b5k hm hr hf h)).symm
theorem b8O (hm : C0 s l = true) (hr : C4 s d4 = true) (hf : a0B s c6) (h : uInv s u) (hg : ¬ g < (d7 u.2.1 u.2.2.1 l 0).length) (hi : ¬ i < (l6 d4 (rndA l c6 ((d7 u.2.1 u.2.2.1 l 0).take g) (u.1, u.2.2.2)).1).length) :
  ((l6 d4 (rndA l c6 ((d7 u.2.1 u.2.2.1 l 0).take g) (u.1, u.2.2.2)).1).take i).foldl w6 (rndA l c6 ((d7 u.2.1 u.2.2.1 l 0).take g) (u.1, u.2.2.2)).1 = (H0 l d4 c6 u).1 := by
 rw [List.take_of_length_le (Nat.le_of_not_lt hi), b5Z hg]; exact (congrArg (fun z => z.1) (b5k hm hr hf h)).symm
theorem b9v {X : List Fct} (e : X = (H0 l d4 c6 u).1) (hp : ¬ p < X.length) : (X.take p).foldl pvI u.2.1 = (H0 l d4 c6 u).2.1 := by
 rw [List.take_of_length_le (Nat.le_of_not_lt hp), e]; rfl
theorem b9B (hg : ¬ g < (d7 u.2.1 u.2.2.1 l 0).length) : u.2.2.1 ++ (d7 u.2.1 u.2.2.1 l 0).take g = (H0 l d4 c6 u).2.2.1 := congrArg (u.2.2.1 ++ ·) (List.take_of_length_le (Nat.le_of_not_lt hg))
theorem b0h (hm : C0 s l = true) (h : uInv s (uIt l d4 c6 m6 n)) (hl : (uIt l d4 c6 m6 n).2.2.1.length ≤ 5000 * n) : (uIt l d4 c6 m6 (n + 1)).2.2.1.length ≤ 5000 * (n + 1) := by
 have h1 := (a6w hm h).1
 have h2 : (uIt l d4 c6 m6 (n + 1)).2.2.1 = (uIt l d4 c6 m6 n).2.2.1 ++ uO l (uIt l d4 c6 m6 n) := rfl
 rw [h2, List.length_append]; omega
end
-- what is asked
def b8x (s : List Int) (l : List Mth) (d4 : List Rul) (c6 : List Fct) : Bool := (C0 s l && C4 s d4) && G4 s c6
def c3x (s : List Int) (l : List Mth) (d4 : List Rul) (c6 : List Fct) (m6 : List Int) : List Fct := if b8x s l d4 c6 then (H6 l d4 c6 m6).1 else []
theorem b7Y {s : List Int} {u : UU} {g : Nat} (h : uInv s u) : ∀ f ∈ ((u.2.2.2.take g).map fun x => x.2.2).foldl w6 [], f.2.length ≤ 1048576 :=
 b0I (fun f hf => by
  obtain ⟨x, hx, rfl⟩ := List.mem_map.1 hf
  exact Nat.le_trans (M7 (h.n.ok x (List.mem_of_mem_take hx))) (by decide)) (by simp)
theorem a4n {s : List Int} {u : UU} {g : Nat} (h : uInv s u) (hg : ¬ g < u.2.2.2.length) : ((u.2.2.2.take g).map fun x => x.2.2).foldl w6 [] = u.1 := by
 rw [List.take_of_length_le (Nat.le_of_not_lt hg)]; exact h.n.fold.symm
theorem b6E {X : List Lin} {g : Nat} (h : g < X.length) : w6 (((X.take g).map fun x => x.2.2).foldl w6 []) X[g].2.2 = ((X.take (g + 1)).map fun x => x.2.2).foldl w6 [] := by
 rw [List.take_succ_eq_append_getElem h, List.map_append, List.foldl_append]; rfl
end Go.Proofs.YtlfhopooaejpfaaGreat
