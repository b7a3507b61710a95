import Derived.Test.YthapcdhdfaibkaaGreatDoorDz
namespace Go.Proofs.YthapcdhdfaibkaaGreatDoor
set_option linter.unusedVariables false
set_option linter.unusedSimpArgs false
def a0t (s : List Int) (a8 : List Fct) : Prop := a8.length ≤ 7000 ∧ ∀ f ∈ a8, B9 s f = true
theorem a9n {s : List Int} {a8 : List Fct} (h : D7 s a8 = true) : a0t s a8 := ⟨Nat.le_trans (J5 h).1 (by decide), (J5 h).2⟩
theorem b2y {s : List Int} {l : List Mth} {a8 : List Fct} {i : Int} (h : B3 s l = true) (hf : a0t s a8) (hi : 0 ≤ i ∧ i.toNat < l.length) : ∀ f ∈ a8, f.1 = (atM l i).1 → ∀ j ∈ (atM l i).2.1, 0 ≤ j ∧ j < f.2.length := by
 rw [D0 hi.2]
 exact fun f hm e => a4Y (a5a h _ (List.getElem_mem _)) (hf.2 f hm) e
abbrev NoS := List Fct × List Lin
abbrev UU := List Fct × List Int × List Acs × List Lin
def notU (S : NoS) (x : Lin) : NoS := if F3 S.1 x.2.2 then S else (w4 S.1 x.2.2, S.2 ++ [x])
def notes (S : NoS) (xs : List Lin) : NoS := xs.foldl notU S
def lnA (a : Acs) (f : Fct) : Lin := (-1, a, f)
def lnR (d4 : List Rul) (F : List Fct) (f : Fct) : Lin := (X4 d4 F f, (0, []), f)
def rndA (l : List Mth) (a8 : List Fct) (O : List Acs) (S : NoS) : NoS := O.foldl (fun S a => notes S ((M5 l a8 a).map (lnA a))) S
def uO (l : List Mth) (u : UU) : List Acs := c8 u.2.1 u.2.2.1 l 0
def uA (l : List Mth) (a8 : List Fct) (u : UU) : NoS := rndA l a8 (uO l u) (u.1, u.2.2.2)
def uM (l : List Mth) (d4 : List Rul) (a8 : List Fct) (u : UU) : List Fct := n9 d4 (uA l a8 u).1
def uD (l : List Mth) (d4 : List Rul) (a8 : List Fct) (u : UU) : List Lin := (uM l d4 a8 u).map (lnR d4 (uA l a8 u).1)
def uS (l : List Mth) (d4 : List Rul) (a8 : List Fct) (u : UU) : NoS := notes (uA l a8 u) (uD l d4 a8 u)
def E8 (l : List Mth) (d4 : List Rul) (a8 : List Fct) (u : UU) : UU := ((uS l d4 a8 u).1, (uS l d4 a8 u).1.foldl pvI u.2.1, u.2.2.1 ++ uO l u, (uS l d4 a8 u).2)
def uIt (l : List Mth) (d4 : List Rul) (a8 : List Fct) (d6 : List Int) : Nat → UU
 | 0 => ([], H6 (d6.filter fun t => inR t 0 9), [], [])
 | n + 1 => E8 l d4 a8 (uIt l d4 a8 d6 n)
def B2 (l : List Mth) (d4 : List Rul) (a8 : List Fct) (d6 : List Int) : UU := uIt l d4 a8 d6 6000
-- noting
theorem b6T {S : NoS} {x : Lin} : S.2.length ≤ (notU S x).2.length := by unfold notU; split <;> simp
theorem b3U {S : NoS} {x : Lin} (h : (notU S x).2.length ≤ S.2.length) : notU S x = S := by
 unfold notU at h ⊢
 split
 ·rfl
 ·rename_i hn; rw [if_neg hn] at h; simp at h; omega
theorem a4m : ∀ {xs : List Lin} {S : NoS}, S.2.length ≤ (notes S xs).2.length
 | [], _ => Nat.le_refl _
 | x :: xs, S => Nat.le_trans (b6T (x := x)) (a4m (xs := xs))
theorem a5P : ∀ {xs : List Lin} {S : NoS}, (notes S xs).2.length ≤ S.2.length → notes S xs = S
 | [], _, _ => rfl
 | x :: xs, S, h => by
  have h1 : (notes (notU S x) xs).2.length ≤ S.2.length := h
  have h2 := a4m (xs := xs) (S := notU S x)
  have h3 := b3U (S := S) (x := x) (Nat.le_trans h2 h1)
  show notes (notU S x) xs = S
  rw [h3] at h1 ⊢
  exact a5P h1
theorem a9j {l : List Mth} {a8 : List Fct} : ∀ {O : List Acs} {S : NoS}, S.2.length ≤ (rndA l a8 O S).2.length
 | [], _ => Nat.le_refl _
 | a :: O, S => Nat.le_trans a4m (a9j (O := O))
theorem a9M {l : List Mth} {a8 : List Fct} : ∀ {O : List Acs} {S : NoS}, (rndA l a8 O S).2.length ≤ S.2.length → rndA l a8 O S = S
 | [], _, _ => rfl
 | a :: O, S, h => by
  have h1 : (rndA l a8 O (notes S ((M5 l a8 a).map (lnA a)))).2.length ≤ S.2.length := h
  have h2 := a9j (l := l) (a8 := a8) (O := O) (S := notes S ((M5 l a8 a).map (lnA a)))
  have h3 := a5P (Nat.le_trans h2 h1)
  show rndA l a8 O (notes S ((M5 l a8 a).map (lnA a))) = S
  rw [h3] at h1 ⊢
  exact a9M h1
structure nInv (s : List Int) (S : NoS) : Prop where
 fold : S.1 = (S.2.map fun x => x.2.2).foldl w4 []
 nd : (S.2.map fun x => x.2.2).Nodup
 ok : ∀ x ∈ S.2, B9 s x.2.2 = true
 acc : ∀ x ∈ S.2, x.2.1.2.length ≤ 3
theorem nInv.mem {s : List Int} {S : NoS} (h : nInv s S) {f : Fct} : f ∈ S.1 ↔ ∃ x ∈ S.2, x.2.2 = f := by
 rw [h.fold, a3y]
 simp only [List.not_mem_nil, false_or, List.mem_map]
theorem nInv.okF {s : List Int} {S : NoS} (h : nInv s S) : ∀ f ∈ S.1, B9 s f = true := fun f hf => by
 obtain ⟨x, hx, rfl⟩ := h.mem.1 hf
 exact h.ok x hx
theorem nInv.len {s : List Int} {S : NoS} (h : nInv s S) : S.2.length ≤ 5324 ∧ S.1.length ≤ 5324 := by
 have h1 := a9S (s := s) h.nd fun f hf => by
  obtain ⟨x, hx, rfl⟩ := List.mem_map.1 hf
  exact h.ok x hx
 have h2 := a2C (m := S.2.map fun x => x.2.2) (x := [])
 rw [← h.fold] at h2
 simp only [List.length_map, List.length_nil] at h1 h2
 omega
theorem nInv.notU {s : List Int} {S : NoS} {x : Lin} (h : nInv s S) (h1 : B9 s x.2.2 = true) (h2 : x.2.1.2.length ≤ 3) : nInv s (notU S x) := by
 unfold Go.Proofs.YthapcdhdfaibkaaGreatDoor.notU
 split
 ·exact h
 ·rename_i hn
  refine ⟨?_, ?_, fun y hy => ?_, fun y hy => ?_⟩
  ·simp only [List.map_append, List.foldl_append, ← h.fold]; rfl
  ·rw [List.map_append, List.nodup_append]
   refine ⟨h.nd, by simp, fun a ha b hb e => hn ?_⟩
   simp only [List.map_cons, List.map_nil, List.mem_singleton] at hb
   subst e; subst hb
   obtain ⟨y, hy, e⟩ := List.mem_map.1 ha
   exact V8.2 (h.mem.2 ⟨y, hy, e⟩)
  ·rcases List.mem_append.1 hy with hy | hy
   ·exact h.ok y hy
   ·obtain rfl := List.mem_singleton.1 hy; exact h1
  ·rcases List.mem_append.1 hy with hy | hy
   ·exact h.acc y hy
   ·obtain rfl := List.mem_singleton.1 hy; exact h2
theorem nInv.notes {s : List Int} : ∀ {xs : List Lin} {S : NoS}, nInv s S → (∀ x ∈ xs, B9 s x.2.2 = true ∧ x.2.1.2.length ≤ 3) → nInv s (notes S xs)
 | [], _, h, _ => h
 | x :: xs, S, h, hx => nInv.notes (xs := xs) (h.notU (hx x (by simp)).1 (hx x (by simp)).2) fun y hy => hx y (by simp [hy])
theorem b7J {s : List Int} {l : List Mth} {a8 : List Fct} {a : Acs} (hf : ∀ f ∈ a8, B9 s f = true) (ha : a.2.length ≤ 3) : ∀ x ∈ (M5 l a8 a).map (lnA a), B9 s x.2.2 = true ∧ x.2.1.2.length ≤ 3 := by
 intro x hx
 obtain ⟨f, h, rfl⟩ := List.mem_map.1 hx
 exact ⟨hf f (List.mem_filter.1 h).1, ha⟩
theorem nInv.rndA {s : List Int} {l : List Mth} {a8 : List Fct} (hf : ∀ f ∈ a8, B9 s f = true) : ∀ {O : List Acs} {S : NoS}, nInv s S → (∀ a ∈ O, a.2.length ≤ 3) → nInv s (rndA l a8 O S)
 | [], _, h, _ => h
 | a :: O, S, h, ho => nInv.rndA hf (O := O) (h.notes (b7J hf (ho a (by simp)))) fun b hb => ho b (by simp [hb])
theorem b4o {l : List Mth} {a8 : List Fct} {O : List Acs} {S : NoS} {g : Nat} (h : g < O.length) : notes (rndA l a8 (O.take g) S) ((M5 l a8 O[g]).map (lnA O[g])) = rndA l a8 (O.take (g + 1)) S := by
 unfold rndA; rw [List.take_succ_eq_append_getElem h, List.foldl_append]; rfl
-- what is missing
theorem b4h {a8 : List Fct} {f : Fct} {r : Rul} {out : List Fct} (h : a1H out) : a1H (E0 a8 f out r) := by
 unfold E0
 split
 ·split
  ·exact h
  ·exact b1F h
 ·exact h
theorem b0k {a8 : List Fct} {f : Fct} : ∀ {l : List Rul} {out : List Fct}, a1H out → a1H (l.foldl (E0 a8 f) out)
 | [], _, h => h
 | r :: l, _, h => b0k (l := l) (b4h h)
theorem a8Q {l : List Rul} {a8 : List Fct} : ∀ {fs : List Fct} {out : List Fct}, a1H out → a1H (fs.foldl (D6 l a8) out)
 | [], _, h => h
 | f :: fs, _, h => a8Q (fs := fs) (b0k h)
theorem b4y {l : List Rul} {a8 : List Fct} : a1H (n9 l a8) := a8Q .nil
theorem b5N {F : List Fct} {f g : Fct} (h : F3 F g = false) (hn : g ≠ f) : F3 (w4 F f) g = false := by
 cases hh : F3 (w4 F f) g
 ·rfl
 ·rcases a1R (V8.1 hh) with h1 | h1
  ·rw [V8.2 h1] at h; cases h
  ·exact absurd h1 hn
theorem b0l {w : Fct → Lin} (hw : ∀ f, (w f).2.2 = f) : ∀ {M : List Fct} {S : NoS}, M.Nodup → (∀ f ∈ M, F3 S.1 f = false) → notes S (M.map w) = (M.foldl w4 S.1, S.2 ++ M.map w)
 | [], S, _, _ => by simp [notes]
 | f :: M, S, hn, h => by
  rw [List.nodup_cons] at hn
  have h1 : notU S (w f) = (w4 S.1 f, S.2 ++ [w f]) := by unfold notU; rw [hw, h f (by simp)]; rfl
  show notes (notU S (w f)) (M.map w) = _
  rw [h1, b0l hw (M := M) hn.2 fun g hg => b5N (h g (by simp [hg])) fun e => hn.1 (by rw [← e]; exact hg)]
  simp
-- a round
structure uInv (s : List Int) (u : UU) : Prop where
 n : nInv s (u.1, u.2.2.2)
 vals : O6 u.2.1 = true
 cl : ∀ f ∈ u.1, ∀ x ∈ f.2, x ∈ u.2.1
 acc : ∀ a ∈ u.2.2.1, a.2.length ≤ 3
section
variable {s : List Int} {l : List Mth} {d4 : List Rul} {a8 : List Fct} {d6 : List Int} {u : UU} {g : Nat}
theorem a5O (hm : B3 s l = true) (h : uInv s u) : (uO l u).length ≤ 5000 ∧ ∀ a ∈ uO l u, a.2.length ≤ 3 := by
 obtain ⟨m1, m2⟩ := a2s hm
 have o1 := a2J (j5 := u.2.1) (log := u.2.2.1) (i := 0) (V2 h.vals) m1
 exact ⟨by unfold uO; omega, a9A m1⟩
theorem b1y (hm : B3 s l = true) (hf : a0t s a8) (h : uInv s u) : nInv s (uA l a8 u) := h.n.rndA hf.2 (a5O hm h).2
theorem b5Z (hm : B3 s l = true) (hr : B7 s d4 = true) (hf : a0t s a8) (h : uInv s u) : ∀ x ∈ uM l d4 a8 u, B9 s x = true ∧ F3 (uA l a8 u).1 x = false :=
 a2I hr (b1y hm hf h).okF
theorem b1m (hm : B3 s l = true) (hr : B7 s d4 = true) (hf : a0t s a8) (h : uInv s u) : nInv s (uS l d4 a8 u) :=
 (b1y hm hf h).notes fun x hx => by
  obtain ⟨f, h1, rfl⟩ := List.mem_map.1 hx
  exact ⟨(b5Z hm hr hf h f h1).1, by simp [lnR]⟩
theorem b2W (hm : B3 s l = true) (hr : B7 s d4 = true) (hf : a0t s a8) (h : uInv s u) : uS l d4 a8 u = ((uM l d4 a8 u).foldl w4 (uA l a8 u).1, (uA l a8 u).2 ++ uD l d4 a8 u) :=
 b0l (w := lnR d4 (uA l a8 u).1) (fun _ => rfl) (a8G b4y) fun f hf' => (b5Z hm hr hf h f hf').2
theorem a8V {m : List Fct} : ∀ {v : List Int}, v.Pairwise (· < ·) → (m.foldl pvI v).Pairwise (· < ·) ∧ ∀ y, y ∈ m.foldl pvI v ↔ y ∈ v ∨ ∃ f ∈ m, y ∈ f.2 := by
 induction m with
 | nil => intro v h; simpa using h
 | cons f m ih =>
  intro v h
  have h1 := a7H (f := f) h
  have h2 := ih h1.1
  refine ⟨h2.1, fun y => ?_⟩
  rw [List.foldl_cons, h2.2 y, h1.2 y]
  simp only [List.mem_cons, exists_eq_or_imp, or_assoc]
theorem a6Q (hm : B3 s l = true) (hr : B7 s d4 = true) (hf : a0t s a8) (h : uInv s u) : uInv s (E8 l d4 a8 u) := by
 have h1 := b1m hm hr hf h
 have h2 := a6B (m := (uS l d4 a8 u).1) h.vals fun f hf' => a0X (h1.okF f hf')
 refine ⟨h1, h2.2, fun f hf' x hx => ?_, fun a ha => ?_⟩
 ·exact ((a8V (a0z h.vals).1).2 x).2 (.inr ⟨f, hf', hx⟩)
 ·rcases List.mem_append.1 ha with ha | ha
  ·exact h.acc a ha
  ·exact (a5O hm h).2 a ha
theorem b0g : uInv s (uIt l d4 a8 d6 0) := by
 refine ⟨⟨rfl, .nil, by simp [uIt], by simp [uIt]⟩, a2S a2w fun x hx => ?_, by simp [uIt], by simp [uIt]⟩
 simp only [uIt, a1s, List.mem_filter] at hx
 simpa [inR] using hx.2
theorem a2z (hm : B3 s l = true) (hr : B7 s d4 = true) (hf : a0t s a8) : ∀ n, uInv s (uIt l d4 a8 d6 n)
 | 0 => b0g
 | n + 1 => a6Q hm hr hf (a2z hm hr hf n)
theorem b1L {j5 : List Int} {A B : List Acs} : ∀ {l : List Mth} {i : Int}, (∀ a ∈ c8 j5 A l i, a ∈ B) → c8 j5 (A ++ B) l i = []
 | [], _, _ => rfl
 | m :: l, i, h => by
  simp only [c8, List.mem_append] at h
  rw [c8, b1L (l := l) fun a ha => h a (.inr ha), List.append_nil]
  split
  ·rfl
  ·rename_i hl
   rw [N0, List.filter_eq_nil_iff.2, List.map_nil]
   intro v hv
   simp only [Bool.not_eq_true, Bool.not_eq_false']
   cases hA : Q5 A (i, v)
   ·have h1 := h (i, v) (.inl (by rw [if_neg hl, N0]; exact List.mem_map.2 ⟨v, List.mem_filter.2 ⟨hv, by simp [hA]⟩, rfl⟩))
    simp only [Q5, List.any_append, Bool.or_eq_true, List.any_eq_true]
    exact .inr ⟨_, h1, by simp⟩
   ·simp only [Q5, List.any_append, Bool.or_eq_true] at hA ⊢
    exact .inl hA
theorem b2H {v : List Int} {m : List Fct} (h : v.Pairwise (· < ·)) (hc : ∀ f ∈ m, ∀ x ∈ f.2, x ∈ v) : m.foldl pvI v = v := by
 have h1 := a8V (m := m) h
 refine a7m h1.1 h fun x => ?_
 rw [h1.2 x]
 refine ⟨fun hx => ?_, .inl⟩
 rcases hx with hx | ⟨f, hf, hx⟩
 ·exact hx
 ·exact hc f hf x hx
structure uStay (l : List Mth) (d4 : List Rul) (a8 : List Fct) (u : UU) : Prop where
 a : uA l a8 u = (u.1, u.2.2.2)
 m : uM l d4 a8 u = []
 s : uS l d4 a8 u = (u.1, u.2.2.2)
 v : (E8 l d4 a8 u).2.1 = u.2.1
 o : uO l (E8 l d4 a8 u) = []
theorem b0L (hm : B3 s l = true) (hr : B7 s d4 = true) (hf : a0t s a8) (h : uInv s u) (e : (E8 l d4 a8 u).2.2.2.length ≤ u.2.2.2.length) : uStay l d4 a8 u := by
 have e' : (uS l d4 a8 u).2.length ≤ u.2.2.2.length := e
 have h1 : (uA l a8 u).2.length ≤ (uS l d4 a8 u).2.length := a4m
 have h2 : uA l a8 u = (u.1, u.2.2.2) := a9M (S := (u.1, u.2.2.2)) (Nat.le_trans h1 e')
 have h3 : uS l d4 a8 u = uA l a8 u := a5P (by rw [show (uA l a8 u).2.length = u.2.2.2.length from by rw [h2]]; exact e')
 have h4 := congrArg (fun z => z.2.length) (b2W hm hr hf h)
 rw [h3] at h4
 simp only [List.length_append, uD, List.length_map] at h4
 have h5 : (E8 l d4 a8 u).2.1 = u.2.1 := by
  show (uS l d4 a8 u).1.foldl pvI u.2.1 = u.2.1
  rw [h3, h2]
  exact b2H (a0z h.vals).1 h.cl
 refine ⟨h2, List.eq_nil_of_length_eq_zero (by omega), h3.trans h2, h5, ?_⟩
 show c8 (E8 l d4 a8 u).2.1 (u.2.2.1 ++ uO l u) l 0 = []
 rw [h5]
 exact b1L fun a ha => ha
theorem b5j (hm : B3 s l = true) (hr : B7 s d4 = true) (hf : a0t s a8) (h : uInv s u) (e : (E8 l d4 a8 u).2.2.2.length ≤ u.2.2.2.length) : E8 l d4 a8 (E8 l d4 a8 u) = E8 l d4 a8 u := by
 have hs := b0L hm hr hf h e
 have e1 : (E8 l d4 a8 u).1 = u.1 := congrArg (fun z => z.1) hs.s
 have e2 : (E8 l d4 a8 u).2.2.2 = u.2.2.2 := congrArg (fun z => z.2) hs.s
 have a1 : uA l a8 (E8 l d4 a8 u) = (u.1, u.2.2.2) := by unfold uA; rw [hs.o, e1, e2]; rfl
 have m1 : uM l d4 a8 (E8 l d4 a8 u) = [] := by have := hs.m; unfold uM at this ⊢; rw [a1]; rw [hs.a] at this; exact this
 have s1 : uS l d4 a8 (E8 l d4 a8 u) = (u.1, u.2.2.2) := by unfold uS uD; rw [m1, a1]; rfl
 have e3 : E8 l d4 a8 (E8 l d4 a8 u) = ((uS l d4 a8 (E8 l d4 a8 u)).1, (uS l d4 a8 (E8 l d4 a8 u)).1.foldl pvI (E8 l d4 a8 u).2.1, (E8 l d4 a8 u).2.2.1 ++ uO l (E8 l d4 a8 u), (uS l d4 a8 (E8 l d4 a8 u)).2) := rfl
 rw [e3, s1, hs.o, hs.v, List.append_nil]
 have e4 : E8 l d4 a8 u = ((E8 l d4 a8 u).1, (E8 l d4 a8 u).2.1, (E8 l d4 a8 u).2.2.1, (E8 l d4 a8 u).2.2.2) := rfl
 rw [e4, e1, e2, hs.v, b2H (a0z h.vals).1 h.cl]
theorem b1o (h : E8 l d4 a8 (uIt l d4 a8 d6 g) = uIt l d4 a8 d6 g) : ∀ k, uIt l d4 a8 d6 (g + k) = uIt l d4 a8 d6 g
 | 0 => rfl
 | k + 1 => by rw [← Nat.add_assoc]; show E8 l d4 a8 (uIt l d4 a8 d6 (g + k)) = _; rw [b1o h k, h]
theorem b2B (hg : g ≤ 6000) (h : E8 l d4 a8 (uIt l d4 a8 d6 g) = uIt l d4 a8 d6 g) : uIt l d4 a8 d6 g = B2 l d4 a8 d6 := by
 have := b1o h (6000 - g)
 rw [show g + (6000 - g) = 6000 by omega] at this
 exact this.symm
def gI (s : List Int) (l : List Mth) (d4 : List Rul) (a8 : List Fct) (d6 : List Int) (g : Nat) : Prop :=
 uInv s (uIt l d4 a8 d6 g) ∧ (g ≤ (uIt l d4 a8 d6 g).2.2.2.length ∨ (g ≤ (uIt l d4 a8 d6 g).2.2.2.length + 1 ∧ E8 l d4 a8 (uIt l d4 a8 d6 g) = uIt l d4 a8 d6 g ∧ uO l (uIt l d4 a8 d6 g) = []))
theorem b2o : gI s l d4 a8 d6 0 := ⟨b0g, .inl (Nat.zero_le _)⟩
theorem b3A (h : gI s l d4 a8 d6 g) : g ≤ 5325 := by
 have := h.1.n.len.1
 rcases h.2 with h2 | ⟨h2, _⟩
 ·exact Nat.le_trans h2 (Nat.le_trans this (by decide))
 ·exact Nat.le_trans h2 (Nat.succ_le_succ this)
theorem a9v (hm : B3 s l = true) (hr : B7 s d4 = true) (hf : a0t s a8) (h : gI s l d4 a8 d6 g)
  (hc : 0 < (uO l (uIt l d4 a8 d6 g)).length ∨ (uIt l d4 a8 d6 g).2.2.2.length < (uIt l d4 a8 d6 (g + 1)).2.2.2.length) : gI s l d4 a8 d6 (g + 1) := by
 obtain ⟨h1, h2⟩ := h
 refine ⟨a6Q hm hr hf h1, ?_⟩
 rcases h2 with h2 | ⟨_, h3, h4⟩
 ·rcases Nat.lt_or_ge (uIt l d4 a8 d6 g).2.2.2.length (uIt l d4 a8 d6 (g + 1)).2.2.2.length with h5 | h5
  ·exact .inl (by omega)
  ·have h6 := b0L hm hr hf h1 h5
   refine .inr ⟨?_, b5j hm hr hf h1 h5, h6.o⟩
   have e2 : (uIt l d4 a8 d6 (g + 1)).2.2.2 = (uIt l d4 a8 d6 g).2.2.2 := congrArg (fun z => z.2) h6.s
   rw [e2]; omega
 ·rcases hc with hc | hc
  ·rw [h4] at hc; simp at hc
  ·have : uIt l d4 a8 d6 (g + 1) = uIt l d4 a8 d6 g := h3
   rw [this] at hc; omega
theorem a5g (hm : B3 s l = true) (hr : B7 s d4 = true) (hf : a0t s a8) (h : gI s l d4 a8 d6 g) (hc : (uIt l d4 a8 d6 (g + 1)).2.2.2.length ≤ (uIt l d4 a8 d6 g).2.2.2.length) : uIt l d4 a8 d6 (g + 1) = B2 l d4 a8 d6 :=
 b2B (by have := b3A h; omega) (b5j hm hr hf h.1 hc)
theorem b2v (hm : B3 s l = true) (hr : B7 s d4 = true) (hf : a0t s a8) (h : gI s l d4 a8 d6 g)
  (hc : ¬ ((uIt l d4 a8 d6 (g + 1)).2.2.2.length = (uIt l d4 a8 d6 g).2.2.2.length ∧ (uO l (uIt l d4 a8 d6 (g + 1))).length = 0)) : (uIt l d4 a8 d6 g).2.2.2.length < (uIt l d4 a8 d6 (g + 1)).2.2.2.length := by
 have h1 : (uA l a8 (uIt l d4 a8 d6 g)).2.length ≤ (uS l d4 a8 (uIt l d4 a8 d6 g)).2.length := a4m
 have h2 : (uIt l d4 a8 d6 g).2.2.2.length ≤ (uA l a8 (uIt l d4 a8 d6 g)).2.length := a9j (S := ((uIt l d4 a8 d6 g).1, (uIt l d4 a8 d6 g).2.2.2))
 have h3 : (uIt l d4 a8 d6 (g + 1)).2.2.2.length = (uS l d4 a8 (uIt l d4 a8 d6 g)).2.length := rfl
 rcases Nat.lt_or_ge (uIt l d4 a8 d6 g).2.2.2.length (uIt l d4 a8 d6 (g + 1)).2.2.2.length with h5 | h5
 ·exact h5
 ·refine absurd ⟨by omega, ?_⟩ hc
  have h6 : uO l (uIt l d4 a8 d6 (g + 1)) = [] := (b0L hm hr hf h.1 h5).o
  rw [h6]; rfl
end
-- within a round
theorem b6e {s : List Int} {m : List Fct} {a : Acs} (hm : ∀ f ∈ m, B9 s f = true) (ha : a.2.length ≤ 3) : ∀ x ∈ m.map (lnA a), B9 s x.2.2 = true ∧ x.2.1.2.length ≤ 3 := by
 intro x hx
 obtain ⟨f, h, rfl⟩ := List.mem_map.1 hx
 exact ⟨hm f h, ha⟩
theorem b4q {s : List Int} {d4 : List Rul} {F m : List Fct} (hm : ∀ f ∈ m, B9 s f = true) : ∀ x ∈ m.map (lnR d4 F), B9 s x.2.2 = true ∧ x.2.1.2.length ≤ 3 := by
 intro x hx
 obtain ⟨f, h, rfl⟩ := List.mem_map.1 hx
 exact ⟨hm f h, by simp [lnR]⟩
theorem b0f {d4 : List Rul} {F : List Fct} {f : Fct} (h : d4.length ≤ 4) : I64 (X4 d4 F f) := by
 have := a4O (p := a0W F f) (s := d4)
 unfold X4 I64; omega
section
variable {s : List Int} {l : List Mth} {d4 : List Rul} {a8 F : List Fct} {V : List Int} {A : List Acs} {L : List Lin} {g k j i : Nat} {S : NoS}
theorem D5 (hg : ¬ g < (c8 V A l 0).length) (hk : ¬ k < (n9 d4 (rndA l a8 ((c8 V A l 0).take g) (F, L)).1).length)
  (hj : ¬ j < (((n9 d4 (rndA l a8 ((c8 V A l 0).take g) (F, L)).1).take k).map (lnR d4 (rndA l a8 ((c8 V A l 0).take g) (F, L)).1)).length) :
  notes (rndA l a8 ((c8 V A l 0).take g) (F, L)) ((((n9 d4 (rndA l a8 ((c8 V A l 0).take g) (F, L)).1).take k).map (lnR d4 (rndA l a8 ((c8 V A l 0).take g) (F, L)).1)).take j) = uS l d4 a8 (F, V, A, L) := by
 have e1 : (c8 V A l 0).take g = c8 V A l 0 := List.take_of_length_le (Nat.le_of_not_lt hg)
 rw [e1] at hk hj ⊢
 have e2 := List.take_of_length_le (Nat.le_of_not_lt hk)
 rw [e2] at hj ⊢
 rw [List.take_of_length_le (Nat.le_of_not_lt hj)]; rfl
theorem a1E (e : S = uS l d4 a8 (F, V, A, L)) : S.1 = (E8 l d4 a8 (F, V, A, L)).1 := by rw [e]; rfl
theorem a1B (e : S = uS l d4 a8 (F, V, A, L)) : S.2 = (E8 l d4 a8 (F, V, A, L)).2.2.2 := by rw [e]; rfl
theorem b6C {F : List Fct} {V : List Int} {i : Nat} (h : i < F.length) : H6 (([F.take i |>.foldl wvI V, F[i].2].flatten).filter fun t => inR t 0 9) = (F.take (i + 1)).foldl wvI V := by
 rw [List.take_succ_eq_append_getElem h, List.foldl_append]; simp [wvI]
theorem b6N {F : List Fct} {V : List Int} {p j : Nat} (h : p < F.length) (hj : ¬ j < F[p].2.length) : (F[p].2.take j).foldl E4 ((F.take p).foldl pvI V) = (F.take (p + 1)).foldl pvI V := by
 rw [List.take_of_length_le (Nat.le_of_not_lt hj), List.take_succ_eq_append_getElem h, List.foldl_append]; rfl
theorem a1D (hg : ¬ g < (c8 V A l 0).length) : A ++ (c8 V A l 0).take g = (E8 l d4 a8 (F, V, A, L)).2.2.1 := congrArg (A ++ ·) (List.take_of_length_le (Nat.le_of_not_lt hg))
theorem a1A (e : S = uS l d4 a8 (F, V, A, L)) (hm : B3 s l = true) (hr : B7 s d4 = true) (hf : a0t s a8) (h : uInv s (F, V, A, L)) (hi : ¬ i < S.1.length) : (S.1.take i).foldl wvI V = (E8 l d4 a8 (F, V, A, L)).2.1 := by
 subst e
 rw [List.take_of_length_le (Nat.le_of_not_lt hi)]
 exact (a6B h.vals fun f hf' => a0X ((b1m hm hr hf h).okF f hf')).1
theorem P7 (h : 0 < (c8 V A l 0).length) {b : Bool} : true = (decide (0 < (uO l (F, V, A, L)).length) || b) := by
 have h1 : 0 < (uO l (F, V, A, L)).length := h
 rw [decide_eq_true h1]; rfl
theorem P9 (e : S = uS l d4 a8 (F, V, A, L)) (h : ¬ 0 < (c8 V A l 0).length) : decide ((L.length : Int) < (S.2.length : Int)) = (decide (0 < (uO l (F, V, A, L)).length) || decide (L.length < (E8 l d4 a8 (F, V, A, L)).2.2.2.length)) := by
 subst e
 have h1 : ¬ 0 < (uO l (F, V, A, L)).length := h
 rw [decide_eq_false h1, Bool.false_or, decide_eq_decide]
 exact Int.ofNat_lt
end
section
variable {s : List Int} {l : List Mth} {d4 : List Rul} {a8 : List Fct} {d6 : List Int} {u : UU} {g i p n : Nat}
theorem b4f (hg : ¬ g < (c8 u.2.1 u.2.2.1 l 0).length) : rndA l a8 ((c8 u.2.1 u.2.2.1 l 0).take g) (u.1, u.2.2.2) = uA l a8 u := by rw [List.take_of_length_le (Nat.le_of_not_lt hg)]; rfl
theorem b6P (hm : B3 s l = true) (hr : B7 s d4 = true) (hf : a0t s a8) (h : uInv s u) (hg : ¬ g < (c8 u.2.1 u.2.2.1 l 0).length) :
  (rndA l a8 ((c8 u.2.1 u.2.2.1 l 0).take g) (u.1, u.2.2.2)).2 ++ (n9 d4 (rndA l a8 ((c8 u.2.1 u.2.2.1 l 0).take g) (u.1, u.2.2.2)).1).map (lnR d4 (rndA l a8 ((c8 u.2.1 u.2.2.1 l 0).take g) (u.1, u.2.2.2)).1) = (E8 l d4 a8 u).2.2.2 := by
 rw [b4f hg]; exact (congrArg (fun z => z.2) (b2W hm hr hf h)).symm
theorem b6x (hm : B3 s l = true) (hr : B7 s d4 = true) (hf : a0t s a8) (h : uInv s u) (hg : ¬ g < (c8 u.2.1 u.2.2.1 l 0).length) (hi : ¬ i < (n9 d4 (rndA l a8 ((c8 u.2.1 u.2.2.1 l 0).take g) (u.1, u.2.2.2)).1).length) :
  ((n9 d4 (rndA l a8 ((c8 u.2.1 u.2.2.1 l 0).take g) (u.1, u.2.2.2)).1).take i).foldl w4 (rndA l a8 ((c8 u.2.1 u.2.2.1 l 0).take g) (u.1, u.2.2.2)).1 = (E8 l d4 a8 u).1 := by
 rw [List.take_of_length_le (Nat.le_of_not_lt hi), b4f hg]; exact (congrArg (fun z => z.1) (b2W hm hr hf h)).symm
theorem b6z {X : List Fct} (e : X = (E8 l d4 a8 u).1) (hp : ¬ p < X.length) : (X.take p).foldl pvI u.2.1 = (E8 l d4 a8 u).2.1 := by
 rw [List.take_of_length_le (Nat.le_of_not_lt hp), e]; rfl
theorem b6B (hg : ¬ g < (c8 u.2.1 u.2.2.1 l 0).length) : u.2.2.1 ++ (c8 u.2.1 u.2.2.1 l 0).take g = (E8 l d4 a8 u).2.2.1 := congrArg (u.2.2.1 ++ ·) (List.take_of_length_le (Nat.le_of_not_lt hg))
theorem a9z (hm : B3 s l = true) (h : uInv s (uIt l d4 a8 d6 n)) (hl : (uIt l d4 a8 d6 n).2.2.1.length ≤ 5000 * n) : (uIt l d4 a8 d6 (n + 1)).2.2.1.length ≤ 5000 * (n + 1) := by
 have h1 := (a5O hm h).1
 have h2 : (uIt l d4 a8 d6 (n + 1)).2.2.1 = (uIt l d4 a8 d6 n).2.2.1 ++ uO l (uIt l d4 a8 d6 n) := rfl
 rw [h2, List.length_append]; omega
end
-- what is asked
def E7 (s : List Int) (l : List Mth) (d4 : List Rul) (a8 : List Fct) : Bool := (B3 s l && B7 s d4) && D7 s a8
def D9 (s : List Int) (l : List Mth) (d4 : List Rul) (a8 : List Fct) (d6 : List Int) : List Fct := if E7 s l d4 a8 then (B2 l d4 a8 d6).1 else []
theorem a0f {s : List Int} {l : List Mth} {d4 : List Rul} {a8 : List Fct} (h : E7 s l d4 a8 = true) : B3 s l = true ∧ B7 s d4 = true ∧ a0t s a8 := by
 simp only [E7, Bool.and_eq_true] at h; exact ⟨h.1.1, h.1.2, a9n h.2⟩
theorem a1S {s : List Int} {l : List Mth} {d4 : List Rul} {a8 : List Fct} {d6 : List Int} (h : E7 s l d4 a8 = true) : uInv s (B2 l d4 a8 d6) :=
 a2z (a0f h).1 (a0f h).2.1 (a0f h).2.2 6000
theorem b5z {s : List Int} {u : UU} {g : Nat} (h : uInv s u) : ∀ f ∈ ((u.2.2.2.take g).map fun x => x.2.2).foldl w4 [], f.2.length ≤ 1048576 :=
 a9y (fun f hf => by
  obtain ⟨x, hx, rfl⟩ := List.mem_map.1 hf
  exact Nat.le_trans (H3 (h.n.ok x (List.mem_of_mem_take hx))) (by decide)) (by simp)
theorem b3k {s : List Int} {u : UU} {g : Nat} (h : uInv s u) (hg : ¬ g < u.2.2.2.length) : ((u.2.2.2.take g).map fun x => x.2.2).foldl w4 [] = u.1 := by
 rw [List.take_of_length_le (Nat.le_of_not_lt hg)]; exact h.n.fold.symm
theorem b3P {X : List Lin} {g : Nat} (h : g < X.length) : w4 (((X.take g).map fun x => x.2.2).foldl w4 []) X[g].2.2 = ((X.take (g + 1)).map fun x => x.2.2).foldl w4 [] := by
 rw [List.take_succ_eq_append_getElem h, List.map_append, List.foldl_append]; rfl
end Go.Proofs.YthapcdhdfaibkaaGreatDoor
