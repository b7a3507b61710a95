import Derived.Test.YtdopeopehgdccaaGreatDz
namespace Go.Proofs.YtdopeopehgdccaaGreat
set_option linter.unusedVariables false
set_option linter.unusedSimpArgs false
/-- facts that are valid, and not too many -/
def X2 (s : List Int) (d6 : List Fct) : Prop := d6.length ≤ 7000 ∧ ∀ f ∈ d6, D6 s f = true
theorem b0P {s : List Int} {l : List Mth} {d6 : List Fct} {i : Int} (h : x8 s l = true) (hf : X2 s d6) (hi : 0 ≤ i ∧ i.toNat < l.length) : ∀ f ∈ d6, f.1 = (atM l i).1 → ∀ j ∈ (atM l i).2.1, 0 ≤ j ∧ j < f.2.length := by
  rw [a3Y hi.2]
  exact fun f hm e => b0z (b0x h _ (List.getElem_mem _)) (hf.2 f hm) e
abbrev NoS := List Fct × List Lin
abbrev UU := List Fct × List Int × List Acs × List Lin
/-- a line noted, if its fact is a new one -/
def notU (S : NoS) (x : Lin) : NoS := if E5 S.1 x.2.2 then S else (o4 S.1 x.2.2, S.2 ++ [x])
def notes (S : NoS) (xs : List Lin) : NoS := xs.foldl notU S
def lnA (a : Acs) (f : Fct) : Lin := (-1, a, f)
def lnR (d8 : List Rul) (F : List Fct) (f : Fct) : Lin := (a0n d8 F f, (0, []), f)
def rndA (l : List Mth) (d6 : List Fct) (O : List Acs) (S : NoS) : NoS := O.foldl (fun S a => notes S ((Q3 l d6 a).map (lnA a))) S
def uO (l : List Mth) (u : UU) : List Acs := d7 u.2.1 u.2.2.1 l 0
def uA (l : List Mth) (d6 : List Fct) (u : UU) : NoS := rndA l d6 (uO l u) (u.1, u.2.2.2)
def uM (l : List Mth) (d8 : List Rul) (d6 : List Fct) (u : UU) : List Fct := i9 d8 (uA l d6 u).1
def uD (l : List Mth) (d8 : List Rul) (d6 : List Fct) (u : UU) : List Lin := (uM l d8 d6 u).map (lnR d8 (uA l d6 u).1)
def uS (l : List Mth) (d8 : List Rul) (d6 : List Fct) (u : UU) : NoS := notes (uA l d6 u) (uD l d8 d6 u)
def C7 (l : List Mth) (d8 : List Rul) (d6 : List Fct) (u : UU) : UU := ((uS l d8 d6 u).1, (uS l d8 d6 u).1.foldl pvI u.2.1, u.2.2.1 ++ uO l u, (uS l d8 d6 u).2)
def uIt (l : List Mth) (d8 : List Rul) (d6 : List Fct) (j8 : List Int) : Nat → UU
  | 0 => ([], D4 (j8.filter fun t => inR t 0 9), [], [])
  | n + 1 => C7 l d8 d6 (uIt l d8 d6 j8 n)
def C6 (l : List Mth) (d8 : List Rul) (d6 : List Fct) (j8 : List Int) : UU := uIt l d8 d6 j8 6000
-- noting
theorem b3u {S : NoS} {x : Lin} : S.2.length ≤ (notU S x).2.length := by unfold notU; split <;> simp
theorem b1J {S : NoS} {x : Lin} (h : (notU S x).2.length ≤ S.2.length) : notU S x = S := by
  unfold notU at h ⊢
  split
  · rfl
  · rename_i hn; rw [if_neg hn] at h; simp at h; omega
theorem a3g : ∀ {xs : List Lin} {S : NoS}, S.2.length ≤ (notes S xs).2.length
  | [], _ => Nat.le_refl _
  | x :: xs, S => Nat.le_trans (b3u (x := x)) (a3g (xs := xs))
theorem a4m : ∀ {xs : List Lin} {S : NoS}, (notes S xs).2.length ≤ S.2.length → notes S xs = S
  | [], _, _ => rfl
  | x :: xs, S, h => by
    have h1 : (notes (notU S x) xs).2.length ≤ S.2.length := h
    have h2 := a3g (xs := xs) (S := notU S x)
    have h3 := b1J (S := S) (x := x) (Nat.le_trans h2 h1)
    show notes (notU S x) xs = S
    rw [h3] at h1 ⊢
    exact a4m h1
theorem a7I {l : List Mth} {d6 : List Fct} : ∀ {O : List Acs} {S : NoS}, S.2.length ≤ (rndA l d6 O S).2.length
  | [], _ => Nat.le_refl _
  | a :: O, S => Nat.le_trans a3g (a7I (O := O))
theorem a8x {l : List Mth} {d6 : List Fct} : ∀ {O : List Acs} {S : NoS}, (rndA l d6 O S).2.length ≤ S.2.length → rndA l d6 O S = S
  | [], _, _ => rfl
  | a :: O, S, h => by
    have h1 : (rndA l d6 O (notes S ((Q3 l d6 a).map (lnA a)))).2.length ≤ S.2.length := h
    have h2 := a7I (l := l) (d6 := d6) (O := O) (S := notes S ((Q3 l d6 a).map (lnA a)))
    have h3 := a4m (Nat.le_trans h2 h1)
    show rndA l d6 O (notes S ((Q3 l d6 a).map (lnA a))) = S
    rw [h3] at h1 ⊢
    exact a8x h1
/-- what is noted -/
structure nInv (s : List Int) (S : NoS) : Prop where
  fold : S.1 = (S.2.map fun x => x.2.2).foldl o4 []
  nd : (S.2.map fun x => x.2.2).Nodup
  ok : ∀ x ∈ S.2, D6 s x.2.2 = true
  acc : ∀ x ∈ S.2, x.2.1.2.length ≤ 3
theorem nInv.mem {s : List Int} {S : NoS} (h : nInv s S) {f : Fct} : f ∈ S.1 ↔ ∃ x ∈ S.2, x.2.2 = f := by
  rw [h.fold, a5b]
  simp only [List.not_mem_nil, false_or, List.mem_map]
theorem nInv.okF {s : List Int} {S : NoS} (h : nInv s S) : ∀ f ∈ S.1, D6 s f = true := fun f hf => by
  obtain ⟨x, hx, rfl⟩ := h.mem.1 hf
  exact h.ok x hx
theorem nInv.len {s : List Int} {S : NoS} (h : nInv s S) : S.2.length ≤ 5324 ∧ S.1.length ≤ 5324 := by
  have h1 := a5l (s := s) h.nd fun f hf => by
    obtain ⟨x, hx, rfl⟩ := List.mem_map.1 hf
    exact h.ok x hx
  have h2 := a3b (m := S.2.map fun x => x.2.2) (x := [])
  rw [← h.fold] at h2
  simp only [List.length_map, List.length_nil] at h1 h2
  omega
theorem nInv.notU {s : List Int} {S : NoS} {x : Lin} (h : nInv s S) (h1 : D6 s x.2.2 = true) (h2 : x.2.1.2.length ≤ 3) : nInv s (notU S x) := by
  unfold Go.Proofs.YtdopeopehgdccaaGreat.notU
  split
  · exact h
  · rename_i hn
    refine ⟨?_, ?_, fun y hy => ?_, fun y hy => ?_⟩
    · simp only [List.map_append, List.foldl_append, ← h.fold]; rfl
    · rw [List.map_append, List.nodup_append]
      refine ⟨h.nd, by simp, fun a ha b hb e => hn ?_⟩
      simp only [List.map_cons, List.map_nil, List.mem_singleton] at hb
      subst e; subst hb
      obtain ⟨y, hy, e⟩ := List.mem_map.1 ha
      exact a2a.2 (h.mem.2 ⟨y, hy, e⟩)
    · rcases List.mem_append.1 hy with hy | hy
      · exact h.ok y hy
      · obtain rfl := List.mem_singleton.1 hy; exact h1
    · rcases List.mem_append.1 hy with hy | hy
      · exact h.acc y hy
      · obtain rfl := List.mem_singleton.1 hy; exact h2
theorem nInv.notes {s : List Int} : ∀ {xs : List Lin} {S : NoS}, nInv s S → (∀ x ∈ xs, D6 s x.2.2 = true ∧ x.2.1.2.length ≤ 3) → nInv s (notes S xs)
  | [], _, h, _ => h
  | x :: xs, S, h, hx => nInv.notes (xs := xs) (h.notU (hx x (by simp)).1 (hx x (by simp)).2) fun y hy => hx y (by simp [hy])
theorem b3M {s : List Int} {l : List Mth} {d6 : List Fct} {a : Acs} (hf : ∀ f ∈ d6, D6 s f = true) (ha : a.2.length ≤ 3) : ∀ x ∈ (Q3 l d6 a).map (lnA a), D6 s x.2.2 = true ∧ x.2.1.2.length ≤ 3 := by
  intro x hx
  obtain ⟨f, h, rfl⟩ := List.mem_map.1 hx
  exact ⟨hf f (List.mem_filter.1 h).1, ha⟩
theorem nInv.rndA {s : List Int} {l : List Mth} {d6 : List Fct} (hf : ∀ f ∈ d6, D6 s f = true) : ∀ {O : List Acs} {S : NoS}, nInv s S → (∀ a ∈ O, a.2.length ≤ 3) → nInv s (rndA l d6 O S)
  | [], _, h, _ => h
  | a :: O, S, h, ho => nInv.rndA hf (O := O) (h.notes (b3M hf (ho a (by simp)))) fun b hb => ho b (by simp [hb])
theorem b1P {l : List Mth} {d6 : List Fct} {O : List Acs} {S : NoS} {g : Nat} (h : g < O.length) : notes (rndA l d6 (O.take g) S) ((Q3 l d6 O[g]).map (lnA O[g])) = rndA l d6 (O.take (g + 1)) S := by
  unfold rndA; rw [List.take_succ_eq_append_getElem h, List.foldl_append]; rfl
-- what is missing
theorem b1F {d6 : List Fct} {f : Fct} {r : Rul} {out : List Fct} (h : a1j out) : a1j (C1 d6 f out r) := by
  unfold C1
  split
  · split
    · exact h
    · exact a9y h
  · exact h
theorem a8m {d6 : List Fct} {f : Fct} : ∀ {l : List Rul} {out : List Fct}, a1j out → a1j (l.foldl (C1 d6 f) out)
  | [], _, h => h
  | r :: l, _, h => a8m (l := l) (b1F h)
theorem a6N {l : List Rul} {d6 : List Fct} : ∀ {fs : List Fct} {out : List Fct}, a1j out → a1j (fs.foldl (B2 l d6) out)
  | [], _, h => h
  | f :: fs, _, h => a6N (fs := fs) (a8m h)
theorem b1K {l : List Rul} {d6 : List Fct} : a1j (i9 l d6) := a6N .nil
theorem b2m {F : List Fct} {f g : Fct} (h : E5 F g = false) (hn : g ≠ f) : E5 (o4 F f) g = false := by
  cases hh : E5 (o4 F f) g
  · rfl
  · rcases a1o (a2a.1 hh) with h1 | h1
    · rw [a2a.2 h1] at h; cases h
    · exact absurd h1 hn
theorem a8I {w : Fct → Lin} (hw : ∀ f, (w f).2.2 = f) : ∀ {M : List Fct} {S : NoS}, M.Nodup → (∀ f ∈ M, E5 S.1 f = false) → notes S (M.map w) = (M.foldl o4 S.1, S.2 ++ M.map w)
  | [], S, _, _ => by simp [notes]
  | f :: M, S, hn, h => by
    rw [List.nodup_cons] at hn
    have h1 : notU S (w f) = (o4 S.1 f, S.2 ++ [w f]) := by unfold notU; rw [hw, h f (by simp)]; rfl
    show notes (notU S (w f)) (M.map w) = _
    rw [h1, a8I hw (M := M) hn.2 fun g hg => b2m (h g (by simp [hg])) fun e => hn.1 (by rw [← e]; exact hg)]
    simp
-- a round
structure uInv (s : List Int) (u : UU) : Prop where
  n : nInv s (u.1, u.2.2.2)
  vals : O9 u.2.1 = true
  cl : ∀ f ∈ u.1, ∀ x ∈ f.2, x ∈ u.2.1
  acc : ∀ a ∈ u.2.2.1, a.2.length ≤ 3
section
variable {s : List Int} {l : List Mth} {d8 : List Rul} {d6 : List Fct} {j8 : List Int} {u : UU} {g : Nat}
theorem a4k (hm : x8 s l = true) (h : uInv s u) : (uO l u).length ≤ 5000 ∧ ∀ a ∈ uO l u, a.2.length ≤ 3 := by
  obtain ⟨m1, m2⟩ := a2x hm
  have o1 := a2N (f8 := u.2.1) (log := u.2.2.1) (i := 0) (a0c h.vals) m1
  exact ⟨by unfold uO; omega, b0H m1⟩
theorem b1V (hm : x8 s l = true) (hf : X2 s d6) (h : uInv s u) : nInv s (uA l d6 u) := h.n.rndA hf.2 (a4k hm h).2
theorem b2S (hm : x8 s l = true) (hr : x7 s d8 = true) (hf : X2 s d6) (h : uInv s u) : ∀ x ∈ uM l d8 d6 u, D6 s x = true ∧ E5 (uA l d6 u).1 x = false :=
  a1w hr (b1V hm hf h).okF
theorem b1v (hm : x8 s l = true) (hr : x7 s d8 = true) (hf : X2 s d6) (h : uInv s u) : nInv s (uS l d8 d6 u) :=
  (b1V hm hf h).notes fun x hx => by
    obtain ⟨f, h1, rfl⟩ := List.mem_map.1 hx
    exact ⟨(b2S hm hr hf h f h1).1, by simp [lnR]⟩
theorem b1l (hm : x8 s l = true) (hr : x7 s d8 = true) (hf : X2 s d6) (h : uInv s u) : uS l d8 d6 u = ((uM l d8 d6 u).foldl o4 (uA l d6 u).1, (uA l d6 u).2 ++ uD l d8 d6 u) :=
  a8I (w := lnR d8 (uA l d6 u).1) (fun _ => rfl) (a7f b1K) fun f hf' => (b2S hm hr hf h f hf').2
theorem b2O {m : List Fct} : ∀ {v : List Int}, v.Pairwise (· < ·) → (m.foldl pvI v).Pairwise (· < ·) ∧ ∀ y, y ∈ m.foldl pvI v ↔ y ∈ v ∨ ∃ f ∈ m, y ∈ f.2 := by
  induction m with
  | nil => intro v h; simpa using h
  | cons f m ih =>
    intro v h
    have h1 := a6y (f := f) h
    have h2 := ih h1.1
    refine ⟨h2.1, fun y => ?_⟩
    rw [List.foldl_cons, h2.2 y, h1.2 y]
    simp only [List.mem_cons, exists_eq_or_imp, or_assoc]
theorem a4T (hm : x8 s l = true) (hr : x7 s d8 = true) (hf : X2 s d6) (h : uInv s u) : uInv s (C7 l d8 d6 u) := by
  have h1 := b1v hm hr hf h
  have h2 := a9N (m := (uS l d8 d6 u).1) h.vals fun f hf' => R2 (h1.okF f hf')
  refine ⟨h1, h2.2, fun f hf' x hx => ?_, fun a ha => ?_⟩
  · exact ((b2O (a1a h.vals).1).2 x).2 (.inr ⟨f, hf', hx⟩)
  · rcases List.mem_append.1 ha with ha | ha
    · exact h.acc a ha
    · exact (a4k hm h).2 a ha
theorem a8D : uInv s (uIt l d8 d6 j8 0) := by
  refine ⟨⟨rfl, .nil, by simp [uIt], by simp [uIt]⟩, a3j a4d fun x hx => ?_, by simp [uIt], by simp [uIt]⟩
  simp only [uIt, a1i, List.mem_filter] at hx
  simpa [inR] using hx.2
theorem a9E (hm : x8 s l = true) (hr : x7 s d8 = true) (hf : X2 s d6) : ∀ n, uInv s (uIt l d8 d6 j8 n)
  | 0 => a8D
  | n + 1 => a4T hm hr hf (a9E hm hr hf n)
theorem b0l {f8 : List Int} {A B : List Acs} : ∀ {l : List Mth} {i : Int}, (∀ a ∈ d7 f8 A l i, a ∈ B) → d7 f8 (A ++ B) l i = []
  | [], _, _ => rfl
  | m :: l, i, h => by
    simp only [d7, List.mem_append] at h
    rw [d7, b0l (l := l) fun a ha => h a (.inr ha), List.append_nil]
    split
    · rfl
    · rename_i hl
      rw [J2, List.filter_eq_nil_iff.2, List.map_nil]
      intro v hv
      simp only [Bool.not_eq_true, Bool.not_eq_false']
      cases hA : L8 A (i, v)
      · have h1 := h (i, v) (.inl (by rw [if_neg hl, J2]; exact List.mem_map.2 ⟨v, List.mem_filter.2 ⟨hv, by simp [hA]⟩, rfl⟩))
        simp only [L8, List.any_append, Bool.or_eq_true, List.any_eq_true]
        exact .inr ⟨_, h1, by simp⟩
      · simp only [L8, List.any_append, Bool.or_eq_true] at hA ⊢
        exact .inl hA
theorem b0L {v : List Int} {m : List Fct} (h : v.Pairwise (· < ·)) (hc : ∀ f ∈ m, ∀ x ∈ f.2, x ∈ v) : m.foldl pvI v = v := by
  have h1 := b2O (m := m) h
  refine a5A h1.1 h fun x => ?_
  rw [h1.2 x]
  refine ⟨fun hx => ?_, .inl⟩
  rcases hx with hx | ⟨f, hf, hx⟩
  · exact hx
  · exact hc f hf x hx
structure uStay (l : List Mth) (d8 : List Rul) (d6 : List Fct) (u : UU) : Prop where
  a : uA l d6 u = (u.1, u.2.2.2)
  m : uM l d8 d6 u = []
  s : uS l d8 d6 u = (u.1, u.2.2.2)
  v : (C7 l d8 d6 u).2.1 = u.2.1
  o : uO l (C7 l d8 d6 u) = []
theorem b0Z (hm : x8 s l = true) (hr : x7 s d8 = true) (hf : X2 s d6) (h : uInv s u) (e : (C7 l d8 d6 u).2.2.2.length ≤ u.2.2.2.length) : uStay l d8 d6 u := by
  have e' : (uS l d8 d6 u).2.length ≤ u.2.2.2.length := e
  have h1 : (uA l d6 u).2.length ≤ (uS l d8 d6 u).2.length := a3g
  have h2 : uA l d6 u = (u.1, u.2.2.2) := a8x (S := (u.1, u.2.2.2)) (Nat.le_trans h1 e')
  have h3 : uS l d8 d6 u = uA l d6 u := a4m (by rw [show (uA l d6 u).2.length = u.2.2.2.length from by rw [h2]]; exact e')
  have h4 := congrArg (fun z => z.2.length) (b1l hm hr hf h)
  rw [h3] at h4
  simp only [List.length_append, uD, List.length_map] at h4
  have h5 : (C7 l d8 d6 u).2.1 = u.2.1 := by
    show (uS l d8 d6 u).1.foldl pvI u.2.1 = u.2.1
    rw [h3, h2]
    exact b0L (a1a h.vals).1 h.cl
  refine ⟨h2, List.eq_nil_of_length_eq_zero (by omega), h3.trans h2, h5, ?_⟩
  show d7 (C7 l d8 d6 u).2.1 (u.2.2.1 ++ uO l u) l 0 = []
  rw [h5]
  exact b0l fun a ha => ha
theorem b3D (hm : x8 s l = true) (hr : x7 s d8 = true) (hf : X2 s d6) (h : uInv s u) (e : (C7 l d8 d6 u).2.2.2.length ≤ u.2.2.2.length) : C7 l d8 d6 (C7 l d8 d6 u) = C7 l d8 d6 u := by
  have hs := b0Z hm hr hf h e
  have e1 : (C7 l d8 d6 u).1 = u.1 := congrArg (fun z => z.1) hs.s
  have e2 : (C7 l d8 d6 u).2.2.2 = u.2.2.2 := congrArg (fun z => z.2) hs.s
  have a1 : uA l d6 (C7 l d8 d6 u) = (u.1, u.2.2.2) := by unfold uA; rw [hs.o, e1, e2]; rfl
  have m1 : uM l d8 d6 (C7 l d8 d6 u) = [] := by have := hs.m; unfold uM at this ⊢; rw [a1]; rw [hs.a] at this; exact this
  have s1 : uS l d8 d6 (C7 l d8 d6 u) = (u.1, u.2.2.2) := by unfold uS uD; rw [m1, a1]; rfl
  have e3 : C7 l d8 d6 (C7 l d8 d6 u) = ((uS l d8 d6 (C7 l d8 d6 u)).1, (uS l d8 d6 (C7 l d8 d6 u)).1.foldl pvI (C7 l d8 d6 u).2.1, (C7 l d8 d6 u).2.2.1 ++ uO l (C7 l d8 d6 u), (uS l d8 d6 (C7 l d8 d6 u)).2) := rfl
  rw [e3, s1, hs.o, hs.v, List.append_nil]
  have e4 : C7 l d8 d6 u = ((C7 l d8 d6 u).1, (C7 l d8 d6 u).2.1, (C7 l d8 d6 u).2.2.1, (C7 l d8 d6 u).2.2.2) := rfl
  rw [e4, e1, e2, hs.v, b0L (a1a h.vals).1 h.cl]
theorem b0h (h : C7 l d8 d6 (uIt l d8 d6 j8 g) = uIt l d8 d6 j8 g) : ∀ k, uIt l d8 d6 j8 (g + k) = uIt l d8 d6 j8 g
  | 0 => rfl
  | k + 1 => by rw [← Nat.add_assoc]; show C7 l d8 d6 (uIt l d8 d6 j8 (g + k)) = _; rw [b0h h k, h]
theorem b3n (hg : g ≤ 6000) (h : C7 l d8 d6 (uIt l d8 d6 j8 g) = uIt l d8 d6 j8 g) : uIt l d8 d6 j8 g = C6 l d8 d6 j8 := by
  have := b0h h (6000 - g)
  rw [show g + (6000 - g) = 6000 by omega] at this
  exact this.symm
/-- at the head of the loop -/
def gI (s : List Int) (l : List Mth) (d8 : List Rul) (d6 : List Fct) (j8 : List Int) (g : Nat) : Prop :=
  uInv s (uIt l d8 d6 j8 g) ∧ (g ≤ (uIt l d8 d6 j8 g).2.2.2.length ∨ (g ≤ (uIt l d8 d6 j8 g).2.2.2.length + 1 ∧ C7 l d8 d6 (uIt l d8 d6 j8 g) = uIt l d8 d6 j8 g ∧ uO l (uIt l d8 d6 j8 g) = []))
theorem b0Q : gI s l d8 d6 j8 0 := ⟨a8D, .inl (Nat.zero_le _)⟩
theorem b1n (h : gI s l d8 d6 j8 g) : g ≤ 5325 := by
  have := h.1.n.len.1
  rcases h.2 with h2 | ⟨h2, _⟩
  · exact Nat.le_trans h2 (Nat.le_trans this (by decide))
  · exact Nat.le_trans h2 (Nat.succ_le_succ this)
theorem a7D (hm : x8 s l = true) (hr : x7 s d8 = true) (hf : X2 s d6) (h : gI s l d8 d6 j8 g)
    (hc : 0 < (uO l (uIt l d8 d6 j8 g)).length ∨ (uIt l d8 d6 j8 g).2.2.2.length < (uIt l d8 d6 j8 (g + 1)).2.2.2.length) : gI s l d8 d6 j8 (g + 1) := by
  obtain ⟨h1, h2⟩ := h
  refine ⟨a4T hm hr hf h1, ?_⟩
  rcases h2 with h2 | ⟨_, h3, h4⟩
  · rcases Nat.lt_or_ge (uIt l d8 d6 j8 g).2.2.2.length (uIt l d8 d6 j8 (g + 1)).2.2.2.length with h5 | h5
    · exact .inl (by omega)
    · have h6 := b0Z hm hr hf h1 h5
      refine .inr ⟨?_, b3D hm hr hf h1 h5, h6.o⟩
      have e2 : (uIt l d8 d6 j8 (g + 1)).2.2.2 = (uIt l d8 d6 j8 g).2.2.2 := congrArg (fun z => z.2) h6.s
      rw [e2]; omega
  · rcases hc with hc | hc
    · rw [h4] at hc; simp at hc
    · have : uIt l d8 d6 j8 (g + 1) = uIt l d8 d6 j8 g := h3
      rw [this] at hc; omega
theorem a3X (hm : x8 s l = true) (hr : x7 s d8 = true) (hf : X2 s d6) (h : gI s l d8 d6 j8 g) (hc : (uIt l d8 d6 j8 (g + 1)).2.2.2.length ≤ (uIt l d8 d6 j8 g).2.2.2.length) : uIt l d8 d6 j8 (g + 1) = C6 l d8 d6 j8 :=
  b3n (by have := b1n h; omega) (b3D hm hr hf h.1 hc)
/-- growth is what the other one asks for -/
theorem b0M (hm : x8 s l = true) (hr : x7 s d8 = true) (hf : X2 s d6) (h : gI s l d8 d6 j8 g)
    (hc : ¬ ((uIt l d8 d6 j8 (g + 1)).2.2.2.length = (uIt l d8 d6 j8 g).2.2.2.length ∧ (uO l (uIt l d8 d6 j8 (g + 1))).length = 0)) : (uIt l d8 d6 j8 g).2.2.2.length < (uIt l d8 d6 j8 (g + 1)).2.2.2.length := by
  have h1 : (uA l d6 (uIt l d8 d6 j8 g)).2.length ≤ (uS l d8 d6 (uIt l d8 d6 j8 g)).2.length := a3g
  have h2 : (uIt l d8 d6 j8 g).2.2.2.length ≤ (uA l d6 (uIt l d8 d6 j8 g)).2.length := a7I (S := ((uIt l d8 d6 j8 g).1, (uIt l d8 d6 j8 g).2.2.2))
  have h3 : (uIt l d8 d6 j8 (g + 1)).2.2.2.length = (uS l d8 d6 (uIt l d8 d6 j8 g)).2.length := rfl
  rcases Nat.lt_or_ge (uIt l d8 d6 j8 g).2.2.2.length (uIt l d8 d6 j8 (g + 1)).2.2.2.length with h5 | h5
  · exact h5
  · refine absurd ⟨by omega, ?_⟩ hc
    have h6 : uO l (uIt l d8 d6 j8 (g + 1)) = [] := (b0Z hm hr hf h.1 h5).o
    rw [h6]; rfl
end
-- within a round
theorem b2L {s : List Int} {m : List Fct} {a : Acs} (hm : ∀ f ∈ m, D6 s f = true) (ha : a.2.length ≤ 3) : ∀ x ∈ m.map (lnA a), D6 s x.2.2 = true ∧ x.2.1.2.length ≤ 3 := by
  intro x hx
  obtain ⟨f, h, rfl⟩ := List.mem_map.1 hx
  exact ⟨hm f h, ha⟩
theorem b1A {s : List Int} {d8 : List Rul} {F m : List Fct} (hm : ∀ f ∈ m, D6 s f = true) : ∀ x ∈ m.map (lnR d8 F), D6 s x.2.2 = true ∧ x.2.1.2.length ≤ 3 := by
  intro x hx
  obtain ⟨f, h, rfl⟩ := List.mem_map.1 hx
  exact ⟨hm f h, by simp [lnR]⟩
theorem a8C {d8 : List Rul} {F : List Fct} {f : Fct} (h : d8.length ≤ 4) : I64 (a0n d8 F f) := by
  have := a3D (p := a4c F f) (s := d8)
  unfold a0n I64; omega
section
variable {s : List Int} {l : List Mth} {d8 : List Rul} {d6 F : List Fct} {V : List Int} {A : List Acs} {L : List Lin} {g k j i : Nat} {S : NoS}
theorem y8 (hg : ¬ g < (d7 V A l 0).length) (hk : ¬ k < (i9 d8 (rndA l d6 ((d7 V A l 0).take g) (F, L)).1).length)
    (hj : ¬ j < (((i9 d8 (rndA l d6 ((d7 V A l 0).take g) (F, L)).1).take k).map (lnR d8 (rndA l d6 ((d7 V A l 0).take g) (F, L)).1)).length) :
    notes (rndA l d6 ((d7 V A l 0).take g) (F, L)) ((((i9 d8 (rndA l d6 ((d7 V A l 0).take g) (F, L)).1).take k).map (lnR d8 (rndA l d6 ((d7 V A l 0).take g) (F, L)).1)).take j) = uS l d8 d6 (F, V, A, L) := by
  have e1 : (d7 V A l 0).take g = d7 V A l 0 := List.take_of_length_le (Nat.le_of_not_lt hg)
  rw [e1] at hk hj ⊢
  have e2 := List.take_of_length_le (Nat.le_of_not_lt hk)
  rw [e2] at hj ⊢
  rw [List.take_of_length_le (Nat.le_of_not_lt hj)]; rfl
theorem a0d (e : S = uS l d8 d6 (F, V, A, L)) : S.1 = (C7 l d8 d6 (F, V, A, L)).1 := by rw [e]; rfl
theorem a0e (e : S = uS l d8 d6 (F, V, A, L)) : S.2 = (C7 l d8 d6 (F, V, A, L)).2.2.2 := by rw [e]; rfl
theorem b3q {F : List Fct} {V : List Int} {i : Nat} (h : i < F.length) : D4 (([F.take i |>.foldl wvI V, F[i].2].flatten).filter fun t => inR t 0 9) = (F.take (i + 1)).foldl wvI V := by
  rw [List.take_succ_eq_append_getElem h, List.foldl_append]; simp [wvI]
theorem b3x {F : List Fct} {V : List Int} {p j : Nat} (h : p < F.length) (hj : ¬ j < F[p].2.length) : (F[p].2.take j).foldl G2 ((F.take p).foldl pvI V) = (F.take (p + 1)).foldl pvI V := by
  rw [List.take_of_length_le (Nat.le_of_not_lt hj), List.take_succ_eq_append_getElem h, List.foldl_append]; rfl
theorem a0g (hg : ¬ g < (d7 V A l 0).length) : A ++ (d7 V A l 0).take g = (C7 l d8 d6 (F, V, A, L)).2.2.1 := congrArg (A ++ ·) (List.take_of_length_le (Nat.le_of_not_lt hg))
theorem a0b (e : S = uS l d8 d6 (F, V, A, L)) (hm : x8 s l = true) (hr : x7 s d8 = true) (hf : X2 s d6) (h : uInv s (F, V, A, L)) (hi : ¬ i < S.1.length) : (S.1.take i).foldl wvI V = (C7 l d8 d6 (F, V, A, L)).2.1 := by
  subst e
  rw [List.take_of_length_le (Nat.le_of_not_lt hi)]
  exact (a9N h.vals fun f hf' => R2 ((b1v hm hr hf h).okF f hf')).1
theorem I6 (h : 0 < (d7 V A l 0).length) {b : Bool} : true = (decide (0 < (uO l (F, V, A, L)).length) || b) := by
  have h1 : 0 < (uO l (F, V, A, L)).length := h
  rw [decide_eq_true h1]; rfl
theorem I2 (e : S = uS l d8 d6 (F, V, A, L)) (h : ¬ 0 < (d7 V A l 0).length) : decide ((L.length : Int) < (S.2.length : Int)) = (decide (0 < (uO l (F, V, A, L)).length) || decide (L.length < (C7 l d8 d6 (F, V, A, L)).2.2.2.length)) := by
  subst e
  have h1 : ¬ 0 < (uO l (F, V, A, L)).length := h
  rw [decide_eq_false h1, Bool.false_or, decide_eq_decide]
  exact Int.ofNat_lt
end
section
variable {s : List Int} {l : List Mth} {d8 : List Rul} {d6 : List Fct} {j8 : List Int} {u : UU} {g i p n : Nat}
theorem b1M (hg : ¬ g < (d7 u.2.1 u.2.2.1 l 0).length) : rndA l d6 ((d7 u.2.1 u.2.2.1 l 0).take g) (u.1, u.2.2.2) = uA l d6 u := by rw [List.take_of_length_le (Nat.le_of_not_lt hg)]; rfl
theorem b3d (hm : x8 s l = true) (hr : x7 s d8 = true) (hf : X2 s d6) (h : uInv s u) (hg : ¬ g < (d7 u.2.1 u.2.2.1 l 0).length) :
    (rndA l d6 ((d7 u.2.1 u.2.2.1 l 0).take g) (u.1, u.2.2.2)).2 ++ (i9 d8 (rndA l d6 ((d7 u.2.1 u.2.2.1 l 0).take g) (u.1, u.2.2.2)).1).map (lnR d8 (rndA l d6 ((d7 u.2.1 u.2.2.1 l 0).take g) (u.1, u.2.2.2)).1) = (C7 l d8 d6 u).2.2.2 := by
  rw [b1M hg]; exact (congrArg (fun z => z.2) (b1l hm hr hf h)).symm
theorem b3b (hm : x8 s l = true) (hr : x7 s d8 = true) (hf : X2 s d6) (h : uInv s u) (hg : ¬ g < (d7 u.2.1 u.2.2.1 l 0).length) (hi : ¬ i < (i9 d8 (rndA l d6 ((d7 u.2.1 u.2.2.1 l 0).take g) (u.1, u.2.2.2)).1).length) :
    ((i9 d8 (rndA l d6 ((d7 u.2.1 u.2.2.1 l 0).take g) (u.1, u.2.2.2)).1).take i).foldl o4 (rndA l d6 ((d7 u.2.1 u.2.2.1 l 0).take g) (u.1, u.2.2.2)).1 = (C7 l d8 d6 u).1 := by
  rw [List.take_of_length_le (Nat.le_of_not_lt hi), b1M hg]; exact (congrArg (fun z => z.1) (b1l hm hr hf h)).symm
theorem b3k {X : List Fct} (e : X = (C7 l d8 d6 u).1) (hp : ¬ p < X.length) : (X.take p).foldl pvI u.2.1 = (C7 l d8 d6 u).2.1 := by
  rw [List.take_of_length_le (Nat.le_of_not_lt hp), e]; rfl
theorem b3m (hg : ¬ g < (d7 u.2.1 u.2.2.1 l 0).length) : u.2.2.1 ++ (d7 u.2.1 u.2.2.1 l 0).take g = (C7 l d8 d6 u).2.2.1 := congrArg (u.2.2.1 ++ ·) (List.take_of_length_le (Nat.le_of_not_lt hg))
theorem a7C (hm : x8 s l = true) (h : uInv s (uIt l d8 d6 j8 n)) (hl : (uIt l d8 d6 j8 n).2.2.1.length ≤ 5000 * n) : (uIt l d8 d6 j8 (n + 1)).2.2.1.length ≤ 5000 * (n + 1) := by
  have h1 := (a4k hm h).1
  have h2 : (uIt l d8 d6 j8 (n + 1)).2.2.1 = (uIt l d8 d6 j8 n).2.2.1 ++ uO l (uIt l d8 d6 j8 n) := rfl
  rw [h2, List.length_append]; omega
end
-- what is asked
def b2W (s : List Int) (l : List Mth) (d8 : List Rul) (d6 : List Fct) : Bool := (x8 s l && x7 s d8) && H3 s d6
def b5l (s : List Int) (l : List Mth) (d8 : List Rul) (d6 : List Fct) (j8 : List Int) : List Fct := if b2W s l d8 d6 then (C6 l d8 d6 j8).1 else []
theorem b2j {s : List Int} {u : UU} {g : Nat} (h : uInv s u) : ∀ f ∈ ((u.2.2.2.take g).map fun x => x.2.2).foldl o4 [], f.2.length ≤ 1048576 :=
  a8a (fun f hf => by
    obtain ⟨x, hx, rfl⟩ := List.mem_map.1 hf
    exact Nat.le_trans (H6 (h.n.ok x (List.mem_of_mem_take hx))) (by decide)) (by simp)
theorem a2J {s : List Int} {u : UU} {g : Nat} (h : uInv s u) (hg : ¬ g < u.2.2.2.length) : ((u.2.2.2.take g).map fun x => x.2.2).foldl o4 [] = u.1 := by
  rw [List.take_of_length_le (Nat.le_of_not_lt hg)]; exact h.n.fold.symm
theorem b1I {X : List Lin} {g : Nat} (h : g < X.length) : o4 (((X.take g).map fun x => x.2.2).foldl o4 []) X[g].2.2 = ((X.take (g + 1)).map fun x => x.2.2).foldl o4 [] := by
  rw [List.take_succ_eq_append_getElem h, List.map_append, List.foldl_append]; rfl
end Go.Proofs.YtdopeopehgdccaaGreat
