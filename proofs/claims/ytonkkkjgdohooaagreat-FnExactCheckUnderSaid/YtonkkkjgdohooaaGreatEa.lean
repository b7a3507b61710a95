import Derived.Test.YtonkkkjgdohooaaGreatDz
namespace Go.Proofs.YtonkkkjgdohooaaGreat
set_option linter.unusedVariables false
set_option linter.unusedSimpArgs false
/-- facts that are valid, and not too many -/
def finF (s : List Int) (facts : List Fct) : Prop := facts.length ≤ 7000 ∧ ∀ f ∈ facts, okFact s f = true
theorem opn_inF {s : List Int} {l : List Mth} {facts : List Fct} {i : Int} (h : okMeths s l = true) (hf : finF s facts) (hi : 0 ≤ i ∧ i.toNat < l.length) : ∀ f ∈ facts, f.1 = (atM l i).1 → ∀ j ∈ (atM l i).2.1, 0 ≤ j ∧ j < f.2.length := by
  rw [atM_get hi.2]
  exact fun f hm e => okMeth_fact (okMeths_mem h _ (List.getElem_mem _)) (hf.2 f hm) e
abbrev NoS := List Fct × List Lin
abbrev UU := List Fct × List Int × List Acs × List Lin
/-- a line noted, if its fact is a new one -/
def notU (S : NoS) (x : Lin) : NoS := if hasF S.1 x.2.2 then S else (addF S.1 x.2.2, S.2 ++ [x])
def notes (S : NoS) (xs : List Lin) : NoS := xs.foldl notU S
def lnA (a : Acs) (f : Fct) : Lin := (-1, a, f)
def lnR (rules : List Rul) (F : List Fct) (f : Fct) : Lin := (ruleK rules F f, (0, []), f)
def rndA (l : List Mth) (facts : List Fct) (O : List Acs) (S : NoS) : NoS := O.foldl (fun S a => notes S ((mtcA l facts a).map (lnA a))) S
def uO (l : List Mth) (u : UU) : List Acs := opnF u.2.1 u.2.2.1 l 0
def uA (l : List Mth) (facts : List Fct) (u : UU) : NoS := rndA l facts (uO l u) (u.1, u.2.2.2)
def uM (l : List Mth) (rules : List Rul) (facts : List Fct) (u : UU) : List Fct := missF rules (uA l facts u).1
def uD (l : List Mth) (rules : List Rul) (facts : List Fct) (u : UU) : List Lin := (uM l rules facts u).map (lnR rules (uA l facts u).1)
def uS (l : List Mth) (rules : List Rul) (facts : List Fct) (u : UU) : NoS := notes (uA l facts u) (uD l rules facts u)
def urnd (l : List Mth) (rules : List Rul) (facts : List Fct) (u : UU) : UU := ((uS l rules facts u).1, (uS l rules facts u).1.foldl pvI u.2.1, u.2.2.1 ++ uO l u, (uS l rules facts u).2)
def uIt (l : List Mth) (rules : List Rul) (facts : List Fct) (seeds : List Int) : Nat → UU
  | 0 => ([], setI (seeds.filter fun t => inR t 0 9), [], [])
  | n + 1 => urnd l rules facts (uIt l rules facts seeds n)
def uFin (l : List Mth) (rules : List Rul) (facts : List Fct) (seeds : List Int) : UU := uIt l rules facts seeds 6000
-- noting
theorem notU_le {S : NoS} {x : Lin} : S.2.length ≤ (notU S x).2.length := by unfold notU; split <;> simp
theorem notU_stay {S : NoS} {x : Lin} (h : (notU S x).2.length ≤ S.2.length) : notU S x = S := by
  unfold notU at h ⊢
  split
  · rfl
  · rename_i hn; rw [if_neg hn] at h; simp at h; omega
theorem notes_le : ∀ {xs : List Lin} {S : NoS}, S.2.length ≤ (notes S xs).2.length
  | [], _ => Nat.le_refl _
  | x :: xs, S => Nat.le_trans (notU_le (x := x)) (notes_le (xs := xs))
theorem notes_stay : ∀ {xs : List Lin} {S : NoS}, (notes S xs).2.length ≤ S.2.length → notes S xs = S
  | [], _, _ => rfl
  | x :: xs, S, h => by
    have h1 : (notes (notU S x) xs).2.length ≤ S.2.length := h
    have h2 := notes_le (xs := xs) (S := notU S x)
    have h3 := notU_stay (S := S) (x := x) (Nat.le_trans h2 h1)
    show notes (notU S x) xs = S
    rw [h3] at h1 ⊢
    exact notes_stay h1
theorem rndA_le {l : List Mth} {facts : List Fct} : ∀ {O : List Acs} {S : NoS}, S.2.length ≤ (rndA l facts O S).2.length
  | [], _ => Nat.le_refl _
  | a :: O, S => Nat.le_trans notes_le (rndA_le (O := O))
theorem rndA_stay {l : List Mth} {facts : List Fct} : ∀ {O : List Acs} {S : NoS}, (rndA l facts O S).2.length ≤ S.2.length → rndA l facts O S = S
  | [], _, _ => rfl
  | a :: O, S, h => by
    have h1 : (rndA l facts O (notes S ((mtcA l facts a).map (lnA a)))).2.length ≤ S.2.length := h
    have h2 := rndA_le (l := l) (facts := facts) (O := O) (S := notes S ((mtcA l facts a).map (lnA a)))
    have h3 := notes_stay (Nat.le_trans h2 h1)
    show rndA l facts O (notes S ((mtcA l facts a).map (lnA a))) = S
    rw [h3] at h1 ⊢
    exact rndA_stay h1
/-- what is noted -/
structure nInv (s : List Int) (S : NoS) : Prop where
  fold : S.1 = (S.2.map fun x => x.2.2).foldl addF []
  nd : (S.2.map fun x => x.2.2).Nodup
  ok : ∀ x ∈ S.2, okFact s x.2.2 = true
  acc : ∀ x ∈ S.2, x.2.1.2.length ≤ 3
theorem nInv.mem {s : List Int} {S : NoS} (h : nInv s S) {f : Fct} : f ∈ S.1 ↔ ∃ x ∈ S.2, x.2.2 = f := by
  rw [h.fold, fold_addF]
  simp only [List.not_mem_nil, false_or, List.mem_map]
theorem nInv.okF {s : List Int} {S : NoS} (h : nInv s S) : ∀ f ∈ S.1, okFact s f = true := fun f hf => by
  obtain ⟨x, hx, rfl⟩ := h.mem.1 hf
  exact h.ok x hx
theorem nInv.len {s : List Int} {S : NoS} (h : nInv s S) : S.2.length ≤ 5324 ∧ S.1.length ≤ 5324 := by
  have h1 := facts_few (s := s) h.nd fun f hf => by
    obtain ⟨x, hx, rfl⟩ := List.mem_map.1 hf
    exact h.ok x hx
  have h2 := fold_len (m := S.2.map fun x => x.2.2) (x := [])
  rw [← h.fold] at h2
  simp only [List.length_map, List.length_nil] at h1 h2
  omega
theorem nInv.notU {s : List Int} {S : NoS} {x : Lin} (h : nInv s S) (h1 : okFact s x.2.2 = true) (h2 : x.2.1.2.length ≤ 3) : nInv s (notU S x) := by
  unfold Go.Proofs.YtonkkkjgdohooaaGreat.notU
  split
  · exact h
  · rename_i hn
    refine ⟨?_, ?_, fun y hy => ?_, fun y hy => ?_⟩
    · simp only [List.map_append, List.foldl_append, ← h.fold]; rfl
    · rw [List.map_append, List.nodup_append]
      refine ⟨h.nd, by simp, fun a ha b hb e => hn ?_⟩
      simp only [List.map_cons, List.map_nil, List.mem_singleton] at hb
      subst e; subst hb
      obtain ⟨y, hy, e⟩ := List.mem_map.1 ha
      exact hasF_mem.2 (h.mem.2 ⟨y, hy, e⟩)
    · rcases List.mem_append.1 hy with hy | hy
      · exact h.ok y hy
      · obtain rfl := List.mem_singleton.1 hy; exact h1
    · rcases List.mem_append.1 hy with hy | hy
      · exact h.acc y hy
      · obtain rfl := List.mem_singleton.1 hy; exact h2
theorem nInv.notes {s : List Int} : ∀ {xs : List Lin} {S : NoS}, nInv s S → (∀ x ∈ xs, okFact s x.2.2 = true ∧ x.2.1.2.length ≤ 3) → nInv s (notes S xs)
  | [], _, h, _ => h
  | x :: xs, S, h, hx => nInv.notes (xs := xs) (h.notU (hx x (by simp)).1 (hx x (by simp)).2) fun y hy => hx y (by simp [hy])
theorem lnA_ok {s : List Int} {l : List Mth} {facts : List Fct} {a : Acs} (hf : ∀ f ∈ facts, okFact s f = true) (ha : a.2.length ≤ 3) : ∀ x ∈ (mtcA l facts a).map (lnA a), okFact s x.2.2 = true ∧ x.2.1.2.length ≤ 3 := by
  intro x hx
  obtain ⟨f, h, rfl⟩ := List.mem_map.1 hx
  exact ⟨hf f (List.mem_filter.1 h).1, ha⟩
theorem nInv.rndA {s : List Int} {l : List Mth} {facts : List Fct} (hf : ∀ f ∈ facts, okFact s f = true) : ∀ {O : List Acs} {S : NoS}, nInv s S → (∀ a ∈ O, a.2.length ≤ 3) → nInv s (rndA l facts O S)
  | [], _, h, _ => h
  | a :: O, S, h, ho => nInv.rndA hf (O := O) (h.notes (lnA_ok hf (ho a (by simp)))) fun b hb => ho b (by simp [hb])
theorem rndA_step {l : List Mth} {facts : List Fct} {O : List Acs} {S : NoS} {g : Nat} (h : g < O.length) : notes (rndA l facts (O.take g) S) ((mtcA l facts O[g]).map (lnA O[g])) = rndA l facts (O.take (g + 1)) S := by
  unfold rndA; rw [List.take_succ_eq_append_getElem h, List.foldl_append]; rfl
-- what is missing
theorem miss2_asc {facts : List Fct} {f : Fct} {r : Rul} {out : List Fct} (h : ascF out) : ascF (miss2 facts f out r) := by
  unfold miss2
  split
  · split
    · exact h
    · exact addF_asc h
  · exact h
theorem miss1_asc {facts : List Fct} {f : Fct} : ∀ {l : List Rul} {out : List Fct}, ascF out → ascF (l.foldl (miss2 facts f) out)
  | [], _, h => h
  | r :: l, _, h => miss1_asc (l := l) (miss2_asc h)
theorem missF_asc' {l : List Rul} {facts : List Fct} : ∀ {fs : List Fct} {out : List Fct}, ascF out → ascF (fs.foldl (miss1 l facts) out)
  | [], _, h => h
  | f :: fs, _, h => missF_asc' (fs := fs) (miss1_asc h)
theorem missF_asc {l : List Rul} {facts : List Fct} : ascF (missF l facts) := missF_asc' .nil
theorem hasF_add {F : List Fct} {f g : Fct} (h : hasF F g = false) (hn : g ≠ f) : hasF (addF F f) g = false := by
  cases hh : hasF (addF F f) g
  · rfl
  · rcases addP_mem (hasF_mem.1 hh) with h1 | h1
    · rw [hasF_mem.2 h1] at h; cases h
    · exact absurd h1 hn
theorem notes_all {w : Fct → Lin} (hw : ∀ f, (w f).2.2 = f) : ∀ {M : List Fct} {S : NoS}, M.Nodup → (∀ f ∈ M, hasF S.1 f = false) → notes S (M.map w) = (M.foldl addF S.1, S.2 ++ M.map w)
  | [], S, _, _ => by simp [notes]
  | f :: M, S, hn, h => by
    rw [List.nodup_cons] at hn
    have h1 : notU S (w f) = (addF S.1 f, S.2 ++ [w f]) := by unfold notU; rw [hw, h f (by simp)]; rfl
    show notes (notU S (w f)) (M.map w) = _
    rw [h1, notes_all hw (M := M) hn.2 fun g hg => hasF_add (h g (by simp [hg])) fun e => hn.1 (by rw [← e]; exact hg)]
    simp
-- a round
structure uInv (s : List Int) (u : UU) : Prop where
  n : nInv s (u.1, u.2.2.2)
  vals : okReach u.2.1 = true
  cl : ∀ f ∈ u.1, ∀ x ∈ f.2, x ∈ u.2.1
  acc : ∀ a ∈ u.2.2.1, a.2.length ≤ 3
section
variable {s : List Int} {l : List Mth} {rules : List Rul} {facts : List Fct} {seeds : List Int} {u : UU} {g : Nat}
theorem uO_le (hm : okMeths s l = true) (h : uInv s u) : (uO l u).length ≤ 5000 ∧ ∀ a ∈ uO l u, a.2.length ≤ 3 := by
  obtain ⟨m1, m2⟩ := okMeths_len hm
  have o1 := opn_len (values := u.2.1) (log := u.2.2.1) (i := 0) (okReach_len h.vals) m1
  exact ⟨by unfold uO; omega, opn_mem m1⟩
theorem uA_inv (hm : okMeths s l = true) (hf : finF s facts) (h : uInv s u) : nInv s (uA l facts u) := h.n.rndA hf.2 (uO_le hm h).2
theorem uM_ok (hm : okMeths s l = true) (hr : okRules s rules = true) (hf : finF s facts) (h : uInv s u) : ∀ x ∈ uM l rules facts u, okFact s x = true ∧ hasF (uA l facts u).1 x = false :=
  miss_ok hr (uA_inv hm hf h).okF
theorem uS_inv (hm : okMeths s l = true) (hr : okRules s rules = true) (hf : finF s facts) (h : uInv s u) : nInv s (uS l rules facts u) :=
  (uA_inv hm hf h).notes fun x hx => by
    obtain ⟨f, h1, rfl⟩ := List.mem_map.1 hx
    exact ⟨(uM_ok hm hr hf h f h1).1, by simp [lnR]⟩
theorem uS_is (hm : okMeths s l = true) (hr : okRules s rules = true) (hf : finF s facts) (h : uInv s u) : uS l rules facts u = ((uM l rules facts u).foldl addF (uA l facts u).1, (uA l facts u).2 ++ uD l rules facts u) :=
  notes_all (w := lnR rules (uA l facts u).1) (fun _ => rfl) (ascF_nodup missF_asc) fun f hf' => (uM_ok hm hr hf h f hf').2
theorem pv_cl {m : List Fct} : ∀ {v : List Int}, v.Pairwise (· < ·) → (m.foldl pvI v).Pairwise (· < ·) ∧ ∀ y, y ∈ m.foldl pvI v ↔ y ∈ v ∨ ∃ f ∈ m, y ∈ f.2 := by
  induction m with
  | nil => intro v h; simpa using h
  | cons f m ih =>
    intro v h
    have h1 := pvI_spec (f := f) h
    have h2 := ih h1.1
    refine ⟨h2.1, fun y => ?_⟩
    rw [List.foldl_cons, h2.2 y, h1.2 y]
    simp only [List.mem_cons, exists_eq_or_imp, or_assoc]
theorem uInv_step (hm : okMeths s l = true) (hr : okRules s rules = true) (hf : finF s facts) (h : uInv s u) : uInv s (urnd l rules facts u) := by
  have h1 := uS_inv hm hr hf h
  have h2 := pvfold (m := (uS l rules facts u).1) h.vals fun f hf' => okFact_vals (h1.okF f hf')
  refine ⟨h1, h2.2, fun f hf' x hx => ?_, fun a ha => ?_⟩
  · exact ((pv_cl (okReach_asc h.vals).1).2 x).2 (.inr ⟨f, hf', hx⟩)
  · rcases List.mem_append.1 ha with ha | ha
    · exact h.acc a ha
    · exact (uO_le hm h).2 a ha
theorem uInv_zero : uInv s (uIt l rules facts seeds 0) := by
  refine ⟨⟨rfl, .nil, by simp [uIt], by simp [uIt]⟩, ascI_okReach setI_asc fun x hx => ?_, by simp [uIt], by simp [uIt]⟩
  simp only [uIt, setI_mem, List.mem_filter] at hx
  simpa [inR] using hx.2
theorem uInv_all (hm : okMeths s l = true) (hr : okRules s rules = true) (hf : finF s facts) : ∀ n, uInv s (uIt l rules facts seeds n)
  | 0 => uInv_zero
  | n + 1 => uInv_step hm hr hf (uInv_all hm hr hf n)
theorem opn_none {values : List Int} {A B : List Acs} : ∀ {l : List Mth} {i : Int}, (∀ a ∈ opnF values A l i, a ∈ B) → opnF values (A ++ B) l i = []
  | [], _, _ => rfl
  | m :: l, i, h => by
    simp only [opnF, List.mem_append] at h
    rw [opnF, opn_none (l := l) fun a ha => h a (.inr ha), List.append_nil]
    split
    · rfl
    · rename_i hl
      rw [opn1, List.filter_eq_nil_iff.2, List.map_nil]
      intro v hv
      simp only [Bool.not_eq_true, Bool.not_eq_false']
      cases hA : hasA A (i, v)
      · have h1 := h (i, v) (.inl (by rw [if_neg hl, opn1]; exact List.mem_map.2 ⟨v, List.mem_filter.2 ⟨hv, by simp [hA]⟩, rfl⟩))
        simp only [hasA, List.any_append, Bool.or_eq_true, List.any_eq_true]
        exact .inr ⟨_, h1, by simp⟩
      · simp only [hasA, List.any_append, Bool.or_eq_true] at hA ⊢
        exact .inl hA
theorem pv_stay {v : List Int} {m : List Fct} (h : v.Pairwise (· < ·)) (hc : ∀ f ∈ m, ∀ x ∈ f.2, x ∈ v) : m.foldl pvI v = v := by
  have h1 := pv_cl (m := m) h
  refine asc_ext h1.1 h fun x => ?_
  rw [h1.2 x]
  refine ⟨fun hx => ?_, .inl⟩
  rcases hx with hx | ⟨f, hf, hx⟩
  · exact hx
  · exact hc f hf x hx
structure uStay (l : List Mth) (rules : List Rul) (facts : List Fct) (u : UU) : Prop where
  a : uA l facts u = (u.1, u.2.2.2)
  m : uM l rules facts u = []
  s : uS l rules facts u = (u.1, u.2.2.2)
  v : (urnd l rules facts u).2.1 = u.2.1
  o : uO l (urnd l rules facts u) = []
theorem ustay (hm : okMeths s l = true) (hr : okRules s rules = true) (hf : finF s facts) (h : uInv s u) (e : (urnd l rules facts u).2.2.2.length ≤ u.2.2.2.length) : uStay l rules facts u := by
  have e' : (uS l rules facts u).2.length ≤ u.2.2.2.length := e
  have h1 : (uA l facts u).2.length ≤ (uS l rules facts u).2.length := notes_le
  have h2 : uA l facts u = (u.1, u.2.2.2) := rndA_stay (S := (u.1, u.2.2.2)) (Nat.le_trans h1 e')
  have h3 : uS l rules facts u = uA l facts u := notes_stay (by rw [show (uA l facts u).2.length = u.2.2.2.length from by rw [h2]]; exact e')
  have h4 := congrArg (fun z => z.2.length) (uS_is hm hr hf h)
  rw [h3] at h4
  simp only [List.length_append, uD, List.length_map] at h4
  have h5 : (urnd l rules facts u).2.1 = u.2.1 := by
    show (uS l rules facts u).1.foldl pvI u.2.1 = u.2.1
    rw [h3, h2]
    exact pv_stay (okReach_asc h.vals).1 h.cl
  refine ⟨h2, List.eq_nil_of_length_eq_zero (by omega), h3.trans h2, h5, ?_⟩
  show opnF (urnd l rules facts u).2.1 (u.2.2.1 ++ uO l u) l 0 = []
  rw [h5]
  exact opn_none fun a ha => ha
theorem ufix (hm : okMeths s l = true) (hr : okRules s rules = true) (hf : finF s facts) (h : uInv s u) (e : (urnd l rules facts u).2.2.2.length ≤ u.2.2.2.length) : urnd l rules facts (urnd l rules facts u) = urnd l rules facts u := by
  have hs := ustay hm hr hf h e
  have e1 : (urnd l rules facts u).1 = u.1 := congrArg (fun z => z.1) hs.s
  have e2 : (urnd l rules facts u).2.2.2 = u.2.2.2 := congrArg (fun z => z.2) hs.s
  have a1 : uA l facts (urnd l rules facts u) = (u.1, u.2.2.2) := by unfold uA; rw [hs.o, e1, e2]; rfl
  have m1 : uM l rules facts (urnd l rules facts u) = [] := by have := hs.m; unfold uM at this ⊢; rw [a1]; rw [hs.a] at this; exact this
  have s1 : uS l rules facts (urnd l rules facts u) = (u.1, u.2.2.2) := by unfold uS uD; rw [m1, a1]; rfl
  have e3 : urnd l rules facts (urnd l rules facts u) = ((uS l rules facts (urnd l rules facts u)).1, (uS l rules facts (urnd l rules facts u)).1.foldl pvI (urnd l rules facts u).2.1, (urnd l rules facts u).2.2.1 ++ uO l (urnd l rules facts u), (uS l rules facts (urnd l rules facts u)).2) := rfl
  rw [e3, s1, hs.o, hs.v, List.append_nil]
  have e4 : urnd l rules facts u = ((urnd l rules facts u).1, (urnd l rules facts u).2.1, (urnd l rules facts u).2.2.1, (urnd l rules facts u).2.2.2) := rfl
  rw [e4, e1, e2, hs.v, pv_stay (okReach_asc h.vals).1 h.cl]
theorem uIt_stay (h : urnd l rules facts (uIt l rules facts seeds g) = uIt l rules facts seeds g) : ∀ k, uIt l rules facts seeds (g + k) = uIt l rules facts seeds g
  | 0 => rfl
  | k + 1 => by rw [← Nat.add_assoc]; show urnd l rules facts (uIt l rules facts seeds (g + k)) = _; rw [uIt_stay h k, h]
theorem uFin_is (hg : g ≤ 6000) (h : urnd l rules facts (uIt l rules facts seeds g) = uIt l rules facts seeds g) : uIt l rules facts seeds g = uFin l rules facts seeds := by
  have := uIt_stay h (6000 - g)
  rw [show g + (6000 - g) = 6000 by omega] at this
  exact this.symm
/-- at the head of the loop -/
def gI (s : List Int) (l : List Mth) (rules : List Rul) (facts : List Fct) (seeds : List Int) (g : Nat) : Prop :=
  uInv s (uIt l rules facts seeds g) ∧ (g ≤ (uIt l rules facts seeds g).2.2.2.length ∨ (g ≤ (uIt l rules facts seeds g).2.2.2.length + 1 ∧ urnd l rules facts (uIt l rules facts seeds g) = uIt l rules facts seeds g ∧ uO l (uIt l rules facts seeds g) = []))
theorem gI_zero : gI s l rules facts seeds 0 := ⟨uInv_zero, .inl (Nat.zero_le _)⟩
theorem gI_le (h : gI s l rules facts seeds g) : g ≤ 5325 := by
  have := h.1.n.len.1
  rcases h.2 with h2 | ⟨h2, _⟩
  · exact Nat.le_trans h2 (Nat.le_trans this (by decide))
  · exact Nat.le_trans h2 (Nat.succ_le_succ this)
theorem gI_step (hm : okMeths s l = true) (hr : okRules s rules = true) (hf : finF s facts) (h : gI s l rules facts seeds g)
    (hc : 0 < (uO l (uIt l rules facts seeds g)).length ∨ (uIt l rules facts seeds g).2.2.2.length < (uIt l rules facts seeds (g + 1)).2.2.2.length) : gI s l rules facts seeds (g + 1) := by
  obtain ⟨h1, h2⟩ := h
  refine ⟨uInv_step hm hr hf h1, ?_⟩
  rcases h2 with h2 | ⟨_, h3, h4⟩
  · rcases Nat.lt_or_ge (uIt l rules facts seeds g).2.2.2.length (uIt l rules facts seeds (g + 1)).2.2.2.length with h5 | h5
    · exact .inl (by omega)
    · have h6 := ustay hm hr hf h1 h5
      refine .inr ⟨?_, ufix hm hr hf h1 h5, h6.o⟩
      have e2 : (uIt l rules facts seeds (g + 1)).2.2.2 = (uIt l rules facts seeds g).2.2.2 := congrArg (fun z => z.2) h6.s
      rw [e2]; omega
  · rcases hc with hc | hc
    · rw [h4] at hc; simp at hc
    · have : uIt l rules facts seeds (g + 1) = uIt l rules facts seeds g := h3
      rw [this] at hc; omega
theorem gI_stop (hm : okMeths s l = true) (hr : okRules s rules = true) (hf : finF s facts) (h : gI s l rules facts seeds g) (hc : (uIt l rules facts seeds (g + 1)).2.2.2.length ≤ (uIt l rules facts seeds g).2.2.2.length) : uIt l rules facts seeds (g + 1) = uFin l rules facts seeds :=
  uFin_is (by have := gI_le h; omega) (ufix hm hr hf h.1 hc)
/-- growth is what the other one asks for -/
theorem gI_grow (hm : okMeths s l = true) (hr : okRules s rules = true) (hf : finF s facts) (h : gI s l rules facts seeds g)
    (hc : ¬ ((uIt l rules facts seeds (g + 1)).2.2.2.length = (uIt l rules facts seeds g).2.2.2.length ∧ (uO l (uIt l rules facts seeds (g + 1))).length = 0)) : (uIt l rules facts seeds g).2.2.2.length < (uIt l rules facts seeds (g + 1)).2.2.2.length := by
  have h1 : (uA l facts (uIt l rules facts seeds g)).2.length ≤ (uS l rules facts (uIt l rules facts seeds g)).2.length := notes_le
  have h2 : (uIt l rules facts seeds g).2.2.2.length ≤ (uA l facts (uIt l rules facts seeds g)).2.length := rndA_le (S := ((uIt l rules facts seeds g).1, (uIt l rules facts seeds g).2.2.2))
  have h3 : (uIt l rules facts seeds (g + 1)).2.2.2.length = (uS l rules facts (uIt l rules facts seeds g)).2.length := rfl
  rcases Nat.lt_or_ge (uIt l rules facts seeds g).2.2.2.length (uIt l rules facts seeds (g + 1)).2.2.2.length with h5 | h5
  · exact h5
  · refine absurd ⟨by omega, ?_⟩ hc
    have h6 : uO l (uIt l rules facts seeds (g + 1)) = [] := (ustay hm hr hf h.1 h5).o
    rw [h6]; rfl
end
-- within a round
theorem ln_ok {s : List Int} {m : List Fct} {a : Acs} (hm : ∀ f ∈ m, okFact s f = true) (ha : a.2.length ≤ 3) : ∀ x ∈ m.map (lnA a), okFact s x.2.2 = true ∧ x.2.1.2.length ≤ 3 := by
  intro x hx
  obtain ⟨f, h, rfl⟩ := List.mem_map.1 hx
  exact ⟨hm f h, ha⟩
theorem lnR_ok {s : List Int} {rules : List Rul} {F m : List Fct} (hm : ∀ f ∈ m, okFact s f = true) : ∀ x ∈ m.map (lnR rules F), okFact s x.2.2 = true ∧ x.2.1.2.length ≤ 3 := by
  intro x hx
  obtain ⟨f, h, rfl⟩ := List.mem_map.1 hx
  exact ⟨hm f h, by simp [lnR]⟩
theorem ruleK_I64 {rules : List Rul} {F : List Fct} {f : Fct} (h : rules.length ≤ 4) : I64 (ruleK rules F f) := by
  have := idx_range (p := givR F f) (s := rules)
  unfold ruleK I64; omega
section
variable {s : List Int} {l : List Mth} {rules : List Rul} {facts F : List Fct} {V : List Int} {A : List Acs} {L : List Lin} {g k j i : Nat} {S : NoS}
theorem round_S (hg : ¬ g < (opnF V A l 0).length) (hk : ¬ k < (missF rules (rndA l facts ((opnF V A l 0).take g) (F, L)).1).length)
    (hj : ¬ j < (((missF rules (rndA l facts ((opnF V A l 0).take g) (F, L)).1).take k).map (lnR rules (rndA l facts ((opnF V A l 0).take g) (F, L)).1)).length) :
    notes (rndA l facts ((opnF V A l 0).take g) (F, L)) ((((missF rules (rndA l facts ((opnF V A l 0).take g) (F, L)).1).take k).map (lnR rules (rndA l facts ((opnF V A l 0).take g) (F, L)).1)).take j) = uS l rules facts (F, V, A, L) := by
  have e1 : (opnF V A l 0).take g = opnF V A l 0 := List.take_of_length_le (Nat.le_of_not_lt hg)
  rw [e1] at hk hj ⊢
  have e2 := List.take_of_length_le (Nat.le_of_not_lt hk)
  rw [e2] at hj ⊢
  rw [List.take_of_length_le (Nat.le_of_not_lt hj)]; rfl
theorem round_F (e : S = uS l rules facts (F, V, A, L)) : S.1 = (urnd l rules facts (F, V, A, L)).1 := by rw [e]; rfl
theorem round_L (e : S = uS l rules facts (F, V, A, L)) : S.2 = (urnd l rules facts (F, V, A, L)).2.2.2 := by rw [e]; rfl
theorem wv_step {F : List Fct} {V : List Int} {i : Nat} (h : i < F.length) : setI (([F.take i |>.foldl wvI V, F[i].2].flatten).filter fun t => inR t 0 9) = (F.take (i + 1)).foldl wvI V := by
  rw [List.take_succ_eq_append_getElem h, List.foldl_append]; simp [wvI]
theorem pv_snoc {F : List Fct} {V : List Int} {p j : Nat} (h : p < F.length) (hj : ¬ j < F[p].2.length) : (F[p].2.take j).foldl putI ((F.take p).foldl pvI V) = (F.take (p + 1)).foldl pvI V := by
  rw [List.take_of_length_le (Nat.le_of_not_lt hj), List.take_succ_eq_append_getElem h, List.foldl_append]; rfl
theorem round_A (hg : ¬ g < (opnF V A l 0).length) : A ++ (opnF V A l 0).take g = (urnd l rules facts (F, V, A, L)).2.2.1 := congrArg (A ++ ·) (List.take_of_length_le (Nat.le_of_not_lt hg))
theorem round_V (e : S = uS l rules facts (F, V, A, L)) (hm : okMeths s l = true) (hr : okRules s rules = true) (hf : finF s facts) (h : uInv s (F, V, A, L)) (hi : ¬ i < S.1.length) : (S.1.take i).foldl wvI V = (urnd l rules facts (F, V, A, L)).2.1 := by
  subst e
  rw [List.take_of_length_le (Nat.le_of_not_lt hi)]
  exact (pvfold h.vals fun f hf' => okFact_vals ((uS_inv hm hr hf h).okF f hf')).1
theorem round_B1 (h : 0 < (opnF V A l 0).length) {b : Bool} : true = (decide (0 < (uO l (F, V, A, L)).length) || b) := by
  have h1 : 0 < (uO l (F, V, A, L)).length := h
  rw [decide_eq_true h1]; rfl
theorem round_B2 (e : S = uS l rules facts (F, V, A, L)) (h : ¬ 0 < (opnF V A l 0).length) : decide ((L.length : Int) < (S.2.length : Int)) = (decide (0 < (uO l (F, V, A, L)).length) || decide (L.length < (urnd l rules facts (F, V, A, L)).2.2.2.length)) := by
  subst e
  have h1 : ¬ 0 < (uO l (F, V, A, L)).length := h
  rw [decide_eq_false h1, Bool.false_or, decide_eq_decide]
  exact Int.ofNat_lt
end
section
variable {s : List Int} {l : List Mth} {rules : List Rul} {facts : List Fct} {seeds : List Int} {u : UU} {g i p n : Nat}
theorem spec_A (hg : ¬ g < (opnF u.2.1 u.2.2.1 l 0).length) : rndA l facts ((opnF u.2.1 u.2.2.1 l 0).take g) (u.1, u.2.2.2) = uA l facts u := by rw [List.take_of_length_le (Nat.le_of_not_lt hg)]; rfl
theorem spec_s1 (hm : okMeths s l = true) (hr : okRules s rules = true) (hf : finF s facts) (h : uInv s u) (hg : ¬ g < (opnF u.2.1 u.2.2.1 l 0).length) :
    (rndA l facts ((opnF u.2.1 u.2.2.1 l 0).take g) (u.1, u.2.2.2)).2 ++ (missF rules (rndA l facts ((opnF u.2.1 u.2.2.1 l 0).take g) (u.1, u.2.2.2)).1).map (lnR rules (rndA l facts ((opnF u.2.1 u.2.2.1 l 0).take g) (u.1, u.2.2.2)).1) = (urnd l rules facts u).2.2.2 := by
  rw [spec_A hg]; exact (congrArg (fun z => z.2) (uS_is hm hr hf h)).symm
theorem spec_s2 (hm : okMeths s l = true) (hr : okRules s rules = true) (hf : finF s facts) (h : uInv s u) (hg : ¬ g < (opnF u.2.1 u.2.2.1 l 0).length) (hi : ¬ i < (missF rules (rndA l facts ((opnF u.2.1 u.2.2.1 l 0).take g) (u.1, u.2.2.2)).1).length) :
    ((missF rules (rndA l facts ((opnF u.2.1 u.2.2.1 l 0).take g) (u.1, u.2.2.2)).1).take i).foldl addF (rndA l facts ((opnF u.2.1 u.2.2.1 l 0).take g) (u.1, u.2.2.2)).1 = (urnd l rules facts u).1 := by
  rw [List.take_of_length_le (Nat.le_of_not_lt hi), spec_A hg]; exact (congrArg (fun z => z.1) (uS_is hm hr hf h)).symm
theorem spec_s3 {X : List Fct} (e : X = (urnd l rules facts u).1) (hp : ¬ p < X.length) : (X.take p).foldl pvI u.2.1 = (urnd l rules facts u).2.1 := by
  rw [List.take_of_length_le (Nat.le_of_not_lt hp), e]; rfl
theorem spec_s4 (hg : ¬ g < (opnF u.2.1 u.2.2.1 l 0).length) : u.2.2.1 ++ (opnF u.2.1 u.2.2.1 l 0).take g = (urnd l rules facts u).2.2.1 := congrArg (u.2.2.1 ++ ·) (List.take_of_length_le (Nat.le_of_not_lt hg))
theorem lg_next (hm : okMeths s l = true) (h : uInv s (uIt l rules facts seeds n)) (hl : (uIt l rules facts seeds n).2.2.1.length ≤ 5000 * n) : (uIt l rules facts seeds (n + 1)).2.2.1.length ≤ 5000 * (n + 1) := by
  have h1 := (uO_le hm h).1
  have h2 : (uIt l rules facts seeds (n + 1)).2.2.1 = (uIt l rules facts seeds n).2.2.1 ++ uO l (uIt l rules facts seeds n) := rfl
  rw [h2, List.length_append]; omega
end
-- what is asked
def okUnd (s : List Int) (l : List Mth) (rules : List Rul) (facts : List Fct) : Bool := (okMeths s l && okRules s rules) && okFacts s facts
def reachU (s : List Int) (l : List Mth) (rules : List Rul) (facts : List Fct) (seeds : List Int) : List Fct := if okUnd s l rules facts then (uFin l rules facts seeds).1 else []
end Go.Proofs.YtonkkkjgdohooaaGreat
