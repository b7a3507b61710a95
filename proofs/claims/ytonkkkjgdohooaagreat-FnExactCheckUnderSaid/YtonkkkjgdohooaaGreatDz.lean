import Derived.Test.YtonkkkjgdohooaaGreatDy
namespace Go.Proofs.YtonkkkjgdohooaaGreat
set_option linter.unusedVariables false
set_option linter.unusedSimpArgs false
abbrev Acs := Int × List Int
abbrev Rch := List Fct × List Int × List Acs × Int
def mtcA (l : List Mth) (facts : List Fct) (a : Acs) : List Fct := facts.filter (fitsF (atM l a.1) a.2)
def tolF (l : List Mth) (facts : List Fct) (F : List Fct) (a : Acs) : List Fct := (mtcA l facts a).foldl addF F
/-- the values of a fact put to others, in two ways -/
def wvI (v : List Int) (f : Fct) : List Int := setI ((v ++ f.2).filter fun t => inR t 0 9)
def pvI (v : List Int) (f : Fct) : List Int := f.2.foldl putI v
def tolW (l : List Mth) (facts : List Fct) (v : List Int) (a : Acs) : List Int := (mtcA l facts a).foldl wvI v
def tolV (l : List Mth) (facts : List Fct) (v : List Int) (a : Acs) : List Int := (mtcA l facts a).foldl pvI v
def bitN (n : Nat) : Int := if 0 < n then 1 else 0
def rOpn (l : List Mth) (r : Rch) : List Acs := opnF r.2.1 r.2.2.1 l 0
def rstep (l : List Mth) (facts : List Fct) (r : Rch) : Rch :=
  ((rOpn l r).foldl (tolF l facts) r.1, (rOpn l r).foldl (tolV l facts) r.2.1, r.2.2.1 ++ rOpn l r, r.2.2.2 + bitN (rOpn l r).length)
-- order
theorem chain_of_pw {α : Type} {r : α → α → Bool} : ∀ {l : List α}, l.Pairwise (fun a b => r a b = true) → chainB r l = true
  | [], _ => rfl
  | [_], _ => rfl
  | a :: b :: l, h => by
    rw [List.pairwise_cons] at h
    rw [chainB, h.1 b (by simp), chain_of_pw h.2]; rfl
theorem pw_of_chain {α : Type} {r : α → α → Bool} (tr : ∀ a b c, r a b = true → r b c = true → r a c = true) : ∀ {l : List α}, chainB r l = true → l.Pairwise (fun a b => r a b = true)
  | [], _ => .nil
  | [_], _ => by simp
  | a :: b :: l, h => by
    simp only [chainB, Bool.and_eq_true] at h
    have h2 := pw_of_chain tr h.2
    rw [List.pairwise_cons]
    refine ⟨fun c hc => ?_, h2⟩
    rw [List.pairwise_cons] at h2
    rcases List.mem_cons.1 hc with rfl | hc
    · exact h.1
    · exact tr _ _ _ h.1 (h2.1 c hc)
theorem insQ_asc {α : Type} {r : α → α → Bool} {f : α} (tr : ∀ a b c, r a b = true → r b c = true → r a c = true) : ∀ {l : List α}, l.Pairwise (fun a b => r a b = true) → (∀ y ∈ l, r f y = false → r y f = true) →
    (if (l.any (r f)) then insQ (r f) f l else l ++ [f]).Pairwise (fun a b => r a b = true) ∧ ∀ y, y ∈ (if (l.any (r f)) then insQ (r f) f l else l ++ [f]) → y ∈ l ∨ y = f := by
  intro l
  induction l with
  | nil => intro _ _; simp
  | cons z l ih =>
    intro h ht
    rw [List.pairwise_cons] at h
    have ih' := ih h.2 fun y hy => ht y (by simp [hy])
    cases hz : r f z
    · simp only [List.any_cons, hz, Bool.false_or, insQ, Bool.false_eq_true, if_false]
      have e : (if (l.any (r f)) then z :: insQ (r f) f l else z :: l ++ [f]) = z :: (if (l.any (r f)) then insQ (r f) f l else l ++ [f]) := by split <;> simp
      rw [e]
      refine ⟨?_, fun y hy => ?_⟩
      · rw [List.pairwise_cons]
        refine ⟨fun y hy => ?_, ih'.1⟩
        rcases ih'.2 y hy with hy | rfl
        · exact h.1 y hy
        · exact ht z (by simp) hz
      · rcases List.mem_cons.1 hy with rfl | hy
        · simp
        · rcases ih'.2 y hy with hy | rfl
          · simp [hy]
          · simp
    · simp only [List.any_cons, hz, Bool.true_or, if_true, insQ]
      refine ⟨?_, fun y hy => by simp only [List.mem_cons] at hy ⊢; rcases hy with h | h | h <;> simp [h]⟩
      rw [List.pairwise_cons, List.pairwise_cons]
      refine ⟨fun y hy => ?_, h⟩
      rcases List.mem_cons.1 hy with rfl | hy
      · exact hz
      · exact tr _ _ _ hz (h.1 y hy)
theorem cmpI_tr {a b c : Int} : cmpI a b < 0 → cmpI b c < 0 → cmpI a c < 0 := by unfold cmpI; grind
theorem cmpI_zero' {a b : Int} : cmpI a b = 0 ↔ a = b := by unfold cmpI; grind
theorem cmpL_tr : ∀ {a b c : List Int}, cmpL a b < 0 → cmpL b c < 0 → cmpL a c < 0
  | [], [], c, h, _ => by simp [cmpL] at h
  | [], _ :: _, [], _, h => by simp [cmpL] at h
  | [], _ :: _, _ :: _, _, _ => by simp [cmpL]
  | _ :: _, [], _, h, _ => by simp [cmpL] at h
  | _ :: _, _ :: _, [], _, h => by simp [cmpL] at h
  | x :: a, y :: b, z :: c, h1, h2 => by
    have h3 := cmpL_tr (a := a) (b := b) (c := c)
    have h4 := cmpI_tr (a := x) (b := y) (c := z)
    have h5 := cmpI_zero' (a := x) (b := y)
    have h6 := cmpI_zero' (a := y) (b := z)
    have h7 := cmpI_zero' (a := x) (b := z)
    unfold cmpL at h1 h2 ⊢; grind
theorem cmpF_tr {a b c : Fct} (h1 : cmpF a b < 0) (h2 : cmpF b c < 0) : cmpF a c < 0 := by
  have h3 := cmpL_tr (a := a.2) (b := b.2) (c := c.2)
  have h4 := cmpI_tr (a := a.1) (b := b.1) (c := c.1)
  have h5 := cmpI_zero' (a := a.1) (b := b.1)
  have h6 := cmpI_zero' (a := b.1) (b := c.1)
  have h7 := cmpI_zero' (a := a.1) (b := c.1)
  unfold cmpF at h1 h2 ⊢; grind
abbrev ascF (l : List Fct) : Prop := l.Pairwise (fun a b => ltF a b = true)
theorem addF_asc {l : List Fct} {f : Fct} (h : ascF l) : ascF (addF l f) := by
  cases hh : hasF l f
  · rw [addF, hh, addP, if_neg (by decide)]
    refine (insQ_asc (fun a b c h1 h2 => ?_) h fun y hy hf => ?_).1
    · simp only [ltF, decide_eq_true_eq] at h1 h2 ⊢; exact cmpF_tr h1 h2
    · simp only [ltF, decide_eq_false_iff_not, decide_eq_true_eq] at hf ⊢
      have h1 := cmpF_neg (a := f) (b := y)
      rcases Int.lt_or_eq_of_le (show cmpF y f ≤ 0 by omega) with h2 | h2
      · exact h2
      · rw [cmpF_zero] at h2
        subst h2
        rw [hasF_mem.2 hy] at hh; cases hh
  · rw [addF_has hh]; exact h
theorem fold_asc : ∀ {m x : List Fct}, ascF x → ascF (m.foldl addF x)
  | [], _, h => h
  | f :: m, x, h => fold_asc (m := m) (addF_asc h)
theorem ascF_nodup {l : List Fct} (h : ascF l) : l.Nodup :=
  h.imp fun {a b} hab e => by subst e; simp [ltF, cmpF_zero.2 rfl] at hab
theorem ascI_okReach {v : List Int} (h : v.Pairwise (· < ·)) (h2 : ∀ x ∈ v, 0 ≤ x ∧ x ≤ 9) : okReach v = true := by
  rw [okReach, chain_of_pw (h.imp fun {a b} hab => by simpa [ltB] using hab), okVals_of h2]; rfl
theorem okReach_asc {v : List Int} (h : okReach v = true) : v.Pairwise (· < ·) ∧ ∀ x ∈ v, 0 ≤ x ∧ x ≤ 9 := by
  simp only [okReach, Bool.and_eq_true] at h
  refine ⟨(pw_of_chain (fun a b c h1 h2 => ?_) h.1).imp fun {a b} hab => by simpa [ltB] using hab, okVals_mem h.2⟩
  simp only [ltB, decide_eq_true_eq] at h1 h2 ⊢; omega
-- values
theorem pvI_spec {v : List Int} {f : Fct} (h : v.Pairwise (· < ·)) : (pvI v f).Pairwise (· < ·) ∧ ∀ y, y ∈ pvI v f ↔ y ∈ v ∨ y ∈ f.2 := setI_fold h
theorem wvI_pvI {v : List Int} {f : Fct} (h : okReach v = true) (hf : ∀ x ∈ f.2, 0 ≤ x ∧ x ≤ 9) : wvI v f = pvI v f := by
  obtain ⟨h1, h2⟩ := okReach_asc h
  have h3 := pvI_spec (f := f) h1
  refine asc_ext setI_asc h3.1 fun x => ?_
  rw [wvI, setI_mem, List.mem_filter, h3.2 x, List.mem_append]
  refine ⟨fun h => h.1, fun h => ⟨h, ?_⟩⟩
  simp only [inR, decide_eq_true_eq]
  rcases h with h | h
  · exact h2 x h
  · exact hf x h
theorem pvI_ok {v : List Int} {f : Fct} (h : okReach v = true) (hf : ∀ x ∈ f.2, 0 ≤ x ∧ x ≤ 9) : okReach (pvI v f) = true := by
  obtain ⟨h1, h2⟩ := okReach_asc h
  have h3 := pvI_spec (f := f) h1
  refine ascI_okReach h3.1 fun x hx => ?_
  rcases (h3.2 x).1 hx with hx | hx
  · exact h2 x hx
  · exact hf x hx
theorem pvfold {m : List Fct} : ∀ {v : List Int}, okReach v = true → (∀ f ∈ m, ∀ x ∈ f.2, 0 ≤ x ∧ x ≤ 9) → m.foldl wvI v = m.foldl pvI v ∧ okReach (m.foldl pvI v) = true := by
  induction m with
  | nil => intro v h _; exact ⟨rfl, h⟩
  | cons f m ih =>
    intro v h hf
    have h1 := hf f (by simp)
    have h2 := ih (pvI_ok h h1) fun f hm => hf f (by simp [hm])
    rw [List.foldl_cons, List.foldl_cons, wvI_pvI h h1]
    exact h2
/-- the values within the loops: few -/
theorem wv_len {v : List Int} {f : Fct} : (wvI v f).length ≤ 10 :=
  okReach_len (ascI_okReach setI_asc fun x hx => by
    simp only [wvI, setI_mem, List.mem_filter] at hx
    simpa [inR] using hx.2)
theorem wvfold_len {m : List Fct} : ∀ {v : List Int}, v.length ≤ 10 → (m.foldl wvI v).length ≤ 10 := by
  induction m with
  | nil => intro v h; exact h
  | cons f m ih => intro v h; exact ih wv_len
-- facts
-- the accesses
theorem listsF_all {values : List Int} : ∀ {t : Nat}, ∀ l ∈ listsF values t, ∀ x ∈ l, x ∈ values
  | 0, l, h, x, hx => by simp [listsF] at h; subst h; cases hx
  | t + 1, l, h, x, hx => by
    simp only [listsF, List.mem_flatMap, List.mem_map] at h
    obtain ⟨y, hy, v, hv, rfl⟩ := h
    rcases List.mem_append.1 hx with hx | hx
    · exact listsF_all y hy x hx
    · obtain rfl := List.mem_singleton.1 hx; exact hv
theorem opn_is {values : List Int} {log : List Acs} : ∀ {l : List Mth} {i : Int} {a : Acs}, a ∈ opnF values log l i → i ≤ a.1 ∧ ∃ h : (a.1 - i).toNat < l.length, a.2.length = l[(a.1 - i).toNat].2.1.length ∧ (∀ x ∈ a.2, x ∈ values) ∧ hasA log a = false
  | [], _, a, h => by simp [opnF] at h
  | m :: l, i, a, h => by
    simp only [opnF, List.mem_append] at h
    rcases h with h | h
    · split at h
      · cases h
      · simp only [opn1, List.mem_map, List.mem_filter] at h
        obtain ⟨v, ⟨hv, hn⟩, rfl⟩ := h
        refine ⟨Int.le_refl _, by simp, ?_, listsF_all v hv, by simpa using hn⟩
        simp only [Int.sub_self, Int.toNat_zero, List.getElem_cons_zero]
        exact lists_mem v hv
    · obtain ⟨h1, h2, h3, h4, h5⟩ := opn_is (l := l) h
      have e : (a.1 - i).toNat = (a.1 - (i + 1)).toNat + 1 := by omega
      refine ⟨by omega, by simp only [List.length_cons]; omega, ?_, h4, h5⟩
      simp only [e, List.getElem_cons_succ]; exact h3
theorem opn_get {values : List Int} {log : List Acs} {l : List Mth} {g : Nat} (hg : g < (opnF values log l 0).length) :
    (0 ≤ (opnF values log l 0)[g].1 ∧ (opnF values log l 0)[g].1.toNat < l.length) ∧ (opnF values log l 0)[g].2.length = (atM l (opnF values log l 0)[g].1).2.1.length := by
  obtain ⟨h1, h2, h3, _⟩ := opn_is (List.getElem_mem hg)
  rw [Int.sub_zero] at h2
  simp only [Int.sub_zero] at h3
  exact ⟨⟨h1, h2⟩, by rw [atM_get h2]; exact h3⟩
-- a step of a state
def stepB (s : List Int) (l : List Mth) (facts : List Fct) (r : Rch) : Bool := okMeths s l && (okFacts s facts && (okFacts s r.1 && (okReach r.2.1 && inR r.2.2.2 0 100)))
def stepR (s : List Int) (l : List Mth) (facts : List Fct) (r : Rch) : Rch := if stepB s l facts r then rstep l facts r else r
def stepM (s : List Int) (l : List Mth) (facts : List Fct) (r : Rch) : Bool := stepB s l facts r && decide (0 < (rOpn l r).length)
section
variable {l : List Mth} {facts F : List Fct} {V : List Int} {A : List Acs} {N : Int} {g : Nat}
end
-- states that are reached
def reachI (l : List Mth) (facts : List Fct) (seeds : List Int) : Nat → Rch
  | 0 => ([], setI (seeds.filter fun t => inR t 0 9), [], 0)
  | n + 1 => rstep l facts (reachI l facts seeds n)
/-- whether r comes up among so many steps from x on -/
def comes (l : List Mth) (facts : List Fct) (r : Rch) : Nat → Rch → Bool
  | 0, x => decide (x = r)
  | n + 1, x => decide (x = r) || (decide (0 < (rOpn l x).length) && comes l facts r n (rstep l facts x))
def isRch (s : List Int) (l : List Mth) (facts : List Fct) (seeds : List Int) (r : Rch) : Bool := (okMeths s l && okFacts s facts) && comes l facts r 40 (reachI l facts seeds 0)
structure rInv (s : List Int) (l : List Mth) (facts : List Fct) (n : Nat) (x : Rch) : Prop where
  asc : ascF x.1
  sub : ∀ f ∈ x.1, f ∈ facts
  flen : x.1.length ≤ 24
  fel : ∀ f ∈ x.1, f.2.length ≤ 3
  vals : okReach x.2.1 = true
  log : x.2.2.1.length ≤ 5000 * n
  loge : ∀ a ∈ x.2.2.1, a.2.length ≤ 3
  rounds : 0 ≤ x.2.2.2 ∧ x.2.2.2 ≤ n
def iInv (s : List Int) (l : List Mth) (facts : List Fct) (seeds : List Int) (r : Rch) (g : Nat) : Prop :=
  isRch s l facts seeds r = comes l facts r (40 - g) (reachI l facts seeds g) ∧ rInv s l facts g (reachI l facts seeds g)
section
variable {s : List Int} {l : List Mth} {facts : List Fct} {seeds : List Int} {r : Rch} {g : Nat}
def sInv (s : List Int) (l : List Mth) (facts : List Fct) (seeds : List Int) (r : Rch) (g : Nat) : Prop :=
  (g ≤ 40 → isRch s l facts seeds r = ((okMeths s l && okFacts s facts) && comes l facts r (40 - g) (reachI l facts seeds g))) ∧ (40 < g → isRch s l facts seeds r = false) ∧ (0 < g → okMeths s l = true ∧ okFacts s facts = true) ∧ rInv s l facts g (reachI l facts seeds g)
end
end Go.Proofs.YtonkkkjgdohooaaGreat
