import Derived.Test.YtdopeopehgdccaaGreatDy
namespace Go.Proofs.YtdopeopehgdccaaGreat
set_option linter.unusedVariables false
set_option linter.unusedSimpArgs false
abbrev Acs := Int × List Int
abbrev Rch := List Fct × List Int × List Acs × Int
def Q3 (l : List Mth) (d6 : List Fct) (a : Acs) : List Fct := d6.filter (u8 (atM l a.1) a.2)
def b4N (l : List Mth) (d6 : List Fct) (F : List Fct) (a : Acs) : List Fct := (Q3 l d6 a).foldl o4 F
/-- the values of a fact put to others, in two ways -/
def wvI (v : List Int) (f : Fct) : List Int := D4 ((v ++ f.2).filter fun t => inR t 0 9)
def pvI (v : List Int) (f : Fct) : List Int := f.2.foldl G2 v
def b5v (l : List Mth) (d6 : List Fct) (v : List Int) (a : Acs) : List Int := (Q3 l d6 a).foldl wvI v
def b4P (l : List Mth) (d6 : List Fct) (v : List Int) (a : Acs) : List Int := (Q3 l d6 a).foldl pvI v
def b4G (n : Nat) : Int := if 0 < n then 1 else 0
def a7u (l : List Mth) (r : Rch) : List Acs := d7 r.2.1 r.2.2.1 l 0
def b0V (l : List Mth) (d6 : List Fct) (r : Rch) : Rch :=
  ((a7u l r).foldl (b4N l d6) r.1, (a7u l r).foldl (b4P l d6) r.2.1, r.2.2.1 ++ a7u l r, r.2.2.2 + b4G (a7u l r).length)
-- order
theorem a3K {α : Type} {r : α → α → Bool} : ∀ {l : List α}, l.Pairwise (fun a b => r a b = true) → E0 r l = true
  | [], _ => rfl
  | [_], _ => rfl
  | a :: b :: l, h => by
    rw [List.pairwise_cons] at h
    rw [E0, h.1 b (by simp), a3K h.2]; rfl
theorem a5Z {α : Type} {r : α → α → Bool} (tr : ∀ a b c, r a b = true → r b c = true → r a c = true) : ∀ {l : List α}, E0 r l = true → l.Pairwise (fun a b => r a b = true)
  | [], _ => .nil
  | [_], _ => by simp
  | a :: b :: l, h => by
    simp only [E0, Bool.and_eq_true] at h
    have h2 := a5Z tr h.2
    rw [List.pairwise_cons]
    refine ⟨fun c hc => ?_, h2⟩
    rw [List.pairwise_cons] at h2
    rcases List.mem_cons.1 hc with rfl | hc
    · exact h.1
    · exact tr _ _ _ h.1 (h2.1 c hc)
theorem b2e {α : Type} {r : α → α → Bool} {f : α} (tr : ∀ a b c, r a b = true → r b c = true → r a c = true) : ∀ {l : List α}, l.Pairwise (fun a b => r a b = true) → (∀ y ∈ l, r f y = false → r y f = true) →
    (if (l.any (r f)) then H8 (r f) f l else l ++ [f]).Pairwise (fun a b => r a b = true) ∧ ∀ y, y ∈ (if (l.any (r f)) then H8 (r f) f l else l ++ [f]) → y ∈ l ∨ y = f := by
  intro l
  induction l with
  | nil => intro _ _; simp
  | cons z l ih =>
    intro h ht
    rw [List.pairwise_cons] at h
    have ih' := ih h.2 fun y hy => ht y (by simp [hy])
    cases hz : r f z
    · simp only [List.any_cons, hz, Bool.false_or, H8, Bool.false_eq_true, if_false]
      have e : (if (l.any (r f)) then z :: H8 (r f) f l else z :: l ++ [f]) = z :: (if (l.any (r f)) then H8 (r f) f l else l ++ [f]) := by split <;> simp
      rw [e]
      refine ⟨?_, fun y hy => ?_⟩
      · rw [List.pairwise_cons]
        refine ⟨fun y hy => ?_, ih'.1⟩
        rcases ih'.2 y hy with hy | rfl
        · exact h.1 y hy
        · exact ht z (by simp) hz
      · rcases List.mem_cons.1 hy with rfl | hy
        · simp
        · rcases ih'.2 y hy with hy | rfl
          · simp [hy]
          · simp
    · simp only [List.any_cons, hz, Bool.true_or, if_true, H8]
      refine ⟨?_, fun y hy => by simp only [List.mem_cons] at hy ⊢; rcases hy with h | h | h <;> simp [h]⟩
      rw [List.pairwise_cons, List.pairwise_cons]
      refine ⟨fun y hy => ?_, h⟩
      rcases List.mem_cons.1 hy with rfl | hy
      · exact hz
      · exact tr _ _ _ hz (h.1 y hy)
theorem b0N {a b c : Int} : K3 a b < 0 → K3 b c < 0 → K3 a c < 0 := by unfold K3; grind
theorem a0G {a b : Int} : K3 a b = 0 ↔ a = b := by unfold K3; grind
theorem b0J : ∀ {a b c : List Int}, E6 a b < 0 → E6 b c < 0 → E6 a c < 0
  | [], [], c, h, _ => by simp [E6] at h
  | [], _ :: _, [], _, h => by simp [E6] at h
  | [], _ :: _, _ :: _, _, _ => by simp [E6]
  | _ :: _, [], _, h, _ => by simp [E6] at h
  | _ :: _, _ :: _, [], _, h => by simp [E6] at h
  | x :: a, y :: b, z :: c, h1, h2 => by
    have h3 := b0J (a := a) (b := b) (c := c)
    have h4 := b0N (a := x) (b := y) (c := z)
    have h5 := a0G (a := x) (b := y)
    have h6 := a0G (a := y) (b := z)
    have h7 := a0G (a := x) (b := z)
    unfold E6 at h1 h2 ⊢; grind
theorem b3s {a b c : Fct} (h1 : J0 a b < 0) (h2 : J0 b c < 0) : J0 a c < 0 := by
  have h3 := b0J (a := a.2) (b := b.2) (c := c.2)
  have h4 := b0N (a := a.1) (b := b.1) (c := c.1)
  have h5 := a0G (a := a.1) (b := b.1)
  have h6 := a0G (a := b.1) (b := c.1)
  have h7 := a0G (a := a.1) (b := c.1)
  unfold J0 at h1 h2 ⊢; grind
abbrev a1j (l : List Fct) : Prop := l.Pairwise (fun a b => ltF a b = true)
theorem a9y {l : List Fct} {f : Fct} (h : a1j l) : a1j (o4 l f) := by
  cases hh : E5 l f
  · rw [o4, hh, P9, if_neg (by decide)]
    refine (b2e (fun a b c h1 h2 => ?_) h fun y hy hf => ?_).1
    · simp only [ltF, decide_eq_true_eq] at h1 h2 ⊢; exact b3s h1 h2
    · simp only [ltF, decide_eq_false_iff_not, decide_eq_true_eq] at hf ⊢
      have h1 := a9z (a := f) (b := y)
      rcases Int.lt_or_eq_of_le (show J0 y f ≤ 0 by omega) with h2 | h2
      · exact h2
      · rw [a3B] at h2
        subst h2
        rw [a2a.2 hy] at hh; cases hh
  · rw [a3e hh]; exact h
theorem a6n : ∀ {m x : List Fct}, a1j x → a1j (m.foldl o4 x)
  | [], _, h => h
  | f :: m, x, h => a6n (m := m) (a9y h)
theorem a7f {l : List Fct} (h : a1j l) : l.Nodup :=
  h.imp fun {a b} hab e => by subst e; simp [ltF, a3B.2 rfl] at hab
theorem a3j {v : List Int} (h : v.Pairwise (· < ·)) (h2 : ∀ x ∈ v, 0 ≤ x ∧ x ≤ 9) : O9 v = true := by
  rw [O9, a3K (h.imp fun {a b} hab => by simpa [ltB] using hab), a5c h2]; rfl
theorem a1a {v : List Int} (h : O9 v = true) : v.Pairwise (· < ·) ∧ ∀ x ∈ v, 0 ≤ x ∧ x ≤ 9 := by
  simp only [O9, Bool.and_eq_true] at h
  refine ⟨(a5Z (fun a b c h1 h2 => ?_) h.1).imp fun {a b} hab => by simpa [ltB] using hab, a4e h.2⟩
  simp only [ltB, decide_eq_true_eq] at h1 h2 ⊢; omega
-- values
theorem a6y {v : List Int} {f : Fct} (h : v.Pairwise (· < ·)) : (pvI v f).Pairwise (· < ·) ∧ ∀ y, y ∈ pvI v f ↔ y ∈ v ∨ y ∈ f.2 := a1t h
theorem b2Z {v : List Int} {f : Fct} (h : O9 v = true) (hf : ∀ x ∈ f.2, 0 ≤ x ∧ x ≤ 9) : wvI v f = pvI v f := by
  obtain ⟨h1, h2⟩ := a1a h
  have h3 := a6y (f := f) h1
  refine a5A a4d h3.1 fun x => ?_
  rw [wvI, a1i, List.mem_filter, h3.2 x, List.mem_append]
  refine ⟨fun h => h.1, fun h => ⟨h, ?_⟩⟩
  simp only [inR, decide_eq_true_eq]
  rcases h with h | h
  · exact h2 x h
  · exact hf x h
theorem b3Z {v : List Int} {f : Fct} (h : O9 v = true) (hf : ∀ x ∈ f.2, 0 ≤ x ∧ x ≤ 9) : O9 (pvI v f) = true := by
  obtain ⟨h1, h2⟩ := a1a h
  have h3 := a6y (f := f) h1
  refine a3j h3.1 fun x hx => ?_
  rcases (h3.2 x).1 hx with hx | hx
  · exact h2 x hx
  · exact hf x hx
theorem a9N {m : List Fct} : ∀ {v : List Int}, O9 v = true → (∀ f ∈ m, ∀ x ∈ f.2, 0 ≤ x ∧ x ≤ 9) → m.foldl wvI v = m.foldl pvI v ∧ O9 (m.foldl pvI v) = true := by
  induction m with
  | nil => intro v h _; exact ⟨rfl, h⟩
  | cons f m ih =>
    intro v h hf
    have h1 := hf f (by simp)
    have h2 := ih (b3Z h h1) fun f hm => hf f (by simp [hm])
    rw [List.foldl_cons, List.foldl_cons, b2Z h h1]
    exact h2
/-- the values within the loops: few -/
theorem b3L {v : List Int} {f : Fct} : (wvI v f).length ≤ 10 :=
  a0c (a3j a4d fun x hx => by
    simp only [wvI, a1i, List.mem_filter] at hx
    simpa [inR] using hx.2)
theorem b1a {m : List Fct} : ∀ {v : List Int}, v.length ≤ 10 → (m.foldl wvI v).length ≤ 10 := by
  induction m with
  | nil => intro v h; exact h
  | cons f m ih => intro v h; exact ih b3L
-- facts
-- the accesses
theorem a6J {f8 : List Int} : ∀ {t : Nat}, ∀ l ∈ j7 f8 t, ∀ x ∈ l, x ∈ f8
  | 0, l, h, x, hx => by simp [j7] at h; subst h; cases hx
  | t + 1, l, h, x, hx => by
    simp only [j7, List.mem_flatMap, List.mem_map] at h
    obtain ⟨y, hy, v, hv, rfl⟩ := h
    rcases List.mem_append.1 hx with hx | hx
    · exact a6J y hy x hx
    · obtain rfl := List.mem_singleton.1 hx; exact hv
theorem b1C {f8 : List Int} {log : List Acs} : ∀ {l : List Mth} {i : Int} {a : Acs}, a ∈ d7 f8 log l i → i ≤ a.1 ∧ ∃ h : (a.1 - i).toNat < l.length, a.2.length = l[(a.1 - i).toNat].2.1.length ∧ (∀ x ∈ a.2, x ∈ f8) ∧ L8 log a = false
  | [], _, a, h => by simp [d7] at h
  | m :: l, i, a, h => by
    simp only [d7, List.mem_append] at h
    rcases h with h | h
    · split at h
      · cases h
      · simp only [J2, List.mem_map, List.mem_filter] at h
        obtain ⟨v, ⟨hv, hn⟩, rfl⟩ := h
        refine ⟨Int.le_refl _, by simp, ?_, a6J v hv, by simpa using hn⟩
        simp only [Int.sub_self, Int.toNat_zero, List.getElem_cons_zero]
        exact G7 v hv
    · obtain ⟨h1, h2, h3, h4, h5⟩ := b1C (l := l) h
      have e : (a.1 - i).toNat = (a.1 - (i + 1)).toNat + 1 := by omega
      refine ⟨by omega, by simp only [List.length_cons]; omega, ?_, h4, h5⟩
      simp only [e, List.getElem_cons_succ]; exact h3
theorem a5F {f8 : List Int} {log : List Acs} {l : List Mth} {g : Nat} (hg : g < (d7 f8 log l 0).length) :
    (0 ≤ (d7 f8 log l 0)[g].1 ∧ (d7 f8 log l 0)[g].1.toNat < l.length) ∧ (d7 f8 log l 0)[g].2.length = (atM l (d7 f8 log l 0)[g].1).2.1.length := by
  obtain ⟨h1, h2, h3, _⟩ := b1C (List.getElem_mem hg)
  rw [Int.sub_zero] at h2
  simp only [Int.sub_zero] at h3
  exact ⟨⟨h1, h2⟩, by rw [a3Y h2]; exact h3⟩
-- a step of a state
def b2P (s : List Int) (l : List Mth) (d6 : List Fct) (r : Rch) : Bool := x8 s l && (H3 s d6 && (H3 s r.1 && (O9 r.2.1 && inR r.2.2.2 0 100)))
def b5t (s : List Int) (l : List Mth) (d6 : List Fct) (r : Rch) : Rch := if b2P s l d6 r then b0V l d6 r else r
def b5p (s : List Int) (l : List Mth) (d6 : List Fct) (r : Rch) : Bool := b2P s l d6 r && decide (0 < (a7u l r).length)
section
variable {l : List Mth} {d6 F : List Fct} {V : List Int} {A : List Acs} {N : Int} {g : Nat}
end
-- states that are reached
def a3P (l : List Mth) (d6 : List Fct) (j8 : List Int) : Nat → Rch
  | 0 => ([], D4 (j8.filter fun t => inR t 0 9), [], 0)
  | n + 1 => b0V l d6 (a3P l d6 j8 n)
/-- whether r comes up among so many steps from x on -/
def a9u (l : List Mth) (d6 : List Fct) (r : Rch) : Nat → Rch → Bool
  | 0, x => decide (x = r)
  | n + 1, x => decide (x = r) || (decide (0 < (a7u l x).length) && a9u l d6 r n (b0V l d6 x))
def b1q (s : List Int) (l : List Mth) (d6 : List Fct) (j8 : List Int) (r : Rch) : Bool := (x8 s l && H3 s d6) && a9u l d6 r 40 (a3P l d6 j8 0)
structure rInv (s : List Int) (l : List Mth) (d6 : List Fct) (n : Nat) (x : Rch) : Prop where
  asc : a1j x.1
  sub : ∀ f ∈ x.1, f ∈ d6
  flen : x.1.length ≤ 24
  fel : ∀ f ∈ x.1, f.2.length ≤ 3
  vals : O9 x.2.1 = true
  log : x.2.2.1.length ≤ 5000 * n
  loge : ∀ a ∈ x.2.2.1, a.2.length ≤ 3
  rounds : 0 ≤ x.2.2.2 ∧ x.2.2.2 ≤ n
def b5A (s : List Int) (l : List Mth) (d6 : List Fct) (j8 : List Int) (r : Rch) (g : Nat) : Prop :=
  b1q s l d6 j8 r = a9u l d6 r (40 - g) (a3P l d6 j8 g) ∧ rInv s l d6 g (a3P l d6 j8 g)
section
variable {s : List Int} {l : List Mth} {d6 : List Fct} {j8 : List Int} {r : Rch} {g : Nat}
def b5B (s : List Int) (l : List Mth) (d6 : List Fct) (j8 : List Int) (r : Rch) (g : Nat) : Prop :=
  (g ≤ 40 → b1q s l d6 j8 r = ((x8 s l && H3 s d6) && a9u l d6 r (40 - g) (a3P l d6 j8 g))) ∧ (40 < g → b1q s l d6 j8 r = false) ∧ (0 < g → x8 s l = true ∧ H3 s d6 = true) ∧ rInv s l d6 g (a3P l d6 j8 g)
end
end Go.Proofs.YtdopeopehgdccaaGreat
