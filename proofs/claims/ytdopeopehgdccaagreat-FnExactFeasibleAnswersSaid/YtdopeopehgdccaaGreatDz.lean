import Derived.Test.YtdopeopehgdccaaGreatDy
namespace Go.Proofs.YtdopeopehgdccaaGreat
set_option linter.unusedVariables false
set_option linter.unusedSimpArgs false
abbrev Acs := Int × List Int
abbrev Rch := List Fct × List Int × List Acs × Int
def b2X (l : List Mth) (d8 : List Fct) (a : Acs) : List Fct := d8.filter (N8 (atM l a.1) a.2)
def b6A (l : List Mth) (d8 : List Fct) (F : List Fct) (a : Acs) : List Fct := (b2X l d8 a).foldl x6 F
/-- the values of a fact put to others, in two ways -/
def wvI (v : List Int) (f : Fct) : List Int := G9 ((v ++ f.2).filter fun t => inR t 0 9)
def pvI (v : List Int) (f : Fct) : List Int := f.2.foldl F2 v
def b7r (l : List Mth) (d8 : List Fct) (v : List Int) (a : Acs) : List Int := (b2X l d8 a).foldl wvI v
def b6D (l : List Mth) (d8 : List Fct) (v : List Int) (a : Acs) : List Int := (b2X l d8 a).foldl pvI v
def b6E (n : Nat) : Int := if 0 < n then 1 else 0
def a8h (l : List Mth) (r : Rch) : List Acs := U8 r.2.1 r.2.2.1 l 0
def b1Q (l : List Mth) (d8 : List Fct) (r : Rch) : Rch :=
  ((a8h l r).foldl (b6A l d8) r.1, (a8h l r).foldl (b6D l d8) r.2.1, r.2.2.1 ++ a8h l r, r.2.2.2 + b6E (a8h l r).length)
-- order
theorem a5S {α : Type} {r : α → α → Bool} (tr : ∀ a b c, r a b = true → r b c = true → r a c = true) : ∀ {l : List α}, E0 r l = true → l.Pairwise (fun a b => r a b = true)
  | [], _ => .nil
  | [_], _ => by simp
  | a :: b :: l, h => by
    simp only [E0, Bool.and_eq_true] at h
    have h2 := a5S tr h.2
    rw [List.pairwise_cons]
    refine ⟨fun c hc => ?_, h2⟩
    rw [List.pairwise_cons] at h2
    rcases List.mem_cons.1 hc with rfl | hc
    · exact h.1
    · exact tr _ _ _ h.1 (h2.1 c hc)
theorem b2W {α : Type} {r : α → α → Bool} {f : α} (tr : ∀ a b c, r a b = true → r b c = true → r a c = true) : ∀ {l : List α}, l.Pairwise (fun a b => r a b = true) → (∀ y ∈ l, r f y = false → r y f = true) →
    (if (l.any (r f)) then G4 (r f) f l else l ++ [f]).Pairwise (fun a b => r a b = true) ∧ ∀ y, y ∈ (if (l.any (r f)) then G4 (r f) f l else l ++ [f]) → y ∈ l ∨ y = f := by
  intro l
  induction l with
  | nil => intro _ _; simp
  | cons z l ih =>
    intro h ht
    rw [List.pairwise_cons] at h
    have ih' := ih h.2 fun y hy => ht y (by simp [hy])
    cases hz : r f z
    · simp only [List.any_cons, hz, Bool.false_or, G4, Bool.false_eq_true, if_false]
      have e : (if (l.any (r f)) then z :: G4 (r f) f l else z :: l ++ [f]) = z :: (if (l.any (r f)) then G4 (r f) f l else l ++ [f]) := by split <;> simp
      rw [e]
      refine ⟨?_, fun y hy => ?_⟩
      · rw [List.pairwise_cons]
        refine ⟨fun y hy => ?_, ih'.1⟩
        rcases ih'.2 y hy with hy | rfl
        · exact h.1 y hy
        · exact ht z (by simp) hz
      · rcases List.mem_cons.1 hy with rfl | hy
        · simp
        · rcases ih'.2 y hy with hy | rfl
          · simp [hy]
          · simp
    · simp only [List.any_cons, hz, Bool.true_or, if_true, G4]
      refine ⟨?_, fun y hy => by simp only [List.mem_cons] at hy ⊢; rcases hy with h | h | h <;> simp [h]⟩
      rw [List.pairwise_cons, List.pairwise_cons]
      refine ⟨fun y hy => ?_, h⟩
      rcases List.mem_cons.1 hy with rfl | hy
      · exact hz
      · exact tr _ _ _ hz (h.1 y hy)
theorem b1b {a b c : Int} : J6 a b < 0 → J6 b c < 0 → J6 a c < 0 := by unfold J6; grind
theorem a0O {a b : Int} : J6 a b = 0 ↔ a = b := by unfold J6; grind
theorem b1j : ∀ {a b c : List Int}, E1 a b < 0 → E1 b c < 0 → E1 a c < 0
  | [], [], c, h, _ => by simp [E1] at h
  | [], _ :: _, [], _, h => by simp [E1] at h
  | [], _ :: _, _ :: _, _, _ => by simp [E1]
  | _ :: _, [], _, h, _ => by simp [E1] at h
  | _ :: _, _ :: _, [], _, h => by simp [E1] at h
  | x :: a, y :: b, z :: c, h1, h2 => by
    have h3 := b1j (a := a) (b := b) (c := c)
    have h4 := b1b (a := x) (b := y) (c := z)
    have h5 := a0O (a := x) (b := y)
    have h6 := a0O (a := y) (b := z)
    have h7 := a0O (a := x) (b := z)
    unfold E1 at h1 h2 ⊢; grind
theorem b1q {a b c : Fct} (h1 : I9 a b < 0) (h2 : I9 b c < 0) : I9 a c < 0 := by
  have h3 := b1j (a := a.2) (b := b.2) (c := c.2)
  have h4 := b1b (a := a.1) (b := b.1) (c := c.1)
  have h5 := a0O (a := a.1) (b := b.1)
  have h6 := a0O (a := b.1) (b := c.1)
  have h7 := a0O (a := a.1) (b := c.1)
  unfold I9 at h1 h2 ⊢; grind
abbrev a0q (l : List Fct) : Prop := l.Pairwise (fun a b => ltF a b = true)
theorem b3N {l : List Fct} {f : Fct} (h : a0q l) : a0q (x6 l f) := by
  cases hh : G6 l f
  · rw [x6, hh, O9, if_neg (by decide)]
    refine (b2W (fun a b c h1 h2 => ?_) h fun y hy hf => ?_).1
    · simp only [ltF, decide_eq_true_eq] at h1 h2 ⊢; exact b1q h1 h2
    · simp only [ltF, decide_eq_false_iff_not, decide_eq_true_eq] at hf ⊢
      have h1 := a6y (a := f) (b := y)
      rcases Int.lt_or_eq_of_le (show I9 y f ≤ 0 by omega) with h2 | h2
      · exact h2
      · rw [a2n] at h2
        subst h2
        rw [b0I.2 hy] at hh; cases hh
  · rw [a2D hh]; exact h
theorem a5V : ∀ {m x : List Fct}, a0q x → a0q (m.foldl x6 x)
  | [], _, h => h
  | f :: m, x, h => a5V (m := m) (b3N h)
theorem a2y {l : List Fct} (h : a0q l) : l.Nodup :=
  h.imp fun {a b} hab e => by subst e; simp [ltF, a2n.2 rfl] at hab
-- values
-- facts
-- the accesses
-- a step of a state
def b3U (s : List Int) (l : List Mth) (d8 : List Fct) (r : Rch) : Bool := B3 s l && (B7 s d8 && (B7 s r.1 && (a8e r.2.1 && inR r.2.2.2 0 100)))
def b7g (s : List Int) (l : List Mth) (d8 : List Fct) (r : Rch) : Rch := if b3U s l d8 r then b1Q l d8 r else r
def b7h (s : List Int) (l : List Mth) (d8 : List Fct) (r : Rch) : Bool := b3U s l d8 r && decide (0 < (a8h l r).length)
section
variable {l : List Mth} {d8 F : List Fct} {V : List Int} {A : List Acs} {N : Int} {g : Nat}
end
-- states that are reached
def a3A (l : List Mth) (d8 : List Fct) (N4 : List Int) : Nat → Rch
  | 0 => ([], G9 (N4.filter fun t => inR t 0 9), [], 0)
  | n + 1 => b1Q l d8 (a3A l d8 N4 n)
/-- whether r comes up among so many steps from x on -/
def a9x (l : List Mth) (d8 : List Fct) (r : Rch) : Nat → Rch → Bool
  | 0, x => decide (x = r)
  | n + 1, x => decide (x = r) || (decide (0 < (a8h l x).length) && a9x l d8 r n (b1Q l d8 x))
def b1C (s : List Int) (l : List Mth) (d8 : List Fct) (N4 : List Int) (r : Rch) : Bool := (B3 s l && B7 s d8) && a9x l d8 r 40 (a3A l d8 N4 0)
structure rInv (s : List Int) (l : List Mth) (d8 : List Fct) (n : Nat) (x : Rch) : Prop where
  asc : a0q x.1
  sub : ∀ f ∈ x.1, f ∈ d8
  flen : x.1.length ≤ 24
  fel : ∀ f ∈ x.1, f.2.length ≤ 3
  vals : a8e x.2.1 = true
  log : x.2.2.1.length ≤ 5000 * n
  loge : ∀ a ∈ x.2.2.1, a.2.length ≤ 3
  rounds : 0 ≤ x.2.2.2 ∧ x.2.2.2 ≤ n
def b7u (s : List Int) (l : List Mth) (d8 : List Fct) (N4 : List Int) (r : Rch) (g : Nat) : Prop :=
  b1C s l d8 N4 r = a9x l d8 r (40 - g) (a3A l d8 N4 g) ∧ rInv s l d8 g (a3A l d8 N4 g)
section
variable {s : List Int} {l : List Mth} {d8 : List Fct} {N4 : List Int} {r : Rch} {g : Nat}
def b7q (s : List Int) (l : List Mth) (d8 : List Fct) (N4 : List Int) (r : Rch) (g : Nat) : Prop :=
  (g ≤ 40 → b1C s l d8 N4 r = ((B3 s l && B7 s d8) && a9x l d8 r (40 - g) (a3A l d8 N4 g))) ∧ (40 < g → b1C s l d8 N4 r = false) ∧ (0 < g → B3 s l = true ∧ B7 s d8 = true) ∧ rInv s l d8 g (a3A l d8 N4 g)
end
end Go.Proofs.YtdopeopehgdccaaGreat
