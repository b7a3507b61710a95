import Derived.Test.YtdopeopehgdccaaGreatDy
namespace Go.Proofs.YtdopeopehgdccaaGreat
set_option linter.unusedVariables false
set_option linter.unusedSimpArgs false
abbrev Acs := Int × List Int
abbrev Rch := List Fct × List Int × List Acs × Int
def b0w (l : List Mth) (d8 : List Fct) (a : Acs) : List Fct := d8.filter (z6 (atM l a.1) a.2)
def b2A (l : List Mth) (d8 : List Fct) (F : List Fct) (a : Acs) : List Fct := (b0w l d8 a).foldl y4 F
/-- the values of a fact put to others, in two ways -/
def wvI (v : List Int) (f : Fct) : List Int := L8 ((v ++ f.2).filter fun t => inR t 0 9)
def pvI (v : List Int) (f : Fct) : List Int := f.2.foldl D9 v
def b3C (l : List Mth) (d8 : List Fct) (v : List Int) (a : Acs) : List Int := (b0w l d8 a).foldl wvI v
def b2M (l : List Mth) (d8 : List Fct) (v : List Int) (a : Acs) : List Int := (b0w l d8 a).foldl pvI v
def b2I (n : Nat) : Int := if 0 < n then 1 else 0
def a5o (l : List Mth) (r : Rch) : List Acs := V6 r.2.1 r.2.2.1 l 0
def a8G (l : List Mth) (d8 : List Fct) (r : Rch) : Rch :=
  ((a5o l r).foldl (b2A l d8) r.1, (a5o l r).foldl (b2M l d8) r.2.1, r.2.2.1 ++ a5o l r, r.2.2.2 + b2I (a5o l r).length)
-- order
theorem a3F {α : Type} {r : α → α → Bool} (tr : ∀ a b c, r a b = true → r b c = true → r a c = true) : ∀ {l : List α}, D2 r l = true → l.Pairwise (fun a b => r a b = true)
  | [], _ => .nil
  | [_], _ => by simp
  | a :: b :: l, h => by
    simp only [D2, Bool.and_eq_true] at h
    have h2 := a3F tr h.2
    rw [List.pairwise_cons]
    refine ⟨fun c hc => ?_, h2⟩
    rw [List.pairwise_cons] at h2
    rcases List.mem_cons.1 hc with rfl | hc
    · exact h.1
    · exact tr _ _ _ h.1 (h2.1 c hc)
theorem a9O {α : Type} {r : α → α → Bool} {f : α} (tr : ∀ a b c, r a b = true → r b c = true → r a c = true) : ∀ {l : List α}, l.Pairwise (fun a b => r a b = true) → (∀ y ∈ l, r f y = false → r y f = true) →
    (if (l.any (r f)) then F2 (r f) f l else l ++ [f]).Pairwise (fun a b => r a b = true) ∧ ∀ y, y ∈ (if (l.any (r f)) then F2 (r f) f l else l ++ [f]) → y ∈ l ∨ y = f := by
  intro l
  induction l with
  | nil => intro _ _; simp
  | cons z l ih =>
    intro h ht
    rw [List.pairwise_cons] at h
    have ih' := ih h.2 fun y hy => ht y (by simp [hy])
    cases hz : r f z
    · simp only [List.any_cons, hz, Bool.false_or, F2, Bool.false_eq_true, if_false]
      have e : (if (l.any (r f)) then z :: F2 (r f) f l else z :: l ++ [f]) = z :: (if (l.any (r f)) then F2 (r f) f l else l ++ [f]) := by split <;> simp
      rw [e]
      refine ⟨?_, fun y hy => ?_⟩
      · rw [List.pairwise_cons]
        refine ⟨fun y hy => ?_, ih'.1⟩
        rcases ih'.2 y hy with hy | rfl
        · exact h.1 y hy
        · exact ht z (by simp) hz
      · rcases List.mem_cons.1 hy with rfl | hy
        · simp
        · rcases ih'.2 y hy with hy | rfl
          · simp [hy]
          · simp
    · simp only [List.any_cons, hz, Bool.true_or, if_true, F2]
      refine ⟨?_, fun y hy => by simp only [List.mem_cons] at hy ⊢; rcases hy with h | h | h <;> simp [h]⟩
      rw [List.pairwise_cons, List.pairwise_cons]
      refine ⟨fun y hy => ?_, h⟩
      rcases List.mem_cons.1 hy with rfl | hy
      · exact hz
      · exact tr _ _ _ hz (h.1 y hy)
theorem a8k {a b c : Int} : H4 a b < 0 → H4 b c < 0 → H4 a c < 0 := by unfold H4; grind
theorem a0g {a b : Int} : H4 a b = 0 ↔ a = b := by unfold H4; grind
theorem a8p : ∀ {a b c : List Int}, C6 a b < 0 → C6 b c < 0 → C6 a c < 0
  | [], [], c, h, _ => by simp [C6] at h
  | [], _ :: _, [], _, h => by simp [C6] at h
  | [], _ :: _, _ :: _, _, _ => by simp [C6]
  | _ :: _, [], _, h, _ => by simp [C6] at h
  | _ :: _, _ :: _, [], _, h => by simp [C6] at h
  | x :: a, y :: b, z :: c, h1, h2 => by
    have h3 := a8p (a := a) (b := b) (c := c)
    have h4 := a8k (a := x) (b := y) (c := z)
    have h5 := a0g (a := x) (b := y)
    have h6 := a0g (a := y) (b := z)
    have h7 := a0g (a := x) (b := z)
    unfold C6 at h1 h2 ⊢; grind
theorem a8x {a b c : Fct} (h1 : G8 a b < 0) (h2 : G8 b c < 0) : G8 a c < 0 := by
  have h3 := a8p (a := a.2) (b := b.2) (c := c.2)
  have h4 := a8k (a := a.1) (b := b.1) (c := c.1)
  have h5 := a0g (a := a.1) (b := b.1)
  have h6 := a0g (a := b.1) (b := c.1)
  have h7 := a0g (a := a.1) (b := c.1)
  unfold G8 at h1 h2 ⊢; grind
abbrev Z0 (l : List Fct) : Prop := l.Pairwise (fun a b => ltF a b = true)
theorem b0k {l : List Fct} {f : Fct} (h : Z0 l) : Z0 (y4 l f) := by
  cases hh : F1 l f
  · rw [y4, hh, M4, if_neg (by decide)]
    refine (a9O (fun a b c h1 h2 => ?_) h fun y hy hf => ?_).1
    · simp only [ltF, decide_eq_true_eq] at h1 h2 ⊢; exact a8x h1 h2
    · simp only [ltF, decide_eq_false_iff_not, decide_eq_true_eq] at hf ⊢
      have h1 := a4m (a := f) (b := y)
      rcases Int.lt_or_eq_of_le (show G8 y f ≤ 0 by omega) with h2 | h2
      · exact h2
      · rw [a0X] at h2
        subst h2
        rw [a7D.2 hy] at hh; cases hh
  · rw [a1j hh]; exact h
theorem a3O : ∀ {m x : List Fct}, Z0 x → Z0 (m.foldl y4 x)
  | [], _, h => h
  | f :: m, x, h => a3O (m := m) (b0k h)
theorem a0C {l : List Fct} (h : Z0 l) : l.Nodup :=
  h.imp fun {a b} hab e => by subst e; simp [ltF, a0X.2 rfl] at hab
-- values
-- facts
-- the accesses
-- a step of a state
def b0D (s : List Int) (l : List Mth) (d8 : List Fct) (r : Rch) : Bool := D6 s l && (C5 s d8 && (C5 s r.1 && (a5B r.2.1 && inR r.2.2.2 0 100)))
def b3h (s : List Int) (l : List Mth) (d8 : List Fct) (r : Rch) : Rch := if b0D s l d8 r then a8G l d8 r else r
def b3m (s : List Int) (l : List Mth) (d8 : List Fct) (r : Rch) : Bool := b0D s l d8 r && decide (0 < (a5o l r).length)
section
variable {l : List Mth} {d8 F : List Fct} {V : List Int} {A : List Acs} {N : Int} {g : Nat}
end
-- states that are reached
def a1V (l : List Mth) (d8 : List Fct) (J5 : List Int) : Nat → Rch
  | 0 => ([], L8 (J5.filter fun t => inR t 0 9), [], 0)
  | n + 1 => a8G l d8 (a1V l d8 J5 n)
/-- whether r comes up among so many steps from x on -/
def a6Z (l : List Mth) (d8 : List Fct) (r : Rch) : Nat → Rch → Bool
  | 0, x => decide (x = r)
  | n + 1, x => decide (x = r) || (decide (0 < (a5o l x).length) && a6Z l d8 r n (a8G l d8 x))
def a8W (s : List Int) (l : List Mth) (d8 : List Fct) (J5 : List Int) (r : Rch) : Bool := (D6 s l && C5 s d8) && a6Z l d8 r 40 (a1V l d8 J5 0)
structure rInv (s : List Int) (l : List Mth) (d8 : List Fct) (n : Nat) (x : Rch) : Prop where
  asc : Z0 x.1
  sub : ∀ f ∈ x.1, f ∈ d8
  flen : x.1.length ≤ 24
  fel : ∀ f ∈ x.1, f.2.length ≤ 3
  vals : a5B x.2.1 = true
  log : x.2.2.1.length ≤ 5000 * n
  loge : ∀ a ∈ x.2.2.1, a.2.length ≤ 3
  rounds : 0 ≤ x.2.2.2 ∧ x.2.2.2 ≤ n
def b3F (s : List Int) (l : List Mth) (d8 : List Fct) (J5 : List Int) (r : Rch) (g : Nat) : Prop :=
  a8W s l d8 J5 r = a6Z l d8 r (40 - g) (a1V l d8 J5 g) ∧ rInv s l d8 g (a1V l d8 J5 g)
section
variable {s : List Int} {l : List Mth} {d8 : List Fct} {J5 : List Int} {r : Rch} {g : Nat}
def b3y (s : List Int) (l : List Mth) (d8 : List Fct) (J5 : List Int) (r : Rch) (g : Nat) : Prop :=
  (g ≤ 40 → a8W s l d8 J5 r = ((D6 s l && C5 s d8) && a6Z l d8 r (40 - g) (a1V l d8 J5 g))) ∧ (40 < g → a8W s l d8 J5 r = false) ∧ (0 < g → D6 s l = true ∧ C5 s d8 = true) ∧ rInv s l d8 g (a1V l d8 J5 g)
end
end Go.Proofs.YtdopeopehgdccaaGreat
