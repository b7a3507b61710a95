import Derived.Test.YtdopeopehgdccaaGreatDy
namespace Go.Proofs.YtdopeopehgdccaaGreat
set_option linter.unusedVariables false
set_option linter.unusedSimpArgs false
abbrev Acs := Int × List Int
abbrev Rch := List Fct × List Int × List Acs × Int
def b7x (l : List Mth) (d7 : List Fct) (a : Acs) : List Fct := d7.filter (V5 (atM l a.1) a.2)
def c1G (l : List Mth) (d7 : List Fct) (F : List Fct) (a : Acs) : List Fct := (b7x l d7 a).foldl D4 F
def wvI (v : List Int) (f : Fct) : List Int := M8 ((v ++ f.2).filter fun t => inR t 0 9)
def pvI (v : List Int) (f : Fct) : List Int := f.2.foldl J8 v
def c2L (l : List Mth) (d7 : List Fct) (v : List Int) (a : Acs) : List Int := (b7x l d7 a).foldl wvI v
def c1E (l : List Mth) (d7 : List Fct) (v : List Int) (a : Acs) : List Int := (b7x l d7 a).foldl pvI v
def c1K (n : Nat) : Int := if 0 < n then 1 else 0
def b0S (l : List Mth) (r : Rch) : List Acs := Y2 r.2.1 r.2.2.1 l 0
def b5z (l : List Mth) (d7 : List Fct) (r : Rch) : Rch :=
 ((b0S l r).foldl (c1G l d7) r.1, (b0S l r).foldl (c1E l d7) r.2.1, r.2.2.1 ++ b0S l r, r.2.2.2 + c1K (b0S l r).length)
-- order
theorem a8H {α : Type} {r : α → α → Bool} (tr : ∀ a b c, r a b = true → r b c = true → r a c = true) : ∀ {l : List α}, G5 r l = true → l.Pairwise (fun a b => r a b = true)
 | [], _ => .nil
 | [_], _ => by simp
 | a :: b :: l, h => by
  simp only [G5, Bool.and_eq_true] at h
  have h2 := a8H tr h.2
  rw [List.pairwise_cons]
  refine ⟨fun c hc => ?_, h2⟩
  rw [List.pairwise_cons] at h2
  rcases List.mem_cons.1 hc with rfl | hc
  ·exact h.1
  ·exact tr _ _ _ h.1 (h2.1 c hc)
theorem b8a {α : Type} {r : α → α → Bool} {f : α} (tr : ∀ a b c, r a b = true → r b c = true → r a c = true) : ∀ {l : List α}, l.Pairwise (fun a b => r a b = true) → (∀ y ∈ l, r f y = false → r y f = true) →
  (if (l.any (r f)) then L9 (r f) f l else l ++ [f]).Pairwise (fun a b => r a b = true) ∧ ∀ y, y ∈ (if (l.any (r f)) then L9 (r f) f l else l ++ [f]) → y ∈ l ∨ y = f := by
 intro l
 induction l with
 | nil => intro _ _; simp
 | cons z l ih =>
  intro h ht
  rw [List.pairwise_cons] at h
  have ih' := ih h.2 fun y hy => ht y (by simp [hy])
  cases hz : r f z
  ·simp only [List.any_cons, hz, Bool.false_or, L9, Bool.false_eq_true, if_false]
   have e : (if (l.any (r f)) then z :: L9 (r f) f l else z :: l ++ [f]) = z :: (if (l.any (r f)) then L9 (r f) f l else l ++ [f]) := by split <;> simp
   rw [e]
   refine ⟨?_, fun y hy => ?_⟩
   ·rw [List.pairwise_cons]
    refine ⟨fun y hy => ?_, ih'.1⟩
    rcases ih'.2 y hy with hy | rfl
    ·exact h.1 y hy
    ·exact ht z (by simp) hz
   ·rcases List.mem_cons.1 hy with rfl | hy
    ·simp
    ·rcases ih'.2 y hy with hy | rfl
     ·simp [hy]
     ·simp
  ·simp only [List.any_cons, hz, Bool.true_or, if_true, L9]
   refine ⟨?_, fun y hy => by simp only [List.mem_cons] at hy ⊢; rcases hy with h | h | h <;> simp [h]⟩
   rw [List.pairwise_cons, List.pairwise_cons]
   refine ⟨fun y hy => ?_, h⟩
   rcases List.mem_cons.1 hy with rfl | hy
   ·exact hz
   ·exact tr _ _ _ hz (h.1 y hy)
theorem b5f {a b c : Int} : Q8 a b < 0 → Q8 b c < 0 → Q8 a c < 0 := by unfold Q8; grind
theorem a2A {a b : Int} : Q8 a b = 0 ↔ a = b := by unfold Q8; grind
theorem b4R : ∀ {a b c : List Int}, I1 a b < 0 → I1 b c < 0 → I1 a c < 0
 | [], [], c, h, _ => by simp [I1] at h
 | [], _ :: _, [], _, h => by simp [I1] at h
 | [], _ :: _, _ :: _, _, _ => by simp [I1]
 | _ :: _, [], _, h, _ => by simp [I1] at h
 | _ :: _, _ :: _, [], _, h => by simp [I1] at h
 | x :: a, y :: b, z :: c, h1, h2 => by
  have h3 := b4R (a := a) (b := b) (c := c)
  have h4 := b5f (a := x) (b := y) (c := z)
  have h5 := a2A (a := x) (b := y)
  have h6 := a2A (a := y) (b := z)
  have h7 := a2A (a := x) (b := z)
  unfold I1 at h1 h2 ⊢; grind
theorem b5d {a b c : Fct} (h1 : P7 a b < 0) (h2 : P7 b c < 0) : P7 a c < 0 := by
 have h3 := b4R (a := a.2) (b := b.2) (c := c.2)
 have h4 := b5f (a := a.1) (b := b.1) (c := c.1)
 have h5 := a2A (a := a.1) (b := b.1)
 have h6 := a2A (a := b.1) (b := c.1)
 have h7 := a2A (a := a.1) (b := c.1)
 unfold P7 at h1 h2 ⊢; grind
abbrev a2a (l : List Fct) : Prop := l.Pairwise (fun a b => ltF a b = true)
theorem b7s {l : List Fct} {f : Fct} (h : a2a l) : a2a (D4 l f) := by
 cases hh : M6 l f
 ·rw [D4, hh, W4, if_neg (by decide)]
  refine (b8a (fun a b c h1 h2 => ?_) h fun y hy hf => ?_).1
  ·simp only [ltF, decide_eq_true_eq] at h1 h2 ⊢; exact b5d h1 h2
  ·simp only [ltF, decide_eq_false_iff_not, decide_eq_true_eq] at hf ⊢
   have h1 := a8X (a := f) (b := y)
   rcases Int.lt_or_eq_of_le (show P7 y f ≤ 0 by omega) with h2 | h2
   ·exact h2
   ·rw [a4p] at h2
    subst h2
    rw [b2T.2 hy] at hh; cases hh
 ·rw [a4O hh]; exact h
theorem a9i : ∀ {m x : List Fct}, a2a x → a2a (m.foldl D4 x)
 | [], _, h => h
 | f :: m, x, h => a9i (m := m) (b7s h)
theorem a4B {l : List Fct} (h : a2a l) : l.Nodup :=
 h.imp fun {a b} hab e => by subst e; simp [ltF, a4p.2 rfl] at hab
-- values
-- facts
-- the accesses
-- a step of a state
def b8z (s : List Int) (l : List Mth) (d7 : List Fct) (r : Rch) : Bool := E2 s l && (F1 s d7 && (F1 s r.1 && (b1p r.2.1 && inR r.2.2.2 0 100)))
def c2z (s : List Int) (l : List Mth) (d7 : List Fct) (r : Rch) : Rch := if b8z s l d7 r then b5z l d7 r else r
def c2u (s : List Int) (l : List Mth) (d7 : List Fct) (r : Rch) : Bool := b8z s l d7 r && decide (0 < (b0S l r).length)
section
variable {l : List Mth} {d7 F : List Fct} {V : List Int} {A : List Acs} {N : Int} {g : Nat}
end
-- states that are reached
def a5O (l : List Mth) (d7 : List Fct) (U6 : List Int) : Nat → Rch
 | 0 => ([], M8 (U6.filter fun t => inR t 0 9), [], 0)
 | n + 1 => b5z l d7 (a5O l d7 U6 n)
def b2J (l : List Mth) (d7 : List Fct) (r : Rch) : Nat → Rch → Bool
 | 0, x => decide (x = r)
 | n + 1, x => decide (x = r) || (decide (0 < (b0S l x).length) && b2J l d7 r n (b5z l d7 x))
def b5Q (s : List Int) (l : List Mth) (d7 : List Fct) (U6 : List Int) (r : Rch) : Bool := (E2 s l && F1 s d7) && b2J l d7 r 40 (a5O l d7 U6 0)
structure rInv (s : List Int) (l : List Mth) (d7 : List Fct) (n : Nat) (x : Rch) : Prop where
 asc : a2a x.1
 sub : ∀ f ∈ x.1, f ∈ d7
 flen : x.1.length ≤ 24
 fel : ∀ f ∈ x.1, f.2.length ≤ 3
 a3k : b1p x.2.1 = true
 log : x.2.2.1.length ≤ 5000 * n
 loge : ∀ a ∈ x.2.2.1, a.2.length ≤ 3
 rounds : 0 ≤ x.2.2.2 ∧ x.2.2.2 ≤ n
def c2I (s : List Int) (l : List Mth) (d7 : List Fct) (U6 : List Int) (r : Rch) (g : Nat) : Prop :=
 b5Q s l d7 U6 r = b2J l d7 r (40 - g) (a5O l d7 U6 g) ∧ rInv s l d7 g (a5O l d7 U6 g)
section
variable {s : List Int} {l : List Mth} {d7 : List Fct} {U6 : List Int} {r : Rch} {g : Nat}
def c2P (s : List Int) (l : List Mth) (d7 : List Fct) (U6 : List Int) (r : Rch) (g : Nat) : Prop :=
 (g ≤ 40 → b5Q s l d7 U6 r = ((E2 s l && F1 s d7) && b2J l d7 r (40 - g) (a5O l d7 U6 g))) ∧ (40 < g → b5Q s l d7 U6 r = false) ∧ (0 < g → E2 s l = true ∧ F1 s d7 = true) ∧ rInv s l d7 g (a5O l d7 U6 g)
end
end Go.Proofs.YtdopeopehgdccaaGreat
