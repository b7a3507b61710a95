import Derived.Test.YtdopeopehgdccaaGreatDy
namespace Go.Proofs.YtdopeopehgdccaaGreat
set_option linter.unusedVariables false
set_option linter.unusedSimpArgs false
abbrev Acs := Int × List Int
abbrev Rch := List Fct × List Int × List Acs × Int
def b3i (l : List Mth) (d8 : List Fct) (a : Acs) : List Fct := d8.filter (T0 (atM l a.1) a.2)
def c0p (l : List Mth) (d8 : List Fct) (F : List Fct) (a : Acs) : List Fct := (b3i l d8 a).foldl F0 F
def wvI (v : List Int) (f : Fct) : List Int := V4 ((v ++ f.2).filter fun t => inR t 0 9)
def pvI (v : List Int) (f : Fct) : List Int := f.2.foldl M4 v
def c1x (l : List Mth) (d8 : List Fct) (v : List Int) (a : Acs) : List Int := (b3i l d8 a).foldl wvI v
def c0l (l : List Mth) (d8 : List Fct) (v : List Int) (a : Acs) : List Int := (b3i l d8 a).foldl pvI v
def c0A (n : Nat) : Int := if 0 < n then 1 else 0
def b0y (l : List Mth) (r : Rch) : List Acs := a0d r.2.1 r.2.2.1 l 0
def b4A (l : List Mth) (d8 : List Fct) (r : Rch) : Rch :=
 ((b0y l r).foldl (c0p l d8) r.1, (b0y l r).foldl (c0l l d8) r.2.1, r.2.2.1 ++ b0y l r, r.2.2.2 + c0A (b0y l r).length)
-- order
theorem a8r {α : Type} {r : α → α → Bool} (tr : ∀ a b c, r a b = true → r b c = true → r a c = true) : ∀ {l : List α}, H6 r l = true → l.Pairwise (fun a b => r a b = true)
 | [], _ => .nil
 | [_], _ => by simp
 | a :: b :: l, h => by
  simp only [H6, Bool.and_eq_true] at h
  have h2 := a8r tr h.2
  rw [List.pairwise_cons]
  refine ⟨fun c hc => ?_, h2⟩
  rw [List.pairwise_cons] at h2
  rcases List.mem_cons.1 hc with rfl | hc
  ·exact h.1
  ·exact tr _ _ _ h.1 (h2.1 c hc)
theorem b6E {α : Type} {r : α → α → Bool} {f : α} (tr : ∀ a b c, r a b = true → r b c = true → r a c = true) : ∀ {l : List α}, l.Pairwise (fun a b => r a b = true) → (∀ y ∈ l, r f y = false → r y f = true) →
  (if (l.any (r f)) then O4 (r f) f l else l ++ [f]).Pairwise (fun a b => r a b = true) ∧ ∀ y, y ∈ (if (l.any (r f)) then O4 (r f) f l else l ++ [f]) → y ∈ l ∨ y = f := by
 intro l
 induction l with
 | nil => intro _ _; simp
 | cons z l ih =>
  intro h ht
  rw [List.pairwise_cons] at h
  have ih' := ih h.2 fun y hy => ht y (by simp [hy])
  cases hz : r f z
  ·simp only [List.any_cons, hz, Bool.false_or, O4, Bool.false_eq_true, if_false]
   have e : (if (l.any (r f)) then z :: O4 (r f) f l else z :: l ++ [f]) = z :: (if (l.any (r f)) then O4 (r f) f l else l ++ [f]) := by split <;> simp
   rw [e]
   refine ⟨?_, fun y hy => ?_⟩
   ·rw [List.pairwise_cons]
    refine ⟨fun y hy => ?_, ih'.1⟩
    rcases ih'.2 y hy with hy | rfl
    ·exact h.1 y hy
    ·exact ht z (by simp) hz
   ·rcases List.mem_cons.1 hy with rfl | hy
    ·simp
    ·rcases ih'.2 y hy with hy | rfl
     ·simp [hy]
     ·simp
  ·simp only [List.any_cons, hz, Bool.true_or, if_true, O4]
   refine ⟨?_, fun y hy => by simp only [List.mem_cons] at hy ⊢; rcases hy with h | h | h <;> simp [h]⟩
   rw [List.pairwise_cons, List.pairwise_cons]
   refine ⟨fun y hy => ?_, h⟩
   rcases List.mem_cons.1 hy with rfl | hy
   ·exact hz
   ·exact tr _ _ _ hz (h.1 y hy)
theorem b4m {a b c : Int} : S1 a b < 0 → S1 b c < 0 → S1 a c < 0 := by unfold S1; grind
theorem a2D {a b : Int} : S1 a b = 0 ↔ a = b := by unfold S1; grind
theorem b4e : ∀ {a b c : List Int}, I2 a b < 0 → I2 b c < 0 → I2 a c < 0
 | [], [], c, h, _ => by simp [I2] at h
 | [], _ :: _, [], _, h => by simp [I2] at h
 | [], _ :: _, _ :: _, _, _ => by simp [I2]
 | _ :: _, [], _, h, _ => by simp [I2] at h
 | _ :: _, _ :: _, [], _, h => by simp [I2] at h
 | x :: a, y :: b, z :: c, h1, h2 => by
  have h3 := b4e (a := a) (b := b) (c := c)
  have h4 := b4m (a := x) (b := y) (c := z)
  have h5 := a2D (a := x) (b := y)
  have h6 := a2D (a := y) (b := z)
  have h7 := a2D (a := x) (b := z)
  unfold I2 at h1 h2 ⊢; grind
theorem b3N {a b c : Fct} (h1 : R4 a b < 0) (h2 : R4 b c < 0) : R4 a c < 0 := by
 have h3 := b4e (a := a.2) (b := b.2) (c := c.2)
 have h4 := b4m (a := a.1) (b := b.1) (c := c.1)
 have h5 := a2D (a := a.1) (b := b.1)
 have h6 := a2D (a := b.1) (b := c.1)
 have h7 := a2D (a := a.1) (b := c.1)
 unfold R4 at h1 h2 ⊢; grind
abbrev a2r (l : List Fct) : Prop := l.Pairwise (fun a b => ltF a b = true)
theorem b6F {l : List Fct} {f : Fct} (h : a2r l) : a2r (F0 l f) := by
 cases hh : K6 l f
 ·rw [F0, hh, X5, if_neg (by decide)]
  refine (b6E (fun a b c h1 h2 => ?_) h fun y hy hf => ?_).1
  ·simp only [ltF, decide_eq_true_eq] at h1 h2 ⊢; exact b3N h1 h2
  ·simp only [ltF, decide_eq_false_iff_not, decide_eq_true_eq] at hf ⊢
   have h1 := a8R (a := f) (b := y)
   rcases Int.lt_or_eq_of_le (show R4 y f ≤ 0 by omega) with h2 | h2
   ·exact h2
   ·rw [a4e] at h2
    subst h2
    rw [a8E.2 hy] at hh; cases hh
 ·rw [a4z hh]; exact h
theorem a8S : ∀ {m x : List Fct}, a2r x → a2r (m.foldl F0 x)
 | [], _, h => h
 | f :: m, x, h => a8S (m := m) (b6F h)
theorem a3p {l : List Fct} (h : a2r l) : l.Nodup :=
 h.imp fun {a b} hab e => by subst e; simp [ltF, a4e.2 rfl] at hab
-- values
-- facts
-- the accesses
-- a step of a state
def b7c (s : List Int) (l : List Mth) (d8 : List Fct) (r : Rch) : Bool := G9 s l && (F2 s d8 && (F2 s r.1 && (a7N r.2.1 && inR r.2.2.2 0 100)))
def c1s (s : List Int) (l : List Mth) (d8 : List Fct) (r : Rch) : Rch := if b7c s l d8 r then b4A l d8 r else r
def c1k (s : List Int) (l : List Mth) (d8 : List Fct) (r : Rch) : Bool := b7c s l d8 r && decide (0 < (b0y l r).length)
section
variable {l : List Mth} {d8 F : List Fct} {V : List Int} {A : List Acs} {N : Int} {g : Nat}
end
-- states that are reached
def a5z (l : List Mth) (d8 : List Fct) (M3 : List Int) : Nat → Rch
 | 0 => ([], V4 (M3.filter fun t => inR t 0 9), [], 0)
 | n + 1 => b4A l d8 (a5z l d8 M3 n)
def b1Y (l : List Mth) (d8 : List Fct) (r : Rch) : Nat → Rch → Bool
 | 0, x => decide (x = r)
 | n + 1, x => decide (x = r) || (decide (0 < (b0y l x).length) && b1Y l d8 r n (b4A l d8 x))
def b4K (s : List Int) (l : List Mth) (d8 : List Fct) (M3 : List Int) (r : Rch) : Bool := (G9 s l && F2 s d8) && b1Y l d8 r 40 (a5z l d8 M3 0)
structure rInv (s : List Int) (l : List Mth) (d8 : List Fct) (n : Nat) (x : Rch) : Prop where
 asc : a2r x.1
 sub : ∀ f ∈ x.1, f ∈ d8
 flen : x.1.length ≤ 24
 fel : ∀ f ∈ x.1, f.2.length ≤ 3
 a2W : a7N x.2.1 = true
 log : x.2.2.1.length ≤ 5000 * n
 loge : ∀ a ∈ x.2.2.1, a.2.length ≤ 3
 rounds : 0 ≤ x.2.2.2 ∧ x.2.2.2 ≤ n
def c1H (s : List Int) (l : List Mth) (d8 : List Fct) (M3 : List Int) (r : Rch) (g : Nat) : Prop :=
 b4K s l d8 M3 r = b1Y l d8 r (40 - g) (a5z l d8 M3 g) ∧ rInv s l d8 g (a5z l d8 M3 g)
section
variable {s : List Int} {l : List Mth} {d8 : List Fct} {M3 : List Int} {r : Rch} {g : Nat}
def c1v (s : List Int) (l : List Mth) (d8 : List Fct) (M3 : List Int) (r : Rch) (g : Nat) : Prop :=
 (g ≤ 40 → b4K s l d8 M3 r = ((G9 s l && F2 s d8) && b1Y l d8 r (40 - g) (a5z l d8 M3 g))) ∧ (40 < g → b4K s l d8 M3 r = false) ∧ (0 < g → G9 s l = true ∧ F2 s d8 = true) ∧ rInv s l d8 g (a5z l d8 M3 g)
end
end Go.Proofs.YtdopeopehgdccaaGreat
