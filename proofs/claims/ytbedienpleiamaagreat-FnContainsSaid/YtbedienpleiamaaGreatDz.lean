import Derived.Test.YtbedienpleiamaaGreatDy
namespace Go.Proofs.YtbedienpleiamaaGreat
set_option linter.unusedVariables false
set_option linter.unusedSimpArgs false
abbrev Acs := Int × List Int
abbrev Rch := List Fct × List Int × List Acs × Int
def a6s (l : List Mth) (f0 : List Fct) (a : Acs) : List Fct := f0.filter (a9W (atM l a.1) a.2)
def b2Z (l : List Mth) (f0 : List Fct) (F : List Fct) (a : Acs) : List Fct := (a6s l f0 a).foldl D1 F
def wvI (v : List Int) (f : Fct) : List Int := G6 ((v ++ f.2).filter fun t => inR t 0 9)
def pvI (v : List Int) (f : Fct) : List Int := f.2.foldl K8 v
def b4a (l : List Mth) (f0 : List Fct) (v : List Int) (a : Acs) : List Int := (a6s l f0 a).foldl wvI v
def b2H (l : List Mth) (f0 : List Fct) (v : List Int) (a : Acs) : List Int := (a6s l f0 a).foldl pvI v
def b2y (n : Nat) : Int := if 0 < n then 1 else 0
def a4W (l : List Mth) (r : Rch) : List Acs := S7 r.2.1 r.2.2.1 l 0
def a8d (l : List Mth) (f0 : List Fct) (r : Rch) : Rch :=
 ((a4W l r).foldl (b2Z l f0) r.1, (a4W l r).foldl (b2H l f0) r.2.1, r.2.2.1 ++ a4W l r, r.2.2.2 + b2y (a4W l r).length)
-- order
abbrev b2w (l : List Fct) : Prop := l.Pairwise (fun a b => ltF a b = true)
-- values
-- facts
-- the accesses
-- a step of a state
def a9Q (s : List Int) (l : List Mth) (f0 : List Fct) (r : Rch) : Bool := Y8 s l && (J6 s f0 && (J6 s r.1 && (a3F r.2.1 && inR r.2.2.2 0 100)))
def b3L (s : List Int) (l : List Mth) (f0 : List Fct) (r : Rch) : Rch := if a9Q s l f0 r then a8d l f0 r else r
def b3I (s : List Int) (l : List Mth) (f0 : List Fct) (r : Rch) : Bool := a9Q s l f0 r && decide (0 < (a4W l r).length)
section
variable {l : List Mth} {f0 F : List Fct} {V : List Int} {A : List Acs} {N : Int} {g : Nat}
end
-- states that are reached
def a2d (l : List Mth) (f0 : List Fct) (F6 : List Int) : Nat → Rch
 | 0 => ([], G6 (F6.filter fun t => inR t 0 9), [], 0)
 | n + 1 => a8d l f0 (a2d l f0 F6 n)
def a6g (l : List Mth) (f0 : List Fct) (r : Rch) : Nat → Rch → Bool
 | 0, x => decide (x = r)
 | n + 1, x => decide (x = r) || (decide (0 < (a4W l x).length) && a6g l f0 r n (a8d l f0 x))
def a7Y (s : List Int) (l : List Mth) (f0 : List Fct) (F6 : List Int) (r : Rch) : Bool := (Y8 s l && J6 s f0) && a6g l f0 r 40 (a2d l f0 F6 0)
structure rInv (s : List Int) (l : List Mth) (f0 : List Fct) (n : Nat) (x : Rch) : Prop where
 asc : b2w x.1
 sub : ∀ f ∈ x.1, f ∈ f0
 flen : x.1.length ≤ 24
 fel : ∀ f ∈ x.1, f.2.length ≤ 3
 Y1 : a3F x.2.1 = true
 log : x.2.2.1.length ≤ 5000 * n
 loge : ∀ a ∈ x.2.2.1, a.2.length ≤ 3
 rounds : 0 ≤ x.2.2.2 ∧ x.2.2.2 ≤ n
def b4b (s : List Int) (l : List Mth) (f0 : List Fct) (F6 : List Int) (r : Rch) (g : Nat) : Prop :=
 a7Y s l f0 F6 r = a6g l f0 r (40 - g) (a2d l f0 F6 g) ∧ rInv s l f0 g (a2d l f0 F6 g)
section
variable {s : List Int} {l : List Mth} {f0 : List Fct} {F6 : List Int} {r : Rch} {g : Nat}
def b3V (s : List Int) (l : List Mth) (f0 : List Fct) (F6 : List Int) (r : Rch) (g : Nat) : Prop :=
 (g ≤ 40 → a7Y s l f0 F6 r = ((Y8 s l && J6 s f0) && a6g l f0 r (40 - g) (a2d l f0 F6 g))) ∧ (40 < g → a7Y s l f0 F6 r = false) ∧ (0 < g → Y8 s l = true ∧ J6 s f0 = true) ∧ rInv s l f0 g (a2d l f0 F6 g)
end
end Go.Proofs.YtbedienpleiamaaGreat
