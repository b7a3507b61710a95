import Derived.Test.YtdopeopehgdccaaDx
namespace Go.Proofs.Ytdopeopehgdccaa
set_option linter.unusedVariables false
set_option linter.unusedSimpArgs false
abbrev Mth := Int × List Int × Int × Int × Int
abbrev Fct := Int × List Int
abbrev Lin := Int × (Int × List Int) × Int × List Int
abbrev Rul := Int × Int × List Int
def atM (l : List Mth) (i : Int) : Mth := l.getD i.toNat (0, [], 0, 0, 0)
def atR (l : List Rul) (i : Int) : Rul := l.getD i.toNat (0, 0, [])
def a3m (s : List Int) (l : List Mth) (a : Int × List Int) : Bool := U8 s l && (inR a.1 0 ((l.length : Int) - 1) && (decide (a.2.length = (atM l a.1).2.1.length) && w5 a.2))
def a3Z (r : Rul) (f x : Fct) : Bool := decide (x.1 = r.1) && decide (r6 (r.2.1, f7 r.2.2 x.2) f = 0)
def a3a (a8 : List Fct) (f : Fct) (r : Rul) : Bool := a8.any (a3Z r f)
def a4y (a7 : List Rul) (a8 : List Fct) (f : Fct) : Int := H3 (a3a a8 f) a7
def a2A (D2 : List Int) (before : List Lin) (v : Int) : Bool := Q3 D2 v || before.any (fun y => Q3 y.2.2.2 v)
def a3W (s : List Int) (r : Rul) (x y : Fct) : Bool := a1H s r y && decide (r6 (a3Y s r y, a3S s r y) x = 0)
def a2S (s : List Int) (l : List Mth) (a8 : List Fct) (kn : Int → Bool) (x : Lin) : Bool :=
  a3m s l x.2.1 && (decide ((atM l x.2.1.1).2.2.1 = 0) && ((!x.2.1.2.any (fun v => !kn v)) && v5 (a8.filter (a3p (atM l x.2.1.1) x.2.1.2)) x.2.2))
def a2T (s : List Int) (a7 : List Rul) (gv : Bool) (x : Lin) : Bool := inR x.1 0 ((a7.length : Int) - 1) && (j5 s x.2.2 && gv)
def a2D (s : List Int) (l : List Mth) (a7 : List Rul) (a8 : List Fct) (D2 : List Int) (before : List Lin) (x : Lin) : Bool :=
  if x.1 = -1 then a2S s l a8 (a2A D2 before) x else a2T s a7 (before.any fun y => a3W s (atR a7 x.1) x.2.2 y.2.2) x
def a1L : Lin := (0, (0, []), 0, [])
/-- all lines from g on hold behind those ahead of them -/
def a2M (s : List Int) (l : List Mth) (a7 : List Rul) (a8 : List Fct) (D2 : List Int) (lines : List Lin) (g : Nat) : Bool :=
  ((List.range lines.length).drop g).all fun i => a2D s l a7 a8 D2 (lines.take i) (lines.getD i a1L)
def a3n (lines : List Lin) (f : Fct) : Bool := decide (r6 (lines.getD (lines.length - 1) a1L).2.2 f = 0)
def a4p (s : List Int) (l : List Mth) (a7 : List Rul) (a8 : List Fct) (D2 : List Int) (f : Fct) (lines : List Lin) : Bool :=
  (U8 s l && g0 s a7) && (j0 s a8 && (decide (0 < lines.length) && (a3n lines f && a2M s l a7 a8 D2 lines 0)))
-- the other one's way
def a3x (lines : List Lin) (g : Nat) : List Fct := ((lines.take g).map fun x => x.2.2).foldl a0L []
def a3A (D2 : List Int) (lines : List Lin) (g : Nat) : List Int := (lines.take g).foldl (fun v x => x.2.2.2.foldl a2Q v) (a2L (D2.filter fun t => inR t 0 9))
def a3v (s : List Int) (l : List Mth) (a7 : List Rul) (a8 : List Fct) (F : List Fct) (V : List Int) (x : Lin) : Bool :=
  if x.1 = -1 then a2S s l a8 (Q3 V) x else a2T s a7 (a3a F x.2.2 (atR a7 x.1)) x
def a4x (s : List Int) (l : List Mth) (a7 : List Rul) (a8 : List Fct) (D2 : List Int) (lines : List Lin) (g : Nat) : Bool :=
  ((List.range lines.length).drop g).all fun i => a3v s l a7 a8 (a3x lines i) (a3A D2 lines i) (lines.getD i a1L)
-- sizes
abbrev a4E : Lin → Nat := fun x => x.2.1.2.length + x.2.2.2.length
end Go.Proofs.Ytdopeopehgdccaa
