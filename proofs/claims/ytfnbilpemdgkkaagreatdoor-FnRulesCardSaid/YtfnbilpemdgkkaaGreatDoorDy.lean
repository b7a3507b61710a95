import Derived.Test.YtfnbilpemdgkkaaGreatDoorBd
section
namespace Go.Proofs.YtfnbilpemdgkkaaGreatDoor
set_option linter.unusedVariables false
set_option linter.unusedSimpArgs false
def b5D (s : List Int) (a6 : List (Int × List Int)) (out : List (List Int)) (q : List Int × List (Int × List Int)) : List (List Int) := (b5S s q a6).foldl b3h out
def b7r (s : List Int) (u : List (List Int × List (Int × List Int))) (a6 : List (Int × List Int)) : List (List Int) := if a4H s u then u.foldl (b5D s a6) [] else []
end Go.Proofs.YtfnbilpemdgkkaaGreatDoor
end
section
namespace Go.Proofs.YtfnbilpemdgkkaaGreatDoor
set_option linter.unusedVariables false
set_option linter.unusedSimpArgs false
def b5O (v : List Int) (p : Int × Int) : Bool := decide (at0 v p.1 = p.2)
def b1K (m : Int × List Int × Int × Int × Int) (v : List Int) (f : Int × List Int) : Bool := decide (f.1 = m.1) && (m.2.1.zip v).all (b5O f.2)
end Go.Proofs.YtfnbilpemdgkkaaGreatDoor
end
section
namespace Go.Proofs.YtfnbilpemdgkkaaGreatDoor
set_option linter.unusedVariables false
set_option linter.unusedSimpArgs false
def a6n (h head : List Int) (b : List Int × List Int) : Bool := decide (h.map (C9 b) = head)
def a8H (l : List (List Int × List Int)) (h head : List Int) : List Int × List Int := (l.find? (a6n h head)).getD ([], [])
def xF (p q : List (Int × List Int)) : List (Int × List Int) := p ++ (y4 (fun t => inR t 0 9) q).map fun c => ((3 : Int), [c])
theorem S7 {is : Int → Bool} {l : List (Int × List Int)} {x : Int} : x ∈ y4 is l ↔ x ∈ l.flatMap (fun a => a.2) ∧ is x = true := by
 unfold y4
 rw [a3m, List.mem_filter]
theorem b3r {p q : List (Int × List Int)} : ∀ x ∈ [y4 (fun t => inR t 0 9) p, y4 (fun t => inR t 0 9) q].flatten, 0 ≤ x ∧ x ≤ 9 := by
 intro x hx
 simp only [List.flatten_cons, List.flatten_nil, List.append_nil, List.mem_append] at hx
 rcases hx with h | h <;> exact b2N x h
def a6E (p q : List Int × List (Int × List Int)) : Bool :=
 decide (p.1.length = q.1.length) && (fzB [y4 (fun t => inR t 0 9) p.2, y4 (fun t => inR t 0 9) q.2].flatten p.2 &&
  (H3 q.2 (fzF [y4 (fun t => inR t 0 9) p.2, y4 (fun t => inR t 0 9) q.2].flatten p.2)).any (a6n q.1 (p.1.map (C9 (fzV [y4 (fun t => inR t 0 9) p.2, y4 (fun t => inR t 0 9) q.2].flatten p.2, fzX [y4 (fun t => inR t 0 9) p.2, y4 (fun t => inR t 0 9) q.2].flatten p.2)))))
def R2 (s : List Int) (p q : List Int × List (Int × List Int)) : Bool := z7 s p && (z7 s q && a6E p q)
def b7z (l : List (List Int)) : Nat := (l.map List.length).sum
end Go.Proofs.YtfnbilpemdgkkaaGreatDoor
end
section
namespace Go.Proofs.YtfnbilpemdgkkaaGreatDoor
set_option linter.unusedVariables false
set_option linter.unusedSimpArgs false
abbrev Mth := Int × List Int × Int × Int × Int
abbrev Fct := Int × List Int
abbrev Lin := Int × (Int × List Int) × Int × List Int
abbrev Rul := Int × Int × List Int
def atM (l : List Mth) (i : Int) : Mth := l.getD i.toNat (0, [], 0, 0, 0)
def atR (l : List Rul) (i : Int) : Rul := l.getD i.toNat (0, 0, [])
def b4w (s : List Int) (l : List Mth) (a : Int × List Int) : Bool := S5 s l && (inR a.1 0 ((l.length : Int) - 1) && (decide (a.2.length = (atM l a.1).2.1.length) && K5 a.2))
def b5N (r : Rul) (f x : Fct) : Bool := decide (x.1 = r.1) && decide (C0 (r.2.1, u9 r.2.2 x.2) f = 0)
def b0C (a6 : List Fct) (f : Fct) (r : Rul) : Bool := a6.any (b5N r f)
def a2J (c6 : List Rul) (a6 : List Fct) (f : Fct) : Int := H2 (b0C a6 f) c6
def b3H (y9 : List Int) (before : List Lin) (v : Int) : Bool := L6 y9 v || before.any (fun y => L6 y.2.2.2 v)
def b5I (s : List Int) (r : Rul) (x y : Fct) : Bool := G4 s r y && decide (C0 (C5 s r y, D5 s r y) x = 0)
def b3A (s : List Int) (l : List Mth) (a6 : List Fct) (kn : Int → Bool) (x : Lin) : Bool :=
 b4w s l x.2.1 && (decide ((atM l x.2.1.1).2.2.1 = 0) && ((!x.2.1.2.any (fun v => !kn v)) && w5 (a6.filter (b1K (atM l x.2.1.1) x.2.1.2)) x.2.2))
def b3G (s : List Int) (c6 : List Rul) (gv : Bool) (x : Lin) : Bool := inR x.1 0 ((c6.length : Int) - 1) && (u6 s x.2.2 && gv)
def b3o (s : List Int) (l : List Mth) (c6 : List Rul) (a6 : List Fct) (y9 : List Int) (before : List Lin) (x : Lin) : Bool :=
 if x.1 = -1 then b3A s l a6 (b3H y9 before) x else b3G s c6 (before.any fun y => b5I s (atR c6 x.1) x.2.2 y.2.2) x
def b0I : Lin := (0, (0, []), 0, [])
def b3k (s : List Int) (l : List Mth) (c6 : List Rul) (a6 : List Fct) (y9 : List Int) (lines : List Lin) (g : Nat) : Bool :=
 ((List.range lines.length).drop g).all fun i => b3o s l c6 a6 y9 (lines.take i) (lines.getD i b0I)
def b4E (lines : List Lin) (f : Fct) : Bool := decide (C0 (lines.getD (lines.length - 1) b0I).2.2 f = 0)
def b6M (s : List Int) (l : List Mth) (c6 : List Rul) (a6 : List Fct) (y9 : List Int) (f : Fct) (lines : List Lin) : Bool :=
 (S5 s l && o4 s c6) && (r7 s a6 && (decide (0 < lines.length) && (b4E lines f && b3k s l c6 a6 y9 lines 0)))
-- the other one's way
def b4u (lines : List Lin) (g : Nat) : List Fct := ((lines.take g).map fun x => x.2.2).foldl s7 []
def b4k (y9 : List Int) (lines : List Lin) (g : Nat) : List Int := (lines.take g).foldl (fun v x => x.2.2.2.foldl a0D v) (a1I (y9.filter fun t => inR t 0 9))
def b4n (s : List Int) (l : List Mth) (c6 : List Rul) (a6 : List Fct) (F : List Fct) (V : List Int) (x : Lin) : Bool :=
 if x.1 = -1 then b3A s l a6 (L6 V) x else b3G s c6 (b0C F x.2.2 (atR c6 x.1)) x
def b6X (s : List Int) (l : List Mth) (c6 : List Rul) (a6 : List Fct) (y9 : List Int) (lines : List Lin) (g : Nat) : Bool :=
 ((List.range lines.length).drop g).all fun i => b4n s l c6 a6 (b4u lines i) (b4k y9 lines i) (lines.getD i b0I)
theorem a9F {x : List Fct} : ∀ {v : List Fct} (y : Fct), y ∈ x.foldl s7 v ↔ y ∈ v ∨ y ∈ x := by
 induction x with
 | nil => intro v y; simp
 | cons a x ih =>
  intro v y
  rw [List.foldl_cons, ih, List.mem_cons]
  have : y ∈ s7 v a ↔ y ∈ v ∨ y = a := by
   refine ⟨fun h => P6 h, ?_⟩
   rintro (h | rfl)
   ·exact W3 h
   ·cases hh : w5 v y
    ·exact a1c hh
    ·exact W3 (I2.1 hh)
  rw [this, or_assoc]
-- sizes
abbrev b7q : Lin → Nat := fun x => x.2.1.2.length + x.2.2.2.length
end Go.Proofs.YtfnbilpemdgkkaaGreatDoor
end
