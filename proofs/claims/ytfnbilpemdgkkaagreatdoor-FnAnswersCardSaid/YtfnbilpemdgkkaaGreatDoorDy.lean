import Derived.Test.YtfnbilpemdgkkaaGreatDoorBd
section
namespace Go.Proofs.YtfnbilpemdgkkaaGreatDoor
set_option linter.unusedVariables false
set_option linter.unusedSimpArgs false
theorem a6b {w : World} {L : List Nat} {e : TypeId} {a : Option Addr} {m c : Nat} {xs : List (List Int × List Int)} (h : Ro w L (Enc.sl e (Enc.pair (Enc.sl tI Enc.int) (Enc.sl tI Enc.int))) [.slice a m c] xs) : ∀ x ∈ xs, (∀ y ∈ x.1, I64 y) ∧ ∀ y ∈ x.2, I64 y := by
 intro x hx
 obtain ⟨i, hi, rfl⟩ := List.getElem_of_mem hx
 obtain ⟨_, _, ci, _, h1, _⟩ := h.elem i hi
 obtain ⟨c1, c2, rfl, h2, h3⟩ := h1.pair
 obtain ⟨a', c', rfl⟩ := h3.sl
 obtain ⟨a2, c2', rfl⟩ := h2.sl
 exact ⟨h2.i64, h3.i64⟩
def b1v (s : List Int) (c7 : List (Int × List Int)) (out : List (List Int)) (q : List Int × List (Int × List Int)) : List (List Int) := (C0 s q c7).foldl D1 out
def b3o (s : List Int) (u : List (List Int × List (Int × List Int))) (c7 : List (Int × List Int)) : List (List Int) := if a3a s u then u.foldl (b1v s c7) [] else []
end Go.Proofs.YtfnbilpemdgkkaaGreatDoor
end
section
namespace Go.Proofs.YtfnbilpemdgkkaaGreatDoor
set_option linter.unusedVariables false
set_option linter.unusedSimpArgs false
def b1O (v : List Int) (p : Int × Int) : Bool := decide (at0 v p.1 = p.2)
def a8D (m : Int × List Int × Int × Int × Int) (v : List Int) (f : Int × List Int) : Bool := decide (f.1 = m.1) && (m.2.1.zip v).all (b1O f.2)
end Go.Proofs.YtfnbilpemdgkkaaGreatDoor
end
section
namespace Go.Proofs.YtfnbilpemdgkkaaGreatDoor
set_option linter.unusedVariables false
set_option linter.unusedSimpArgs false
def H4 (h head : List Int) (b : List Int × List Int) : Bool := decide (h.map (s4 b) = head)
def F0 (l : List (List Int × List Int)) (h head : List Int) : List Int × List Int := (l.find? (H4 h head)).getD ([], [])
theorem O9 {l : List (List Int × List Int)} {h head : List Int} {g : Nat} (hg : g < l.length) : F0 (l.drop g) h head = if H4 h head l[g] then l[g] else F0 (l.drop (g + 1)) h head := by
 rw [List.drop_eq_getElem_cons hg]
 unfold F0
 rw [List.find?_cons]
 cases H4 h head l[g] <;> simp
theorem Q9 {l : List (List Int × List Int)} {h head : List Int} {g : Nat} (hg : l.length ≤ g) : F0 (l.drop g) h head = ([], []) := by
 rw [List.drop_eq_nil_of_le hg]; rfl
def xF (p q : List (Int × List Int)) : List (Int × List Int) := p ++ (u6 (fun t => inR t 0 9) q).map fun c => ((3 : Int), [c])
theorem S9 {is : Int → Bool} {l : List (Int × List Int)} {x : Int} : x ∈ u6 is l ↔ x ∈ l.flatMap (fun a => a.2) ∧ is x = true := by
 unfold u6
 rw [a0P, List.mem_filter]
theorem a9I {p q : List (Int × List Int)} : ∀ x ∈ [u6 (fun t => inR t 0 9) p, u6 (fun t => inR t 0 9) q].flatten, 0 ≤ x ∧ x ≤ 9 := by
 intro x hx
 simp only [List.flatten_cons, List.flatten_nil, List.append_nil, List.mem_append] at hx
 rcases hx with h | h <;> exact a9b x h
def a4N (p q : List Int × List (Int × List Int)) : Bool :=
 decide (p.1.length = q.1.length) && (fzB [u6 (fun t => inR t 0 9) p.2, u6 (fun t => inR t 0 9) q.2].flatten p.2 &&
  (r8 q.2 (fzF [u6 (fun t => inR t 0 9) p.2, u6 (fun t => inR t 0 9) q.2].flatten p.2)).any (H4 q.1 (p.1.map (s4 (fzV [u6 (fun t => inR t 0 9) p.2, u6 (fun t => inR t 0 9) q.2].flatten p.2, fzX [u6 (fun t => inR t 0 9) p.2, u6 (fun t => inR t 0 9) q.2].flatten p.2)))))
def N4 (s : List Int) (p q : List Int × List (Int × List Int)) : Bool := x3 s p && (x3 s q && a4N p q)
def b3k (l : List (List Int)) : Nat := (l.map List.length).sum
end Go.Proofs.YtfnbilpemdgkkaaGreatDoor
end
section
namespace Go.Proofs.YtfnbilpemdgkkaaGreatDoor
set_option linter.unusedVariables false
set_option linter.unusedSimpArgs false
abbrev Mth := Int × List Int × Int × Int × Int
abbrev Fct := Int × List Int
abbrev Lin := Int × (Int × List Int) × Int × List Int
abbrev Rul := Int × Int × List Int
def atM (l : List Mth) (i : Int) : Mth := l.getD i.toNat (0, [], 0, 0, 0)
def atR (l : List Rul) (i : Int) : Rul := l.getD i.toNat (0, 0, [])
def b0A (s : List Int) (l : List Mth) (a : Int × List Int) : Bool := T7 s l && (inR a.1 0 ((l.length : Int) - 1) && (decide (a.2.length = (atM l a.1).2.1.length) && P2 a.2))
def b1H (r : Rul) (f x : Fct) : Bool := decide (x.1 = r.1) && decide (M7 (r.2.1, S4 r.2.2 x.2) f = 0)
def a7D (c7 : List Fct) (f : Fct) (r : Rul) : Bool := c7.any (b1H r f)
def a1J (w5 : List Rul) (c7 : List Fct) (f : Fct) : Int := D5 (a7D c7 f) w5
def a9G (C5 : List Int) (before : List Lin) (v : Int) : Bool := F5 C5 v || before.any (fun y => F5 y.2.2.2 v)
def b1w (s : List Int) (r : Rul) (x y : Fct) : Bool := a7S s r y && decide (M7 (b1A s r y, b1F s r y) x = 0)
def a9C (s : List Int) (l : List Mth) (c7 : List Fct) (kn : Int → Bool) (x : Lin) : Bool :=
 b0A s l x.2.1 && (decide ((atM l x.2.1.1).2.2.1 = 0) && ((!x.2.1.2.any (fun v => !kn v)) && D0 (c7.filter (a8D (atM l x.2.1.1) x.2.1.2)) x.2.2))
def a9D (s : List Int) (w5 : List Rul) (gv : Bool) (x : Lin) : Bool := inR x.1 0 ((w5.length : Int) - 1) && (D4 s x.2.2 && gv)
def a9B (s : List Int) (l : List Mth) (w5 : List Rul) (c7 : List Fct) (C5 : List Int) (before : List Lin) (x : Lin) : Bool :=
 if x.1 = -1 then a9C s l c7 (a9G C5 before) x else a9D s w5 (before.any fun y => b1w s (atR w5 x.1) x.2.2 y.2.2) x
def a8c : Lin := (0, (0, []), 0, [])
def a9M (s : List Int) (l : List Mth) (w5 : List Rul) (c7 : List Fct) (C5 : List Int) (lines : List Lin) (g : Nat) : Bool :=
 ((List.range lines.length).drop g).all fun i => a9B s l w5 c7 C5 (lines.take i) (lines.getD i a8c)
def b0w (lines : List Lin) (f : Fct) : Bool := decide (M7 (lines.getD (lines.length - 1) a8c).2.2 f = 0)
def b2A (s : List Int) (l : List Mth) (w5 : List Rul) (c7 : List Fct) (C5 : List Int) (f : Fct) (lines : List Lin) : Bool :=
 (T7 s l && a0w s w5) && (C9 s c7 && (decide (0 < lines.length) && (b0w lines f && a9M s l w5 c7 C5 lines 0)))
-- the other one's way
def b0H (lines : List Lin) (g : Nat) : List Fct := ((lines.take g).map fun x => x.2.2).foldl C8 []
def b0J (C5 : List Int) (lines : List Lin) (g : Nat) : List Int := (lines.take g).foldl (fun v x => x.2.2.2.foldl H2 v) (G3 (C5.filter fun t => inR t 0 9))
def b0N (s : List Int) (l : List Mth) (w5 : List Rul) (c7 : List Fct) (F : List Fct) (V : List Int) (x : Lin) : Bool :=
 if x.1 = -1 then a9C s l c7 (F5 V) x else a9D s w5 (a7D F x.2.2 (atR w5 x.1)) x
def b2Q (s : List Int) (l : List Mth) (w5 : List Rul) (c7 : List Fct) (C5 : List Int) (lines : List Lin) (g : Nat) : Bool :=
 ((List.range lines.length).drop g).all fun i => b0N s l w5 c7 (b0H lines i) (b0J C5 lines i) (lines.getD i a8c)
theorem a6W {x : List Fct} : ∀ {v : List Fct} (y : Fct), y ∈ x.foldl C8 v ↔ y ∈ v ∨ y ∈ x := by
 induction x with
 | nil => intro v y; simp
 | cons a x ih =>
  intro v y
  rw [List.foldl_cons, ih, List.mem_cons]
  have : y ∈ C8 v a ↔ y ∈ v ∨ y = a := by
   refine ⟨fun h => V4 h, ?_⟩
   rintro (h | rfl)
   ·exact a0Q h
   ·cases hh : D0 v y
    ·exact a3S hh
    ·exact a0Q (Z0.1 hh)
  rw [this, or_assoc]
-- sizes
abbrev b3p : Lin → Nat := fun x => x.2.1.2.length + x.2.2.2.length
end Go.Proofs.YtfnbilpemdgkkaaGreatDoor
end
