import Derived.Test.YtfnbilpemdgkkaaGreatDoorDy
section
namespace Go.Proofs.YtfnbilpemdgkkaaGreatDoor
set_option linter.unusedVariables false
set_option linter.unusedSimpArgs false
abbrev Acs := Int × List Int
abbrev Rch := List Fct × List Int × List Acs × Int
def a6c (l : List Mth) (a6 : List Fct) (a : Acs) : List Fct := a6.filter (b1K (atM l a.1) a.2)
def b5U (l : List Mth) (a6 : List Fct) (F : List Fct) (a : Acs) : List Fct := (a6c l a6 a).foldl s7 F
def wvI (v : List Int) (f : Fct) : List Int := a1I ((v ++ f.2).filter fun t => inR t 0 9)
def pvI (v : List Int) (f : Fct) : List Int := f.2.foldl a0D v
def b7o (l : List Mth) (a6 : List Fct) (v : List Int) (a : Acs) : List Int := (a6c l a6 a).foldl wvI v
def b5s (l : List Mth) (a6 : List Fct) (v : List Int) (a : Acs) : List Int := (a6c l a6 a).foldl pvI v
def b5L (n : Nat) : Int := if 0 < n then 1 else 0
def a4u (l : List Mth) (r : Rch) : List Acs := P8 r.2.1 r.2.2.1 l 0
def a8l (l : List Mth) (a6 : List Fct) (r : Rch) : Rch :=
 ((a4u l r).foldl (b5U l a6) r.1, (a4u l r).foldl (b5s l a6) r.2.1, r.2.2.1 ++ a4u l r, r.2.2.2 + b5L (a4u l r).length)
-- order
abbrev b5K (l : List Fct) : Prop := l.Pairwise (fun a b => ltF a b = true)
-- values
-- facts
-- the accesses
-- a step of a state
def b1S (s : List Int) (l : List Mth) (a6 : List Fct) (r : Rch) : Bool := S5 s l && (r7 s a6 && (r7 s r.1 && (a2G r.2.1 && inR r.2.2.2 0 100)))
def b7b (s : List Int) (l : List Mth) (a6 : List Fct) (r : Rch) : Rch := if b1S s l a6 r then a8l l a6 r else r
def b6Y (s : List Int) (l : List Mth) (a6 : List Fct) (r : Rch) : Bool := b1S s l a6 r && decide (0 < (a4u l r).length)
section
variable {l : List Mth} {a6 F : List Fct} {V : List Int} {A : List Acs} {N : Int} {g : Nat}
end
-- states that are reached
def a1u (l : List Mth) (a6 : List Fct) (y9 : List Int) : Nat → Rch
 | 0 => ([], a1I (y9.filter fun t => inR t 0 9), [], 0)
 | n + 1 => a8l l a6 (a1u l a6 y9 n)
def a5U (l : List Mth) (a6 : List Fct) (r : Rch) : Nat → Rch → Bool
 | 0, x => decide (x = r)
 | n + 1, x => decide (x = r) || (decide (0 < (a4u l x).length) && a5U l a6 r n (a8l l a6 x))
def a8J (s : List Int) (l : List Mth) (a6 : List Fct) (y9 : List Int) (r : Rch) : Bool := (S5 s l && r7 s a6) && a5U l a6 r 40 (a1u l a6 y9 0)
structure rInv (s : List Int) (l : List Mth) (a6 : List Fct) (n : Nat) (x : Rch) : Prop where
 asc : b5K x.1
 sub : ∀ f ∈ x.1, f ∈ a6
 flen : x.1.length ≤ 24
 fel : ∀ f ∈ x.1, f.2.length ≤ 3
 u9 : a2G x.2.1 = true
 log : x.2.2.1.length ≤ 5000 * n
 loge : ∀ a ∈ x.2.2.1, a.2.length ≤ 3
 rounds : 0 ≤ x.2.2.2 ∧ x.2.2.2 ≤ n
def b7v (s : List Int) (l : List Mth) (a6 : List Fct) (y9 : List Int) (r : Rch) (g : Nat) : Prop :=
 a8J s l a6 y9 r = a5U l a6 r (40 - g) (a1u l a6 y9 g) ∧ rInv s l a6 g (a1u l a6 y9 g)
section
variable {s : List Int} {l : List Mth} {a6 : List Fct} {y9 : List Int} {r : Rch} {g : Nat}
def b7u (s : List Int) (l : List Mth) (a6 : List Fct) (y9 : List Int) (r : Rch) (g : Nat) : Prop :=
 (g ≤ 40 → a8J s l a6 y9 r = ((S5 s l && r7 s a6) && a5U l a6 r (40 - g) (a1u l a6 y9 g))) ∧ (40 < g → a8J s l a6 y9 r = false) ∧ (0 < g → S5 s l = true ∧ r7 s a6 = true) ∧ rInv s l a6 g (a1u l a6 y9 g)
end
end Go.Proofs.YtfnbilpemdgkkaaGreatDoor
end
section
namespace Go.Proofs.YtfnbilpemdgkkaaGreatDoor
set_option linter.unusedVariables false
set_option linter.unusedSimpArgs false
def b7w (s : List Int) (a6 : List Fct) : Prop := a6.length ≤ 7000 ∧ ∀ f ∈ a6, u6 s f = true
abbrev NoS := List Fct × List Lin
abbrev UU := List Fct × List Int × List Acs × List Lin
def notU (S : NoS) (x : Lin) : NoS := if w5 S.1 x.2.2 then S else (s7 S.1 x.2.2, S.2 ++ [x])
def notes (S : NoS) (xs : List Lin) : NoS := xs.foldl notU S
def lnA (a : Acs) (f : Fct) : Lin := (-1, a, f)
def lnR (c6 : List Rul) (F : List Fct) (f : Fct) : Lin := (a2J c6 F f, (0, []), f)
def rndA (l : List Mth) (a6 : List Fct) (O : List Acs) (S : NoS) : NoS := O.foldl (fun S a => notes S ((a6c l a6 a).map (lnA a))) S
def uO (l : List Mth) (u : UU) : List Acs := P8 u.2.1 u.2.2.1 l 0
def uA (l : List Mth) (a6 : List Fct) (u : UU) : NoS := rndA l a6 (uO l u) (u.1, u.2.2.2)
def uM (l : List Mth) (c6 : List Rul) (a6 : List Fct) (u : UU) : List Fct := s6 c6 (uA l a6 u).1
def uD (l : List Mth) (c6 : List Rul) (a6 : List Fct) (u : UU) : List Lin := (uM l c6 a6 u).map (lnR c6 (uA l a6 u).1)
def uS (l : List Mth) (c6 : List Rul) (a6 : List Fct) (u : UU) : NoS := notes (uA l a6 u) (uD l c6 a6 u)
def a8u (l : List Mth) (c6 : List Rul) (a6 : List Fct) (u : UU) : UU := ((uS l c6 a6 u).1, (uS l c6 a6 u).1.foldl pvI u.2.1, u.2.2.1 ++ uO l u, (uS l c6 a6 u).2)
def uIt (l : List Mth) (c6 : List Rul) (a6 : List Fct) (y9 : List Int) : Nat → UU
 | 0 => ([], a1I (y9.filter fun t => inR t 0 9), [], [])
 | n + 1 => a8u l c6 a6 (uIt l c6 a6 y9 n)
def b5z (l : List Mth) (c6 : List Rul) (a6 : List Fct) (y9 : List Int) : UU := uIt l c6 a6 y9 6000
-- noting
structure nInv (s : List Int) (S : NoS) : Prop where
 fold : S.1 = (S.2.map fun x => x.2.2).foldl s7 []
 nd : (S.2.map fun x => x.2.2).Nodup
 ok : ∀ x ∈ S.2, u6 s x.2.2 = true
 acc : ∀ x ∈ S.2, x.2.1.2.length ≤ 3
theorem nInv.mem {s : List Int} {S : NoS} (h : nInv s S) {f : Fct} : f ∈ S.1 ↔ ∃ x ∈ S.2, x.2.2 = f := by
 rw [h.fold, a9F]
 simp only [List.not_mem_nil, false_or, List.mem_map]
theorem nInv.len {s : List Int} {S : NoS} (h : nInv s S) : S.2.length ≤ 5324 ∧ S.1.length ≤ 5324 := by
 have h1 := a0T (s := s) h.nd fun f hf => by
  obtain ⟨x, hx, rfl⟩ := List.mem_map.1 hf
  exact h.ok x hx
 have h2 := a3p (m := S.2.map fun x => x.2.2) (x := [])
 rw [← h.fold] at h2
 simp only [List.length_map, List.length_nil] at h1 h2
 omega
theorem nInv.notU {s : List Int} {S : NoS} {x : Lin} (h : nInv s S) (h1 : u6 s x.2.2 = true) (h2 : x.2.1.2.length ≤ 3) : nInv s (notU S x) := by
 unfold Go.Proofs.YtfnbilpemdgkkaaGreatDoor.notU
 split
 ·exact h
 ·rename_i hn
  refine ⟨?_, ?_, fun y hy => ?_, fun y hy => ?_⟩
  ·simp only [List.map_append, List.foldl_append, ← h.fold]; rfl
  ·rw [List.map_append, List.nodup_append]
   refine ⟨h.nd, by simp, fun a ha b hb e => hn ?_⟩
   simp only [List.map_cons, List.map_nil, List.mem_singleton] at hb
   subst e; subst hb
   obtain ⟨y, hy, e⟩ := List.mem_map.1 ha
   exact I2.2 (h.mem.2 ⟨y, hy, e⟩)
  ·rcases List.mem_append.1 hy with hy | hy
   ·exact h.ok y hy
   ·obtain rfl := List.mem_singleton.1 hy; exact h1
  ·rcases List.mem_append.1 hy with hy | hy
   ·exact h.acc y hy
   ·obtain rfl := List.mem_singleton.1 hy; exact h2
theorem nInv.notes {s : List Int} : ∀ {xs : List Lin} {S : NoS}, nInv s S → (∀ x ∈ xs, u6 s x.2.2 = true ∧ x.2.1.2.length ≤ 3) → nInv s (notes S xs)
 | [], _, h, _ => h
 | x :: xs, S, h, hx => nInv.notes (xs := xs) (h.notU (hx x (by simp)).1 (hx x (by simp)).2) fun y hy => hx y (by simp [hy])
theorem b3l {s : List Int} {l : List Mth} {a6 : List Fct} {a : Acs} (hf : ∀ f ∈ a6, u6 s f = true) (ha : a.2.length ≤ 3) : ∀ x ∈ (a6c l a6 a).map (lnA a), u6 s x.2.2 = true ∧ x.2.1.2.length ≤ 3 := by
 intro x hx
 obtain ⟨f, h, rfl⟩ := List.mem_map.1 hx
 exact ⟨hf f (List.mem_filter.1 h).1, ha⟩
theorem b0q {s : List Int} {l : List Mth} {a6 : List Fct} (hf : ∀ f ∈ a6, u6 s f = true) : ∀ {O : List Acs} {S : NoS}, nInv s S → (∀ a ∈ O, a.2.length ≤ 3) → nInv s (rndA l a6 O S)
 | [], _, h, _ => h
 | a :: O, S, h, ho => b0q hf (O := O) (h.notes (b3l hf (ho a (by simp)))) fun b hb => ho b (by simp [hb])
-- what is missing
-- a round
structure uInv (s : List Int) (u : UU) : Prop where
 n : nInv s (u.1, u.2.2.2)
 u9 : a2G u.2.1 = true
 cl : ∀ f ∈ u.1, ∀ x ∈ f.2, x ∈ u.2.1
 acc : ∀ a ∈ u.2.2.1, a.2.length ≤ 3
section
variable {s : List Int} {l : List Mth} {c6 : List Rul} {a6 : List Fct} {y9 : List Int} {u : UU} {g : Nat}
structure uStay (l : List Mth) (c6 : List Rul) (a6 : List Fct) (u : UU) : Prop where
 a : uA l a6 u = (u.1, u.2.2.2)
 m : uM l c6 a6 u = []
 s : uS l c6 a6 u = (u.1, u.2.2.2)
 v : (a8u l c6 a6 u).2.1 = u.2.1
 o : uO l (a8u l c6 a6 u) = []
def gI (s : List Int) (l : List Mth) (c6 : List Rul) (a6 : List Fct) (y9 : List Int) (g : Nat) : Prop :=
 uInv s (uIt l c6 a6 y9 g) ∧ (g ≤ (uIt l c6 a6 y9 g).2.2.2.length ∨ (g ≤ (uIt l c6 a6 y9 g).2.2.2.length + 1 ∧ a8u l c6 a6 (uIt l c6 a6 y9 g) = uIt l c6 a6 y9 g ∧ uO l (uIt l c6 a6 y9 g) = []))
end
-- within a round
theorem a9H {c6 : List Rul} {F : List Fct} {f : Fct} (h : c6.length ≤ 4) : I64 (a2J c6 F f) := by
 have := a2q (p := b0C F f) (s := c6)
 unfold a2J I64; omega
section
variable {s : List Int} {l : List Mth} {c6 : List Rul} {a6 F : List Fct} {V : List Int} {A : List Acs} {L : List Lin} {g k j i : Nat} {S : NoS}
end
section
variable {s : List Int} {l : List Mth} {c6 : List Rul} {a6 : List Fct} {y9 : List Int} {u : UU} {g i p n : Nat}
end
-- what is asked
def b4y (s : List Int) (l : List Mth) (c6 : List Rul) (a6 : List Fct) : Bool := (S5 s l && o4 s c6) && r7 s a6
def b6R (s : List Int) (l : List Mth) (c6 : List Rul) (a6 : List Fct) (y9 : List Int) : List Fct := if b4y s l c6 a6 then (b5z l c6 a6 y9).1 else []
end Go.Proofs.YtfnbilpemdgkkaaGreatDoor
end
