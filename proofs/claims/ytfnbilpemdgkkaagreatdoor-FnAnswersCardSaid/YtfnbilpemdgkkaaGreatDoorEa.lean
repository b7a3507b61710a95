import Derived.Test.YtfnbilpemdgkkaaGreatDoorDy
section
namespace Go.Proofs.YtfnbilpemdgkkaaGreatDoor
set_option linter.unusedVariables false
set_option linter.unusedSimpArgs false
abbrev Acs := Int × List Int
abbrev Rch := List Fct × List Int × List Acs × Int
def a5j (l : List Mth) (c7 : List Fct) (a : Acs) : List Fct := c7.filter (a8D (atM l a.1) a.2)
def b1G (l : List Mth) (c7 : List Fct) (F : List Fct) (a : Acs) : List Fct := (a5j l c7 a).foldl C8 F
def wvI (v : List Int) (f : Fct) : List Int := G3 ((v ++ f.2).filter fun t => inR t 0 9)
def pvI (v : List Int) (f : Fct) : List Int := f.2.foldl H2 v
def b3g (l : List Mth) (c7 : List Fct) (v : List Int) (a : Acs) : List Int := (a5j l c7 a).foldl wvI v
def b1S (l : List Mth) (c7 : List Fct) (v : List Int) (a : Acs) : List Int := (a5j l c7 a).foldl pvI v
def b1x (n : Nat) : Int := if 0 < n then 1 else 0
def a2Y (l : List Mth) (r : Rch) : List Acs := P6 r.2.1 r.2.2.1 l 0
def a6t (l : List Mth) (c7 : List Fct) (r : Rch) : Rch :=
 ((a2Y l r).foldl (b1G l c7) r.1, (a2Y l r).foldl (b1S l c7) r.2.1, r.2.2.1 ++ a2Y l r, r.2.2.2 + b1x (a2Y l r).length)
-- order
abbrev b1q (l : List Fct) : Prop := l.Pairwise (fun a b => ltF a b = true)
-- values
-- facts
-- the accesses
-- a step of a state
def a8E (s : List Int) (l : List Mth) (c7 : List Fct) (r : Rch) : Bool := T7 s l && (C9 s c7 && (C9 s r.1 && (a1F r.2.1 && inR r.2.2.2 0 100)))
def b2M (s : List Int) (l : List Mth) (c7 : List Fct) (r : Rch) : Rch := if a8E s l c7 r then a6t l c7 r else r
def b2P (s : List Int) (l : List Mth) (c7 : List Fct) (r : Rch) : Bool := a8E s l c7 r && decide (0 < (a2Y l r).length)
section
variable {l : List Mth} {c7 F : List Fct} {V : List Int} {A : List Acs} {N : Int} {g : Nat}
end
-- states that are reached
def a0t (l : List Mth) (c7 : List Fct) (C5 : List Int) : Nat → Rch
 | 0 => ([], G3 (C5.filter fun t => inR t 0 9), [], 0)
 | n + 1 => a6t l c7 (a0t l c7 C5 n)
def a4t (l : List Mth) (c7 : List Fct) (r : Rch) : Nat → Rch → Bool
 | 0, x => decide (x = r)
 | n + 1, x => decide (x = r) || (decide (0 < (a2Y l x).length) && a4t l c7 r n (a6t l c7 x))
def a6e (s : List Int) (l : List Mth) (c7 : List Fct) (C5 : List Int) (r : Rch) : Bool := (T7 s l && C9 s c7) && a4t l c7 r 40 (a0t l c7 C5 0)
structure rInv (s : List Int) (l : List Mth) (c7 : List Fct) (n : Nat) (x : Rch) : Prop where
 asc : b1q x.1
 sub : ∀ f ∈ x.1, f ∈ c7
 flen : x.1.length ≤ 24
 fel : ∀ f ∈ x.1, f.2.length ≤ 3
 S4 : a1F x.2.1 = true
 log : x.2.2.1.length ≤ 5000 * n
 loge : ∀ a ∈ x.2.2.1, a.2.length ≤ 3
 rounds : 0 ≤ x.2.2.2 ∧ x.2.2.2 ≤ n
def b3f (s : List Int) (l : List Mth) (c7 : List Fct) (C5 : List Int) (r : Rch) (g : Nat) : Prop :=
 a6e s l c7 C5 r = a4t l c7 r (40 - g) (a0t l c7 C5 g) ∧ rInv s l c7 g (a0t l c7 C5 g)
section
variable {s : List Int} {l : List Mth} {c7 : List Fct} {C5 : List Int} {r : Rch} {g : Nat}
def b3m (s : List Int) (l : List Mth) (c7 : List Fct) (C5 : List Int) (r : Rch) (g : Nat) : Prop :=
 (g ≤ 40 → a6e s l c7 C5 r = ((T7 s l && C9 s c7) && a4t l c7 r (40 - g) (a0t l c7 C5 g))) ∧ (40 < g → a6e s l c7 C5 r = false) ∧ (0 < g → T7 s l = true ∧ C9 s c7 = true) ∧ rInv s l c7 g (a0t l c7 C5 g)
end
end Go.Proofs.YtfnbilpemdgkkaaGreatDoor
end
section
namespace Go.Proofs.YtfnbilpemdgkkaaGreatDoor
set_option linter.unusedVariables false
set_option linter.unusedSimpArgs false
def b3q (s : List Int) (c7 : List Fct) : Prop := c7.length ≤ 7000 ∧ ∀ f ∈ c7, D4 s f = true
abbrev NoS := List Fct × List Lin
abbrev UU := List Fct × List Int × List Acs × List Lin
def notU (S : NoS) (x : Lin) : NoS := if D0 S.1 x.2.2 then S else (C8 S.1 x.2.2, S.2 ++ [x])
def notes (S : NoS) (xs : List Lin) : NoS := xs.foldl notU S
def lnA (a : Acs) (f : Fct) : Lin := (-1, a, f)
def lnR (w5 : List Rul) (F : List Fct) (f : Fct) : Lin := (a1J w5 F f, (0, []), f)
def rndA (l : List Mth) (c7 : List Fct) (O : List Acs) (S : NoS) : NoS := O.foldl (fun S a => notes S ((a5j l c7 a).map (lnA a))) S
def uO (l : List Mth) (u : UU) : List Acs := P6 u.2.1 u.2.2.1 l 0
def uA (l : List Mth) (c7 : List Fct) (u : UU) : NoS := rndA l c7 (uO l u) (u.1, u.2.2.2)
def uM (l : List Mth) (w5 : List Rul) (c7 : List Fct) (u : UU) : List Fct := a6z w5 (uA l c7 u).1
def uD (l : List Mth) (w5 : List Rul) (c7 : List Fct) (u : UU) : List Lin := (uM l w5 c7 u).map (lnR w5 (uA l c7 u).1)
def uS (l : List Mth) (w5 : List Rul) (c7 : List Fct) (u : UU) : NoS := notes (uA l c7 u) (uD l w5 c7 u)
def a6A (l : List Mth) (w5 : List Rul) (c7 : List Fct) (u : UU) : UU := ((uS l w5 c7 u).1, (uS l w5 c7 u).1.foldl pvI u.2.1, u.2.2.1 ++ uO l u, (uS l w5 c7 u).2)
def uIt (l : List Mth) (w5 : List Rul) (c7 : List Fct) (C5 : List Int) : Nat → UU
 | 0 => ([], G3 (C5.filter fun t => inR t 0 9), [], [])
 | n + 1 => a6A l w5 c7 (uIt l w5 c7 C5 n)
def b1M (l : List Mth) (w5 : List Rul) (c7 : List Fct) (C5 : List Int) : UU := uIt l w5 c7 C5 6000
-- noting
structure nInv (s : List Int) (S : NoS) : Prop where
 fold : S.1 = (S.2.map fun x => x.2.2).foldl C8 []
 nd : (S.2.map fun x => x.2.2).Nodup
 ok : ∀ x ∈ S.2, D4 s x.2.2 = true
 acc : ∀ x ∈ S.2, x.2.1.2.length ≤ 3
theorem nInv.mem {s : List Int} {S : NoS} (h : nInv s S) {f : Fct} : f ∈ S.1 ↔ ∃ x ∈ S.2, x.2.2 = f := by
 rw [h.fold, a6W]
 simp only [List.not_mem_nil, false_or, List.mem_map]
theorem nInv.len {s : List Int} {S : NoS} (h : nInv s S) : S.2.length ≤ 5324 ∧ S.1.length ≤ 5324 := by
 have h1 := a7a (s := s) h.nd fun f hf => by
  obtain ⟨x, hx, rfl⟩ := List.mem_map.1 hf
  exact h.ok x hx
 have h2 := a8h (m := S.2.map fun x => x.2.2) (x := [])
 rw [← h.fold] at h2
 simp only [List.length_map, List.length_nil] at h1 h2
 omega
theorem nInv.notU {s : List Int} {S : NoS} {x : Lin} (h : nInv s S) (h1 : D4 s x.2.2 = true) (h2 : x.2.1.2.length ≤ 3) : nInv s (notU S x) := by
 unfold Go.Proofs.YtfnbilpemdgkkaaGreatDoor.notU
 split
 ·exact h
 ·rename_i hn
  refine ⟨?_, ?_, fun y hy => ?_, fun y hy => ?_⟩
  ·simp only [List.map_append, List.foldl_append, ← h.fold]; rfl
  ·rw [List.map_append, List.nodup_append]
   refine ⟨h.nd, by simp, fun a ha b hb e => hn ?_⟩
   simp only [List.map_cons, List.map_nil, List.mem_singleton] at hb
   subst e; subst hb
   obtain ⟨y, hy, e⟩ := List.mem_map.1 ha
   exact Z0.2 (h.mem.2 ⟨y, hy, e⟩)
  ·rcases List.mem_append.1 hy with hy | hy
   ·exact h.ok y hy
   ·obtain rfl := List.mem_singleton.1 hy; exact h1
  ·rcases List.mem_append.1 hy with hy | hy
   ·exact h.acc y hy
   ·obtain rfl := List.mem_singleton.1 hy; exact h2
theorem nInv.notes {s : List Int} : ∀ {xs : List Lin} {S : NoS}, nInv s S → (∀ x ∈ xs, D4 s x.2.2 = true ∧ x.2.1.2.length ≤ 3) → nInv s (notes S xs)
 | [], _, h, _ => h
 | x :: xs, S, h, hx => nInv.notes (xs := xs) (h.notU (hx x (by simp)).1 (hx x (by simp)).2) fun y hy => hx y (by simp [hy])
theorem a9P {s : List Int} {l : List Mth} {c7 : List Fct} {a : Acs} (hf : ∀ f ∈ c7, D4 s f = true) (ha : a.2.length ≤ 3) : ∀ x ∈ (a5j l c7 a).map (lnA a), D4 s x.2.2 = true ∧ x.2.1.2.length ≤ 3 := by
 intro x hx
 obtain ⟨f, h, rfl⟩ := List.mem_map.1 hx
 exact ⟨hf f (List.mem_filter.1 h).1, ha⟩
theorem a7r {s : List Int} {l : List Mth} {c7 : List Fct} (hf : ∀ f ∈ c7, D4 s f = true) : ∀ {O : List Acs} {S : NoS}, nInv s S → (∀ a ∈ O, a.2.length ≤ 3) → nInv s (rndA l c7 O S)
 | [], _, h, _ => h
 | a :: O, S, h, ho => a7r hf (O := O) (h.notes (a9P hf (ho a (by simp)))) fun b hb => ho b (by simp [hb])
-- what is missing
-- a round
structure uInv (s : List Int) (u : UU) : Prop where
 n : nInv s (u.1, u.2.2.2)
 S4 : a1F u.2.1 = true
 cl : ∀ f ∈ u.1, ∀ x ∈ f.2, x ∈ u.2.1
 acc : ∀ a ∈ u.2.2.1, a.2.length ≤ 3
section
variable {s : List Int} {l : List Mth} {w5 : List Rul} {c7 : List Fct} {C5 : List Int} {u : UU} {g : Nat}
structure uStay (l : List Mth) (w5 : List Rul) (c7 : List Fct) (u : UU) : Prop where
 a : uA l c7 u = (u.1, u.2.2.2)
 m : uM l w5 c7 u = []
 s : uS l w5 c7 u = (u.1, u.2.2.2)
 v : (a6A l w5 c7 u).2.1 = u.2.1
 o : uO l (a6A l w5 c7 u) = []
def gI (s : List Int) (l : List Mth) (w5 : List Rul) (c7 : List Fct) (C5 : List Int) (g : Nat) : Prop :=
 uInv s (uIt l w5 c7 C5 g) ∧ (g ≤ (uIt l w5 c7 C5 g).2.2.2.length ∨ (g ≤ (uIt l w5 c7 C5 g).2.2.2.length + 1 ∧ a6A l w5 c7 (uIt l w5 c7 C5 g) = uIt l w5 c7 C5 g ∧ uO l (uIt l w5 c7 C5 g) = []))
end
-- within a round
theorem a7h {w5 : List Rul} {F : List Fct} {f : Fct} (h : w5.length ≤ 4) : I64 (a1J w5 F f) := by
 have := a3W (p := a7D F f) (s := w5)
 unfold a1J I64; omega
section
variable {s : List Int} {l : List Mth} {w5 : List Rul} {c7 F : List Fct} {V : List Int} {A : List Acs} {L : List Lin} {g k j i : Nat} {S : NoS}
end
section
variable {s : List Int} {l : List Mth} {w5 : List Rul} {c7 : List Fct} {C5 : List Int} {u : UU} {g i p n : Nat}
end
-- what is asked
def b0v (s : List Int) (l : List Mth) (w5 : List Rul) (c7 : List Fct) : Bool := (T7 s l && a0w s w5) && C9 s c7
def b2x (s : List Int) (l : List Mth) (w5 : List Rul) (c7 : List Fct) (C5 : List Int) : List Fct := if b0v s l w5 c7 then (b1M l w5 c7 C5).1 else []
end Go.Proofs.YtfnbilpemdgkkaaGreatDoor
end
