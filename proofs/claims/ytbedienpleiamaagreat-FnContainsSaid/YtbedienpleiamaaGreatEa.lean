import Derived.Test.YtbedienpleiamaaGreatDz
namespace Go.Proofs.YtbedienpleiamaaGreat
set_option linter.unusedVariables false
set_option linter.unusedSimpArgs false
def b3W (s : List Int) (f0 : List Fct) : Prop := f0.length ≤ 7000 ∧ ∀ f ∈ f0, H4 s f = true
abbrev NoS := List Fct × List Lin
abbrev UU := List Fct × List Int × List Acs × List Lin
def notU (S : NoS) (x : Lin) : NoS := if F5 S.1 x.2.2 then S else (D1 S.1 x.2.2, S.2 ++ [x])
def notes (S : NoS) (xs : List Lin) : NoS := xs.foldl notU S
def lnA (a : Acs) (f : Fct) : Lin := (-1, a, f)
def lnR (D0 : List Rul) (F : List Fct) (f : Fct) : Lin := (a9U D0 F f, (0, []), f)
def rndA (l : List Mth) (f0 : List Fct) (O : List Acs) (S : NoS) : NoS := O.foldl (fun S a => notes S ((a6s l f0 a).map (lnA a))) S
def uO (l : List Mth) (u : UU) : List Acs := S7 u.2.1 u.2.2.1 l 0
def uA (l : List Mth) (f0 : List Fct) (u : UU) : NoS := rndA l f0 (uO l u) (u.1, u.2.2.2)
def uM (l : List Mth) (D0 : List Rul) (f0 : List Fct) (u : UU) : List Fct := a7P D0 (uA l f0 u).1
def uD (l : List Mth) (D0 : List Rul) (f0 : List Fct) (u : UU) : List Lin := (uM l D0 f0 u).map (lnR D0 (uA l f0 u).1)
def uS (l : List Mth) (D0 : List Rul) (f0 : List Fct) (u : UU) : NoS := notes (uA l f0 u) (uD l D0 f0 u)
def a7R (l : List Mth) (D0 : List Rul) (f0 : List Fct) (u : UU) : UU := ((uS l D0 f0 u).1, (uS l D0 f0 u).1.foldl pvI u.2.1, u.2.2.1 ++ uO l u, (uS l D0 f0 u).2)
def uIt (l : List Mth) (D0 : List Rul) (f0 : List Fct) (F6 : List Int) : Nat → UU
 | 0 => ([], G6 (F6.filter fun t => inR t 0 9), [], [])
 | n + 1 => a7R l D0 f0 (uIt l D0 f0 F6 n)
def b2B (l : List Mth) (D0 : List Rul) (f0 : List Fct) (F6 : List Int) : UU := uIt l D0 f0 F6 6000
-- noting
structure nInv (s : List Int) (S : NoS) : Prop where
 fold : S.1 = (S.2.map fun x => x.2.2).foldl D1 []
 nd : (S.2.map fun x => x.2.2).Nodup
 ok : ∀ x ∈ S.2, H4 s x.2.2 = true
 acc : ∀ x ∈ S.2, x.2.1.2.length ≤ 3
theorem nInv.mem {s : List Int} {S : NoS} (h : nInv s S) {f : Fct} : f ∈ S.1 ↔ ∃ x ∈ S.2, x.2.2 = f := by
 rw [h.fold, a8J]
 simp only [List.not_mem_nil, false_or, List.mem_map]
theorem nInv.len {s : List Int} {S : NoS} (h : nInv s S) : S.2.length ≤ 5324 ∧ S.1.length ≤ 5324 := by
 have h1 := a8Q (s := s) h.nd fun f hf => by
  obtain ⟨x, hx, rfl⟩ := List.mem_map.1 hf
  exact h.ok x hx
 have h2 := a9d (m := S.2.map fun x => x.2.2) (x := [])
 rw [← h.fold] at h2
 simp only [List.length_map, List.length_nil] at h1 h2
 omega
theorem nInv.notU {s : List Int} {S : NoS} {x : Lin} (h : nInv s S) (h1 : H4 s x.2.2 = true) (h2 : x.2.1.2.length ≤ 3) : nInv s (notU S x) := by
 unfold Go.Proofs.YtbedienpleiamaaGreat.notU
 split
 ·exact h
 ·rename_i hn
  refine ⟨?_, ?_, fun y hy => ?_, fun y hy => ?_⟩
  ·simp only [List.map_append, List.foldl_append, ← h.fold]; rfl
  ·rw [List.map_append, List.nodup_append]
   refine ⟨h.nd, by simp, fun a ha b hb e => hn ?_⟩
   simp only [List.map_cons, List.map_nil, List.mem_singleton] at hb
   subst e; subst hb
   obtain ⟨y, hy, e⟩ := List.mem_map.1 ha
   exact a2t.2 (h.mem.2 ⟨y, hy, e⟩)
  ·rcases List.mem_append.1 hy with hy | hy
   ·exact h.ok y hy
   ·obtain rfl := List.mem_singleton.1 hy; exact h1
  ·rcases List.mem_append.1 hy with hy | hy
   ·exact h.acc y hy
   ·obtain rfl := List.mem_singleton.1 hy; exact h2
theorem nInv.notes {s : List Int} : ∀ {xs : List Lin} {S : NoS}, nInv s S → (∀ x ∈ xs, H4 s x.2.2 = true ∧ x.2.1.2.length ≤ 3) → nInv s (notes S xs)
 | [], _, h, _ => h
 | x :: xs, S, h, hx => nInv.notes (xs := xs) (h.notU (hx x (by simp)).1 (hx x (by simp)).2) fun y hy => hx y (by simp [hy])
theorem b0W {s : List Int} {l : List Mth} {f0 : List Fct} {a : Acs} (hf : ∀ f ∈ f0, H4 s f = true) (ha : a.2.length ≤ 3) : ∀ x ∈ (a6s l f0 a).map (lnA a), H4 s x.2.2 = true ∧ x.2.1.2.length ≤ 3 := by
 intro x hx
 obtain ⟨f, h, rfl⟩ := List.mem_map.1 hx
 exact ⟨hf f (List.mem_filter.1 h).1, ha⟩
theorem a8Y {s : List Int} {l : List Mth} {f0 : List Fct} (hf : ∀ f ∈ f0, H4 s f = true) : ∀ {O : List Acs} {S : NoS}, nInv s S → (∀ a ∈ O, a.2.length ≤ 3) → nInv s (rndA l f0 O S)
 | [], _, h, _ => h
 | a :: O, S, h, ho => a8Y hf (O := O) (h.notes (b0W hf (ho a (by simp)))) fun b hb => ho b (by simp [hb])
-- what is missing
-- a round
structure uInv (s : List Int) (u : UU) : Prop where
 n : nInv s (u.1, u.2.2.2)
 Y1 : a3F u.2.1 = true
 cl : ∀ f ∈ u.1, ∀ x ∈ f.2, x ∈ u.2.1
 acc : ∀ a ∈ u.2.2.1, a.2.length ≤ 3
section
variable {s : List Int} {l : List Mth} {D0 : List Rul} {f0 : List Fct} {F6 : List Int} {u : UU} {g : Nat}
structure uStay (l : List Mth) (D0 : List Rul) (f0 : List Fct) (u : UU) : Prop where
 a : uA l f0 u = (u.1, u.2.2.2)
 m : uM l D0 f0 u = []
 s : uS l D0 f0 u = (u.1, u.2.2.2)
 v : (a7R l D0 f0 u).2.1 = u.2.1
 o : uO l (a7R l D0 f0 u) = []
def gI (s : List Int) (l : List Mth) (D0 : List Rul) (f0 : List Fct) (F6 : List Int) (g : Nat) : Prop :=
 uInv s (uIt l D0 f0 F6 g) ∧ (g ≤ (uIt l D0 f0 F6 g).2.2.2.length ∨ (g ≤ (uIt l D0 f0 F6 g).2.2.2.length + 1 ∧ a7R l D0 f0 (uIt l D0 f0 F6 g) = uIt l D0 f0 F6 g ∧ uO l (uIt l D0 f0 F6 g) = []))
end
-- within a round
section
variable {s : List Int} {l : List Mth} {D0 : List Rul} {f0 F : List Fct} {V : List Int} {A : List Acs} {L : List Lin} {g k j i : Nat} {S : NoS}
end
section
variable {s : List Int} {l : List Mth} {D0 : List Rul} {f0 : List Fct} {F6 : List Int} {u : UU} {g i p n : Nat}
end
-- what is asked
def b1W (s : List Int) (l : List Mth) (D0 : List Rul) (f0 : List Fct) : Bool := (Y8 s l && a2k s D0) && J6 s f0
def b3z (s : List Int) (l : List Mth) (D0 : List Rul) (f0 : List Fct) (F6 : List Int) : List Fct := if b1W s l D0 f0 then (b2B l D0 f0 F6).1 else []
end Go.Proofs.YtbedienpleiamaaGreat
