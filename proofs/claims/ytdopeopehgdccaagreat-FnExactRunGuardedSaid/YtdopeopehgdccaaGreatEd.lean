import Derived.Test.YtdopeopehgdccaaGreatDz
import Derived.Test.YtdopeopehgdccaaGreatBe
section
namespace Go.Proofs.YtdopeopehgdccaaGreat
set_option linter.unusedVariables false
set_option linter.unusedSimpArgs false
def c1w (s : List Int) (d8 : List Fct) : Prop := d8.length ≤ 7000 ∧ ∀ f ∈ d8, J2 s f = true
abbrev NoS := List Fct × List Lin
abbrev UU := List Fct × List Int × List Acs × List Lin
def notU (S : NoS) (x : Lin) : NoS := if K6 S.1 x.2.2 then S else (F0 S.1 x.2.2, S.2 ++ [x])
def notes (S : NoS) (xs : List Lin) : NoS := xs.foldl notU S
def lnA (a : Acs) (f : Fct) : Lin := (-1, a, f)
def lnR (G6 : List Rul) (F : List Fct) (f : Fct) : Lin := (b6U G6 F f, (0, []), f)
def rndA (l : List Mth) (d8 : List Fct) (O : List Acs) (S : NoS) : NoS := O.foldl (fun S a => notes S ((b3i l d8 a).map (lnA a))) S
def uO (l : List Mth) (u : UU) : List Acs := a0d u.2.1 u.2.2.1 l 0
def uA (l : List Mth) (d8 : List Fct) (u : UU) : NoS := rndA l d8 (uO l u) (u.1, u.2.2.2)
def uM (l : List Mth) (G6 : List Rul) (d8 : List Fct) (u : UU) : List Fct := b4J G6 (uA l d8 u).1
def uD (l : List Mth) (G6 : List Rul) (d8 : List Fct) (u : UU) : List Lin := (uM l G6 d8 u).map (lnR G6 (uA l d8 u).1)
def uS (l : List Mth) (G6 : List Rul) (d8 : List Fct) (u : UU) : NoS := notes (uA l d8 u) (uD l G6 d8 u)
def b4D (l : List Mth) (G6 : List Rul) (d8 : List Fct) (u : UU) : UU := ((uS l G6 d8 u).1, (uS l G6 d8 u).1.foldl pvI u.2.1, u.2.2.1 ++ uO l u, (uS l G6 d8 u).2)
def uIt (l : List Mth) (G6 : List Rul) (d8 : List Fct) (M3 : List Int) : Nat → UU
 | 0 => ([], V4 (M3.filter fun t => inR t 0 9), [], [])
 | n + 1 => b4D l G6 d8 (uIt l G6 d8 M3 n)
def c0r (l : List Mth) (G6 : List Rul) (d8 : List Fct) (M3 : List Int) : UU := uIt l G6 d8 M3 6000
-- noting
structure nInv (s : List Int) (S : NoS) : Prop where
 fold : S.1 = (S.2.map fun x => x.2.2).foldl F0 []
 nd : (S.2.map fun x => x.2.2).Nodup
 ok : ∀ x ∈ S.2, J2 s x.2.2 = true
 acc : ∀ x ∈ S.2, x.2.1.2.length ≤ 3
theorem nInv.mem {s : List Int} {S : NoS} (h : nInv s S) {f : Fct} : f ∈ S.1 ↔ ∃ x ∈ S.2, x.2.2 = f := by
 rw [h.fold, a3i]
 simp only [List.not_mem_nil, false_or, List.mem_map]
theorem nInv.len {s : List Int} {S : NoS} (h : nInv s S) : S.2.length ≤ 5324 ∧ S.1.length ≤ 5324 := by
 have h1 := b1g (s := s) h.nd fun f hf => by
  obtain ⟨x, hx, rfl⟩ := List.mem_map.1 hf
  exact h.ok x hx
 have h2 := b6J (m := S.2.map fun x => x.2.2) (x := [])
 rw [← h.fold] at h2
 simp only [List.length_map, List.length_nil] at h1 h2
 omega
theorem nInv.notU {s : List Int} {S : NoS} {x : Lin} (h : nInv s S) (h1 : J2 s x.2.2 = true) (h2 : x.2.1.2.length ≤ 3) : nInv s (notU S x) := by
 unfold Go.Proofs.YtdopeopehgdccaaGreat.notU
 split
 ·exact h
 ·rename_i hn
  refine ⟨?_, ?_, fun y hy => ?_, fun y hy => ?_⟩
  ·simp only [List.map_append, List.foldl_append, ← h.fold]; rfl
  ·rw [List.map_append, List.nodup_append]
   refine ⟨h.nd, by simp, fun a ha b hb e => hn ?_⟩
   simp only [List.map_cons, List.map_nil, List.mem_singleton] at hb
   subst e; subst hb
   obtain ⟨y, hy, e⟩ := List.mem_map.1 ha
   exact a8E.2 (h.mem.2 ⟨y, hy, e⟩)
  ·rcases List.mem_append.1 hy with hy | hy
   ·exact h.ok y hy
   ·obtain rfl := List.mem_singleton.1 hy; exact h1
  ·rcases List.mem_append.1 hy with hy | hy
   ·exact h.acc y hy
   ·obtain rfl := List.mem_singleton.1 hy; exact h2
theorem nInv.notes {s : List Int} : ∀ {xs : List Lin} {S : NoS}, nInv s S → (∀ x ∈ xs, J2 s x.2.2 = true ∧ x.2.1.2.length ≤ 3) → nInv s (notes S xs)
 | [], _, h, _ => h
 | x :: xs, S, h, hx => nInv.notes (xs := xs) (h.notU (hx x (by simp)).1 (hx x (by simp)).2) fun y hy => hx y (by simp [hy])
theorem b8y {s : List Int} {l : List Mth} {d8 : List Fct} {a : Acs} (hf : ∀ f ∈ d8, J2 s f = true) (ha : a.2.length ≤ 3) : ∀ x ∈ (b3i l d8 a).map (lnA a), J2 s x.2.2 = true ∧ x.2.1.2.length ≤ 3 := by
 intro x hx
 obtain ⟨f, h, rfl⟩ := List.mem_map.1 hx
 exact ⟨hf f (List.mem_filter.1 h).1, ha⟩
theorem b5S {s : List Int} {l : List Mth} {d8 : List Fct} (hf : ∀ f ∈ d8, J2 s f = true) : ∀ {O : List Acs} {S : NoS}, nInv s S → (∀ a ∈ O, a.2.length ≤ 3) → nInv s (rndA l d8 O S)
 | [], _, h, _ => h
 | a :: O, S, h, ho => b5S hf (O := O) (h.notes (b8y hf (ho a (by simp)))) fun b hb => ho b (by simp [hb])
-- what is missing
-- a round
structure uInv (s : List Int) (u : UU) : Prop where
 n : nInv s (u.1, u.2.2.2)
 a2W : a7N u.2.1 = true
 cl : ∀ f ∈ u.1, ∀ x ∈ f.2, x ∈ u.2.1
 acc : ∀ a ∈ u.2.2.1, a.2.length ≤ 3
section
variable {s : List Int} {l : List Mth} {G6 : List Rul} {d8 : List Fct} {M3 : List Int} {u : UU} {g : Nat}
structure uStay (l : List Mth) (G6 : List Rul) (d8 : List Fct) (u : UU) : Prop where
 a : uA l d8 u = (u.1, u.2.2.2)
 m : uM l G6 d8 u = []
 s : uS l G6 d8 u = (u.1, u.2.2.2)
 v : (b4D l G6 d8 u).2.1 = u.2.1
 o : uO l (b4D l G6 d8 u) = []
def gI (s : List Int) (l : List Mth) (G6 : List Rul) (d8 : List Fct) (M3 : List Int) (g : Nat) : Prop :=
 uInv s (uIt l G6 d8 M3 g) ∧ (g ≤ (uIt l G6 d8 M3 g).2.2.2.length ∨ (g ≤ (uIt l G6 d8 M3 g).2.2.2.length + 1 ∧ b4D l G6 d8 (uIt l G6 d8 M3 g) = uIt l G6 d8 M3 g ∧ uO l (uIt l G6 d8 M3 g) = []))
end
-- within a round
section
variable {s : List Int} {l : List Mth} {G6 : List Rul} {d8 F : List Fct} {V : List Int} {A : List Acs} {L : List Lin} {g k j i : Nat} {S : NoS}
end
section
variable {s : List Int} {l : List Mth} {G6 : List Rul} {d8 : List Fct} {M3 : List Int} {u : UU} {g i p n : Nat}
end
-- what is asked
def b9E (s : List Int) (l : List Mth) (G6 : List Rul) (d8 : List Fct) : Bool := (G9 s l && a5K s G6) && F2 s d8
def c0Z (s : List Int) (l : List Mth) (G6 : List Rul) (d8 : List Fct) (M3 : List Int) : List Fct := if b9E s l G6 d8 then (c0r l G6 d8 M3).1 else []
end Go.Proofs.YtdopeopehgdccaaGreat
end
section
namespace Go.Proofs.YtdopeopehgdccaaGreat
open Go.RowKit
set_option linter.unusedVariables false
set_option linter.unusedSimpArgs false
def b9H (G6 : List Rul) (F : List Fct) : List Fct → List Value → List Value
 | [], _ => []
 | f :: M, cs => [.int .i64 (b6U G6 F f), .int .i64 0, .slice none 0 0] ++ (cs.take 2 ++ b9H G6 F M (cs.drop 2))
section
variable {n : Nat} {w0 w : World} {L0 Lp : List Nat} {fr : Fr} {H R pre rest : List HP} {G : Act → World → Prop} {a : Option Addr} {m c i : Nat} {cs oc mc : List Value} {xs M F : List Fct} {xs0 : List Lin} {G6 : List Rul}
theorem b0Z {a : Option Addr} {m c : Nat} {xs : List Int} {w : World} {L : List Nat} (h : (ow eIs [.slice a m c] xs).holds w L) : m = xs.length ∧ (∀ x ∈ xs, I64 x) ∧ ∃ L1, (row tI 1 a m c (ints xs)).holds w L1 ∧ ∀ b ∈ L1, b ∈ L := by
 obtain ⟨ccs, L1, L2, rfl, g1, _, g3, g4⟩ := a2p h
 obtain ⟨rfl, h1, _⟩ := D8.ints.1 g3
 exact ⟨g1, h1, L1, g4, fun b hb => by simp [hb]⟩
theorem a7Z {a : Option Addr} {m c : Nat} {xs : List Int} (j : Nat) (hm : ow eIs [.slice a m c] xs ∈ H) (hj : j < xs.length) (h : I64 xs[j] → Ent n w0 L0 fr H G) : Ent n w0 L0 fr H G := fun ac w h1 h2 => by
 obtain ⟨L, hL⟩ := h2.mem hm
 exact h ((b0Z hL).2.1 _ (List.getElem_mem hj)) ac w h1 h2
theorem a6D {a : Option Addr} {m c g j : Nat} {xs : List Int} (ha : a = some ⟨g, 0, none⟩) (hm : Go.Proofs.YtdopeopehgdccaaGreat.ow eIs [.slice a m c] xs ∈ H) (hj : j < xs.length) : Has w0 L0 H g (0 + j * 1) [.int .i64 xs[j]] := fun w h => by
 obtain ⟨L', hL⟩ := h.mem hm
 obtain ⟨g1, _, L1, g4, _⟩ := b0Z hL
 obtain ⟨_, g5⟩ := g4
 rcases g5 with ⟨_, h0, _⟩ | ⟨g', cur, h2, h3, h4, h5, h6, h7, _⟩
 ·omega
 rw [ha] at h2; cases h2
 intro i v hi
 have hi0 : i = 0 ∧ v = .int .i64 xs[j] := by
  rcases i with _ | i
  ·simp at hi; exact ⟨rfl, hi.symm⟩
  ·simp at hi
 obtain ⟨rfl, rfl⟩ := hi0
 have h8 : (ints xs)[j]? = some (.int .i64 xs[j]) := by simp [Go.Proofs.YtdopeopehgdccaaGreat.ints, hj]
 rw [← h7, List.getElem?_take] at h8
 split at h8
 ·simpa [World.cell?, h3] using h8
 ·cases h8
end
end Go.Proofs.YtdopeopehgdccaaGreat
end
