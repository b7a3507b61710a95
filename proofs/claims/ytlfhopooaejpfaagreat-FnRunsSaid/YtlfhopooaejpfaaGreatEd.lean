import Derived.Test.YtlfhopooaejpfaaGreatDz
import Derived.Test.YtlfhopooaejpfaaGreatBe
section
namespace Go.Proofs.YtlfhopooaejpfaaGreat
set_option linter.unusedVariables false
set_option linter.unusedSimpArgs false
def b9N (s : List Int) (d4 : List Fct) : Prop := d4.length ≤ 7000 ∧ ∀ f ∈ d4, I0 s f = true
abbrev NoS := List Fct × List Lin
abbrev UU := List Fct × List Int × List Acs × List Lin
def notU (S : NoS) (x : Lin) : NoS := if I2 S.1 x.2.2 then S else (D1 S.1 x.2.2, S.2 ++ [x])
def notes (S : NoS) (xs : List Lin) : NoS := xs.foldl notU S
def lnA (a : Acs) (f : Fct) : Lin := (-1, a, f)
def lnR (F2 : List Rul) (F : List Fct) (f : Fct) : Lin := (b4K F2 F f, (0, []), f)
def rndA (l : List Mth) (d4 : List Fct) (O : List Acs) (S : NoS) : NoS := O.foldl (fun S a => notes S ((b0s l d4 a).map (lnA a))) S
def uO (l : List Mth) (u : UU) : List Acs := S8 u.2.1 u.2.2.1 l 0
def uA (l : List Mth) (d4 : List Fct) (u : UU) : NoS := rndA l d4 (uO l u) (u.1, u.2.2.2)
def uM (l : List Mth) (F2 : List Rul) (d4 : List Fct) (u : UU) : List Fct := b1S F2 (uA l d4 u).1
def uD (l : List Mth) (F2 : List Rul) (d4 : List Fct) (u : UU) : List Lin := (uM l F2 d4 u).map (lnR F2 (uA l d4 u).1)
def uS (l : List Mth) (F2 : List Rul) (d4 : List Fct) (u : UU) : NoS := notes (uA l d4 u) (uD l F2 d4 u)
def b1T (l : List Mth) (F2 : List Rul) (d4 : List Fct) (u : UU) : UU := ((uS l F2 d4 u).1, (uS l F2 d4 u).1.foldl pvI u.2.1, u.2.2.1 ++ uO l u, (uS l F2 d4 u).2)
def uIt (l : List Mth) (F2 : List Rul) (d4 : List Fct) (I5 : List Int) : Nat → UU
 | 0 => ([], P7 (I5.filter fun t => inR t 0 9), [], [])
 | n + 1 => b1T l F2 d4 (uIt l F2 d4 I5 n)
def b8z (l : List Mth) (F2 : List Rul) (d4 : List Fct) (I5 : List Int) : UU := uIt l F2 d4 I5 6000
-- noting
structure nInv (s : List Int) (S : NoS) : Prop where
 fold : S.1 = (S.2.map fun x => x.2.2).foldl D1 []
 nd : (S.2.map fun x => x.2.2).Nodup
 ok : ∀ x ∈ S.2, I0 s x.2.2 = true
 acc : ∀ x ∈ S.2, x.2.1.2.length ≤ 3
theorem nInv.mem {s : List Int} {S : NoS} (h : nInv s S) {f : Fct} : f ∈ S.1 ↔ ∃ x ∈ S.2, x.2.2 = f := by
 rw [h.fold, a1k]
 simp only [List.not_mem_nil, false_or, List.mem_map]
theorem nInv.len {s : List Int} {S : NoS} (h : nInv s S) : S.2.length ≤ 5324 ∧ S.1.length ≤ 5324 := by
 have h1 := a8z (s := s) h.nd fun f hf => by
  obtain ⟨x, hx, rfl⟩ := List.mem_map.1 hf
  exact h.ok x hx
 have h2 := b4i (m := S.2.map fun x => x.2.2) (x := [])
 rw [← h.fold] at h2
 simp only [List.length_map, List.length_nil] at h1 h2
 omega
theorem nInv.notU {s : List Int} {S : NoS} {x : Lin} (h : nInv s S) (h1 : I0 s x.2.2 = true) (h2 : x.2.1.2.length ≤ 3) : nInv s (notU S x) := by
 unfold Go.Proofs.YtlfhopooaejpfaaGreat.notU
 split
 ·exact h
 ·rename_i hn
  refine ⟨?_, ?_, fun y hy => ?_, fun y hy => ?_⟩
  ·simp only [List.map_append, List.foldl_append, ← h.fold]; rfl
  ·rw [List.map_append, List.nodup_append]
   refine ⟨h.nd, by simp, fun a ha b hb e => hn ?_⟩
   simp only [List.map_cons, List.map_nil, List.mem_singleton] at hb
   subst e; subst hb
   obtain ⟨y, hy, e⟩ := List.mem_map.1 ha
   exact a1C.2 (h.mem.2 ⟨y, hy, e⟩)
  ·rcases List.mem_append.1 hy with hy | hy
   ·exact h.ok y hy
   ·obtain rfl := List.mem_singleton.1 hy; exact h1
  ·rcases List.mem_append.1 hy with hy | hy
   ·exact h.acc y hy
   ·obtain rfl := List.mem_singleton.1 hy; exact h2
theorem nInv.notes {s : List Int} : ∀ {xs : List Lin} {S : NoS}, nInv s S → (∀ x ∈ xs, I0 s x.2.2 = true ∧ x.2.1.2.length ≤ 3) → nInv s (notes S xs)
 | [], _, h, _ => h
 | x :: xs, S, h, hx => nInv.notes (xs := xs) (h.notU (hx x (by simp)).1 (hx x (by simp)).2) fun y hy => hx y (by simp [hy])
theorem b6f {s : List Int} {l : List Mth} {d4 : List Fct} {a : Acs} (hf : ∀ f ∈ d4, I0 s f = true) (ha : a.2.length ≤ 3) : ∀ x ∈ (b0s l d4 a).map (lnA a), I0 s x.2.2 = true ∧ x.2.1.2.length ≤ 3 := by
 intro x hx
 obtain ⟨f, h, rfl⟩ := List.mem_map.1 hx
 exact ⟨hf f (List.mem_filter.1 h).1, ha⟩
theorem b3z {s : List Int} {l : List Mth} {d4 : List Fct} (hf : ∀ f ∈ d4, I0 s f = true) : ∀ {O : List Acs} {S : NoS}, nInv s S → (∀ a ∈ O, a.2.length ≤ 3) → nInv s (rndA l d4 O S)
 | [], _, h, _ => h
 | a :: O, S, h, ho => b3z hf (O := O) (h.notes (b6f hf (ho a (by simp)))) fun b hb => ho b (by simp [hb])
-- what is missing
-- a round
structure uInv (s : List Int) (u : UU) : Prop where
 n : nInv s (u.1, u.2.2.2)
 a1b : a5r u.2.1 = true
 cl : ∀ f ∈ u.1, ∀ x ∈ f.2, x ∈ u.2.1
 acc : ∀ a ∈ u.2.2.1, a.2.length ≤ 3
section
variable {s : List Int} {l : List Mth} {F2 : List Rul} {d4 : List Fct} {I5 : List Int} {u : UU} {g : Nat}
structure uStay (l : List Mth) (F2 : List Rul) (d4 : List Fct) (u : UU) : Prop where
 a : uA l d4 u = (u.1, u.2.2.2)
 m : uM l F2 d4 u = []
 s : uS l F2 d4 u = (u.1, u.2.2.2)
 v : (b1T l F2 d4 u).2.1 = u.2.1
 o : uO l (b1T l F2 d4 u) = []
def gI (s : List Int) (l : List Mth) (F2 : List Rul) (d4 : List Fct) (I5 : List Int) (g : Nat) : Prop :=
 uInv s (uIt l F2 d4 I5 g) ∧ (g ≤ (uIt l F2 d4 I5 g).2.2.2.length ∨ (g ≤ (uIt l F2 d4 I5 g).2.2.2.length + 1 ∧ b1T l F2 d4 (uIt l F2 d4 I5 g) = uIt l F2 d4 I5 g ∧ uO l (uIt l F2 d4 I5 g) = []))
end
-- within a round
section
variable {s : List Int} {l : List Mth} {F2 : List Rul} {d4 F : List Fct} {V : List Int} {A : List Acs} {L : List Lin} {g k j i : Nat} {S : NoS}
end
section
variable {s : List Int} {l : List Mth} {F2 : List Rul} {d4 : List Fct} {I5 : List Int} {u : UU} {g i p n : Nat}
end
-- what is asked
def b7k (s : List Int) (l : List Mth) (F2 : List Rul) (d4 : List Fct) : Bool := (G5 s l && a3u s F2) && E0 s d4
def b9m (s : List Int) (l : List Mth) (F2 : List Rul) (d4 : List Fct) (I5 : List Int) : List Fct := if b7k s l F2 d4 then (b8z l F2 d4 I5).1 else []
end Go.Proofs.YtlfhopooaejpfaaGreat
end
section
namespace Go.Proofs.YtlfhopooaejpfaaGreat
open Go.RowKit
set_option linter.unusedVariables false
set_option linter.unusedSimpArgs false
def b7m (F2 : List Rul) (F : List Fct) : List Fct → List Value → List Value
 | [], _ => []
 | f :: M, cs => [.int .i64 (b4K F2 F f), .int .i64 0, .slice none 0 0] ++ (cs.take 2 ++ b7m F2 F M (cs.drop 2))
section
variable {n : Nat} {w0 w : World} {L0 Lp : List Nat} {fr : Fr} {H R pre rest : List HP} {G : Act → World → Prop} {a : Option Addr} {m c i : Nat} {cs oc mc : List Value} {xs M F : List Fct} {xs0 : List Lin} {F2 : List Rul}
theorem a8C {a : Option Addr} {m c : Nat} {xs : List Int} {w : World} {L : List Nat} (h : (ow eIs [.slice a m c] xs).holds w L) : m = xs.length ∧ (∀ x ∈ xs, I64 x) ∧ ∃ L1, (row tI 1 a m c (ints xs)).holds w L1 ∧ ∀ b ∈ L1, b ∈ L := by
 obtain ⟨ccs, L1, L2, rfl, g1, _, g3, g4⟩ := a0k h
 obtain ⟨rfl, h1, _⟩ := C4.ints.1 g3
 exact ⟨g1, h1, L1, g4, fun b hb => by simp [hb]⟩
theorem b5Z {a : Option Addr} {m c : Nat} {xs : List Int} (j : Nat) (hm : ow eIs [.slice a m c] xs ∈ H) (hj : j < xs.length) (h : I64 xs[j] → Ent n w0 L0 fr H G) : Ent n w0 L0 fr H G := fun ac w h1 h2 => by
 obtain ⟨L, hL⟩ := h2.mem hm
 exact h ((a8C hL).2.1 _ (List.getElem_mem hj)) ac w h1 h2
theorem b4z {a : Option Addr} {m c g j : Nat} {xs : List Int} (ha : a = some ⟨g, 0, none⟩) (hm : Go.Proofs.YtlfhopooaejpfaaGreat.ow eIs [.slice a m c] xs ∈ H) (hj : j < xs.length) : Has w0 L0 H g (0 + j * 1) [.int .i64 xs[j]] := fun w h => by
 obtain ⟨L', hL⟩ := h.mem hm
 obtain ⟨g1, _, L1, g4, _⟩ := a8C hL
 obtain ⟨_, g5⟩ := g4
 rcases g5 with ⟨_, h0, _⟩ | ⟨g', cur, h2, h3, h4, h5, h6, h7, _⟩
 ·omega
 rw [ha] at h2; cases h2
 intro i v hi
 have hi0 : i = 0 ∧ v = .int .i64 xs[j] := by
  rcases i with _ | i
  ·simp at hi; exact ⟨rfl, hi.symm⟩
  ·simp at hi
 obtain ⟨rfl, rfl⟩ := hi0
 have h8 : (ints xs)[j]? = some (.int .i64 xs[j]) := by simp [Go.Proofs.YtlfhopooaejpfaaGreat.ints, hj]
 rw [← h7, List.getElem?_take] at h8
 split at h8
 ·simpa [World.cell?, h3] using h8
 ·cases h8
end
end Go.Proofs.YtlfhopooaejpfaaGreat
end
