import Derived.Test.YtfnbilpemdgkkaaGreatDoorBd
import Derived.Lib.Join
import Derived.Lib.ItoaNum
namespace Go.Proofs.YtfnbilpemdgkkaaGreatDoor
set_option linter.unusedVariables false
set_option linter.unusedSimpArgs false
abbrev Str := List UInt8
def dig (n : Int) : Str := [UInt8.ofNat (48 + n.toNat)]
def itS (p : Int × Str) : Int × Str := if p.1 = 0 then p else (p.1.tdiv 10, UInt8.ofNat (48 + (p.1.tmod 10).natAbs) :: p.2)
def itN (n : Int) : Nat → Int × Str
 | 0 => (n, [])
 | g + 1 => itS (itN n g)
def z7 (n : Int) : Str := if n = 0 then [48] else if n < 0 then 45 :: (itN n 20).2 else (itN n 20).2
section
variable {n : Int} {g : Nat}
theorem a2Z : ∀ {g : Nat}, (itN n g).1.natAbs * 10 ^ g ≤ n.natAbs
 | 0 => by simp [itN]
 | g + 1 => by
  have h := a2Z (g := g)
  simp only [itN, itS]
  split
  ·rename_i h0; rw [h0]; simp
  ·have h1 : ((itN n g).1.tdiv 10).natAbs = (itN n g).1.natAbs / 10 := Int.natAbs_tdiv ..
   simp only [h1]
   have h2 : (itN n g).1.natAbs / 10 * 10 ≤ (itN n g).1.natAbs := Nat.div_mul_le_self _ _
   have h3 := Nat.mul_le_mul_right (10 ^ g) h2
   rw [Nat.mul_assoc, ← Nat.pow_succ'] at h3
   exact Nat.le_trans h3 h
theorem a7k (hn : I64 n) (h : (itN n g).1 ≠ 0) : g < 20 := by
 rcases Nat.lt_or_ge g 20 with h1 | h1
 ·exact h1
 ·have h2 := a2Z (n := n) (g := g)
  have h3 : (10 : Nat) ^ 20 ≤ 10 ^ g := Nat.pow_le_pow_right (by decide) h1
  have h4 : 1 * 10 ^ g ≤ (itN n g).1.natAbs * 10 ^ g := Nat.mul_le_mul_right _ (by omega)
  have h5 : (10 : Nat) ^ 20 = 100000000000000000000 := by decide
  unfold I64 at hn; omega
theorem a4G (h : (itN n g).1 = 0) : ∀ k, itN n (g + k) = itN n g
 | 0 => rfl
 | k + 1 => by
  rw [← Nat.add_assoc]
  show itS (itN n (g + k)) = _
  rw [a4G h k, itS, if_pos h]
theorem a5J (hg : g ≤ 20) (h : (itN n g).1 = 0) : (itN n g).2 = (itN n 20).2 := by
 have := a4G h (20 - g)
 rw [show g + (20 - g) = 20 by omega] at this
 rw [this]
theorem a9h (hn : I64 n) : I64 (itN n g).1 := by
 have h2 := a2Z (n := n) (g := g)
 have h3 : 1 ≤ 10 ^ g := Nat.pow_pos (by decide)
 have h4 := Nat.mul_le_mul_left (itN n g).1.natAbs h3
 rcases Nat.eq_zero_or_pos g with h5 | h5
 ·subst h5; exact hn
 ·have h6 : 10 ^ 1 ≤ 10 ^ g := Nat.pow_le_pow_right (by decide) h5
  have h7 := Nat.mul_le_mul_left (itN n g).1.natAbs h6
  unfold I64 at hn ⊢; omega
theorem a3l : ∀ {g : Nat}, (itN n g).2.length ≤ g
 | 0 => by simp [itN]
 | g + 1 => by
  have h := a3l (g := g)
  simp only [itN, itS]
  split
  ·omega
  ·simpa using h
theorem a0h (h : (itN n g).1 ≠ 0) : (itN n g).1.tdiv 10 = (itN n (g + 1)).1 := by simp only [itN, itS, if_neg h]
theorem O2 (h : (itN n g).1 ≠ 0) {d : Int} (hd : d = (itN n g).1.tmod 10 ∨ d = -(itN n g).1.tmod 10) (h0 : 0 ≤ d) : [UInt8.ofNat (48 + d).toNat] ++ (itN n g).2 = (itN n (g + 1)).2 := by
 simp only [itN, itS, if_neg h, List.singleton_append]
 have : (48 + d).toNat = 48 + ((itN n g).1.tmod 10).natAbs := by omega
 rw [this]
theorem O5 : (z7 n).length ≤ 21 := by
 have := a3l (n := n) (g := 20)
 unfold z7
 split
 ·simp
 ·split
  ·simp; omega
  ·omega
theorem a6p : z7 0 = [48] := rfl
theorem a6T (h0 : n ≠ 0) (h : n < 0) : [45] ++ (itN n 20).2 = z7 n := by rw [z7, if_neg h0, if_pos h]; rfl
theorem a6P (h0 : n ≠ 0) (h : ¬ n < 0) : (itN n 20).2 = z7 n := by rw [z7, if_neg h0, if_neg h]
end
theorem a7d {i : Int} (h : 0 ≤ i ∧ i ≤ 9) : (List.drop i.toNat ([48, 49, 50, 51, 52, 53, 54, 55, 56, 57, 97, 98, 99, 100, 101, 102, 103, 104, 105, 106, 107, 108, 109, 110, 111, 112, 113, 114, 115, 116, 117, 118, 119, 120, 121, 122] : Str)).take ((i + 1).toNat - i.toNat) = z7 i := by
 have : i = 0 ∨ i = 1 ∨ i = 2 ∨ i = 3 ∨ i = 4 ∨ i = 5 ∨ i = 6 ∨ i = 7 ∨ i = 8 ∨ i = 9 := by omega
 rcases this with rfl | rfl | rfl | rfl | rfl | rfl | rfl | rfl | rfl | rfl <;> decide +kernel
theorem a8e {x : Int} : -9 ≤ x.tmod 10 ∧ x.tmod 10 ≤ 9 := by
 have h1 := Int.tmod_lt_of_pos x (show (0 : Int) < 10 by decide)
 have h2 := Int.lt_tmod_of_pos x (show (0 : Int) < 10 by decide)
 omega
-- joining
section
variable {α : Type} {xs : List Str} {x sep : Str} {K g : Nat} {l : List α} {f : α → Str}
theorem a3L : ∀ {xs : List Str}, Lib.join (xs ++ [x]) sep = if xs.length = 0 then x else Lib.join xs sep ++ sep ++ x
 | [] => by simp [Lib.join_one]
 | y :: r => by simp [Lib.join_cons, Lib.joinTail]
theorem a0M (h : g < l.length) (h0 : ¬ 0 < g) : Lib.join ((l.take g).map f) sep ++ f l[g] = Lib.join ((l.take (g + 1)).map f) sep := by
 have : g = 0 := by omega
 subst this
 rw [List.take_succ_eq_append_getElem h, List.map_append, List.map_singleton, a3L]; simp [Lib.join_nil]
theorem a0O (h : g < l.length) (h0 : 0 < g) : (Lib.join ((l.take g).map f) sep ++ sep) ++ f l[g] = Lib.join ((l.take (g + 1)).map f) sep := by
 rw [List.take_succ_eq_append_getElem h, List.map_append, List.map_singleton, a3L, if_neg (by rw [List.length_map, List.length_take]; omega)]
theorem a4P : ∀ {xs : List Str}, (∀ x ∈ xs, x.length ≤ K) → (Lib.join xs sep).length ≤ xs.length * (K + sep.length)
 | [], _ => by simp [Lib.join_nil]
 | x :: r, h => by
  have h1 : ∀ {r : List Str}, (∀ x ∈ r, x.length ≤ K) → (Lib.joinTail sep r).length ≤ r.length * (K + sep.length) := by
   intro r
   induction r with
   | nil => simp [Lib.joinTail]
   | cons y r ih =>
    intro hr
    have h2 := ih fun z hz => hr z (by simp [hz])
    have h3 := hr y (by simp)
    simp only [Lib.joinTail, List.map_cons, List.flatten_cons, List.length_append, List.length_cons, Nat.succ_mul] at h2 ⊢
    omega
  have h4 := h1 (r := r) fun z hz => h z (by simp [hz])
  have h5 := h x (by simp)
  rw [Lib.join_cons, List.length_append, List.length_cons, Nat.succ_mul]; omega
theorem N3 {n : Nat} (hf : ∀ x, (f x).length ≤ K) (hn : l.length ≤ n) : (Lib.join (l.map f) sep).length ≤ n * (K + sep.length) := by
 have h1 := a4P (K := K) (sep := sep) (xs := l.map f) (fun x hx => by obtain ⟨y, _, rfl⟩ := List.mem_map.1 hx; exact hf y)
 rw [List.length_map] at h1
 exact Nat.le_trans h1 (Nat.mul_le_mul_right _ hn)
theorem a4i {n B : Nat} (hf : ∀ x, (f x).length ≤ K) (hn : l.length ≤ n) (hB : n * (K + sep.length) ≤ B) : (Lib.join ((l.take g).map f) sep).length ≤ B :=
 Nat.le_trans (N3 hf (show (l.take g).length ≤ n by rw [List.length_take]; omega)) hB
end
-- terms, atoms, queries
def a8C (t : Int) : Str := if inR t 10 17 then [120] ++ z7 (t - 10) else z7 t
def a4s (a : Int × List Int) : Str := if inR a.1 0 2 && (inR (a.2.length : Int) 1 3 && !a.2.any fun t => !K4 t) then [114] ++ z7 a.1 ++ [40] ++ Lib.join (a.2.map a8C) [44] ++ [41] else []
def a7o (s : Str) : Bool := decide (s = [])
def nT {α : Type} (f : α → Str) (l : List α) : Bool := (l.map f).any a7o
def b0M (h : List Int) : Str := if 0 < h.length then Lib.join (h.map a8C) [44] else [121, 101, 115]
def a4u (q : List Int × List (Int × List Int)) : Str :=
 if inR (q.2.length : Int) 1 4 && (!nT a4s q.2 && N6 q) then b0M q.1 ++ [32, 105, 102, 32] ++ Lib.join (q.2.map a4s) [32, 97, 110, 100, 32] else []
def b2W (u : List (List Int × List (Int × List Int))) : Str := if nT a4u u then [] else Lib.join (u.map a4u) [32, 111, 114, 32]
def unl : Str := [32, 117, 110, 108, 101, 115, 115, 32]
def b0x (s : Str) (l : List (Int × List Int)) : Str := l.foldl (fun s a => s ++ unl ++ a4s a) s
def b2K (g : (List Int × List (Int × List Int)) × List (Int × List Int)) : Str := if a7o (a4u g.1) || nT a4s g.2 then [] else b0x (a4u g.1) g.2
def b2L (r : Int × Int × List Int) : Str :=
 if inR r.1 0 2 && (inR r.2.1 0 2 && (inR (r.2.2.length : Int) 1 3 && a6C r.2.2 3)) then [114] ++ z7 r.1 ++ [32, 103, 105, 118, 101, 115, 32, 114] ++ z7 r.2.1 ++ [32] ++ Lib.join (r.2.2.map z7) [44] else []
section
variable {α : Type} {f : α → Str} {l : List α} {i : Nat}
end
section
variable {l : List Int} {i : Nat}
end
section
variable {h : List Int} {a : List (Int × List Int)} {i : Nat}
abbrev b3j (a : List (Int × List Int)) : Int → Bool := fun t => !F5 (u6 (fun t => inR t 10 17) a) t
end
section
variable {q : List Int × List (Int × List Int)}
end
section
variable {u : List (List Int × List (Int × List Int))} {g : (List Int × List (Int × List Int)) × List (Int × List Int)} {s : Str} {l : List (Int × List Int)} {r : Nat}
end
-- every number
-- lines and proofs
def b0n (f : Int × List Int) : Str := if inR f.1 0 2 && (inR (f.2.length : Int) 1 3 && P2 f.2) then [114] ++ z7 f.1 ++ [40] ++ Lib.join (f.2.map z7) [44] ++ [41] else []
def b0q (a : Int × List Int) : Str := if inR a.1 0 4 && (!decide ((3 : Int) < a.2.length) && P2 a.2) then [109] ++ z7 a.1 ++ [40] ++ Lib.join (a.2.map z7) [44] ++ [41] else []
def b0j (x : Int × (Int × List Int) × Int × List Int) : Str := b0n x.2.2 ++ [32, 98, 121, 32] ++ (if x.1 = -1 then b0q x.2.1 else [114, 117, 108, 101, 32] ++ z7 x.1)
def b2O (l : List (Int × (Int × List Int) × Int × List Int)) : Str := if l.length = 0 then [110, 111, 110, 101] else Lib.join (l.map b0j) [59, 32]
section
variable {l : List (Int × (Int × List Int) × Int × List Int)} {g : Nat}
end
end Go.Proofs.YtfnbilpemdgkkaaGreatDoor
