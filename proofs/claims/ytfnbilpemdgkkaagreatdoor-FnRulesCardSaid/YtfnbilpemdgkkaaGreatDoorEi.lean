import Derived.Test.YtfnbilpemdgkkaaGreatDoorBd
import Derived.Lib.Join
import Derived.Lib.ItoaNum
namespace Go.Proofs.YtfnbilpemdgkkaaGreatDoor
set_option linter.unusedVariables false
set_option linter.unusedSimpArgs false
abbrev Str := List UInt8
def dig (n : Int) : Str := [UInt8.ofNat (48 + n.toNat)]
def itS (p : Int × Str) : Int × Str := if p.1 = 0 then p else (p.1.tdiv 10, UInt8.ofNat (48 + (p.1.tmod 10).natAbs) :: p.2)
def itN (n : Int) : Nat → Int × Str
 | 0 => (n, [])
 | g + 1 => itS (itN n g)
def n9 (n : Int) : Str := if n = 0 then [48] else if n < 0 then 45 :: (itN n 20).2 else (itN n 20).2
section
variable {n : Int} {g : Nat}
theorem a2B : ∀ {g : Nat}, (itN n g).1.natAbs * 10 ^ g ≤ n.natAbs
 | 0 => by simp [itN]
 | g + 1 => by
  have h := a2B (g := g)
  simp only [itN, itS]
  split
  ·rename_i h0; rw [h0]; simp
  ·have h1 : ((itN n g).1.tdiv 10).natAbs = (itN n g).1.natAbs / 10 := Int.natAbs_tdiv ..
   simp only [h1]
   have h2 : (itN n g).1.natAbs / 10 * 10 ≤ (itN n g).1.natAbs := Nat.div_mul_le_self _ _
   have h3 := Nat.mul_le_mul_right (10 ^ g) h2
   rw [Nat.mul_assoc, ← Nat.pow_succ'] at h3
   exact Nat.le_trans h3 h
theorem a9w (hn : I64 n) (h : (itN n g).1 ≠ 0) : g < 20 := by
 rcases Nat.lt_or_ge g 20 with h1 | h1
 ·exact h1
 ·have h2 := a2B (n := n) (g := g)
  have h3 : (10 : Nat) ^ 20 ≤ 10 ^ g := Nat.pow_le_pow_right (by decide) h1
  have h4 : 1 * 10 ^ g ≤ (itN n g).1.natAbs * 10 ^ g := Nat.mul_le_mul_right _ (by omega)
  have h5 : (10 : Nat) ^ 20 = 100000000000000000000 := by decide
  unfold I64 at hn; omega
theorem a3l (h : (itN n g).1 = 0) : ∀ k, itN n (g + k) = itN n g
 | 0 => rfl
 | k + 1 => by
  rw [← Nat.add_assoc]
  show itS (itN n (g + k)) = _
  rw [a3l h k, itS, if_pos h]
theorem a4I (hg : g ≤ 20) (h : (itN n g).1 = 0) : (itN n g).2 = (itN n 20).2 := by
 have := a3l h (20 - g)
 rw [show g + (20 - g) = 20 by omega] at this
 rw [this]
theorem b2L (hn : I64 n) : I64 (itN n g).1 := by
 have h2 := a2B (n := n) (g := g)
 have h3 : 1 ≤ 10 ^ g := Nat.pow_pos (by decide)
 have h4 := Nat.mul_le_mul_left (itN n g).1.natAbs h3
 rcases Nat.eq_zero_or_pos g with h5 | h5
 ·subst h5; exact hn
 ·have h6 : 10 ^ 1 ≤ 10 ^ g := Nat.pow_le_pow_right (by decide) h5
  have h7 := Nat.mul_le_mul_left (itN n g).1.natAbs h6
  unfold I64 at hn ⊢; omega
theorem a2R : ∀ {g : Nat}, (itN n g).2.length ≤ g
 | 0 => by simp [itN]
 | g + 1 => by
  have h := a2R (g := g)
  simp only [itN, itS]
  split
  ·omega
  ·simpa using h
theorem X9 (h : (itN n g).1 ≠ 0) : (itN n g).1.tdiv 10 = (itN n (g + 1)).1 := by simp only [itN, itS, if_neg h]
theorem M9 (h : (itN n g).1 ≠ 0) {d : Int} (hd : d = (itN n g).1.tmod 10 ∨ d = -(itN n g).1.tmod 10) (h0 : 0 ≤ d) : [UInt8.ofNat (48 + d).toNat] ++ (itN n g).2 = (itN n (g + 1)).2 := by
 simp only [itN, itS, if_neg h, List.singleton_append]
 have : (48 + d).toNat = 48 + ((itN n g).1.tmod 10).natAbs := by omega
 rw [this]
theorem F0 : (n9 n).length ≤ 21 := by
 have := a2R (n := n) (g := 20)
 unfold n9
 split
 ·simp
 ·split
  ·simp; omega
  ·omega
theorem a8O : n9 0 = [48] := rfl
theorem X8 (h0 : n ≠ 0) (h : n < 0) : [45] ++ (itN n 20).2 = n9 n := by rw [n9, if_neg h0, if_pos h]; rfl
theorem Y1 (h0 : n ≠ 0) (h : ¬ n < 0) : (itN n 20).2 = n9 n := by rw [n9, if_neg h0, if_neg h]
theorem a9c (h : 0 ≤ n ∧ n ≤ 9) : dig n = n9 n := by
 have : n = 0 ∨ n = 1 ∨ n = 2 ∨ n = 3 ∨ n = 4 ∨ n = 5 ∨ n = 6 ∨ n = 7 ∨ n = 8 ∨ n = 9 := by omega
 rcases this with rfl | rfl | rfl | rfl | rfl | rfl | rfl | rfl | rfl | rfl <;> decide +kernel
end
theorem a9f {i : Int} (h : 0 ≤ i ∧ i ≤ 9) : (List.drop i.toNat ([48, 49, 50, 51, 52, 53, 54, 55, 56, 57, 97, 98, 99, 100, 101, 102, 103, 104, 105, 106, 107, 108, 109, 110, 111, 112, 113, 114, 115, 116, 117, 118, 119, 120, 121, 122] : Str)).take ((i + 1).toNat - i.toNat) = n9 i := by
 have : i = 0 ∨ i = 1 ∨ i = 2 ∨ i = 3 ∨ i = 4 ∨ i = 5 ∨ i = 6 ∨ i = 7 ∨ i = 8 ∨ i = 9 := by omega
 rcases this with rfl | rfl | rfl | rfl | rfl | rfl | rfl | rfl | rfl | rfl <;> decide +kernel
theorem b1z {x : Int} : -9 ≤ x.tmod 10 ∧ x.tmod 10 ≤ 9 := by
 have h1 := Int.tmod_lt_of_pos x (show (0 : Int) < 10 by decide)
 have h2 := Int.lt_tmod_of_pos x (show (0 : Int) < 10 by decide)
 omega
-- joining
section
variable {α : Type} {xs : List Str} {x sep : Str} {K g : Nat} {l : List α} {f : α → Str}
theorem a5L : ∀ {xs : List Str}, Lib.join (xs ++ [x]) sep = if xs.length = 0 then x else Lib.join xs sep ++ sep ++ x
 | [] => by simp [Lib.join_one]
 | y :: r => by simp [Lib.join_cons, Lib.joinTail]
theorem a3K (h : g < l.length) (h0 : ¬ 0 < g) : Lib.join ((l.take g).map f) sep ++ f l[g] = Lib.join ((l.take (g + 1)).map f) sep := by
 have : g = 0 := by omega
 subst this
 rw [List.take_succ_eq_append_getElem h, List.map_append, List.map_singleton, a5L]; simp [Lib.join_nil]
theorem a3V (h : g < l.length) (h0 : 0 < g) : (Lib.join ((l.take g).map f) sep ++ sep) ++ f l[g] = Lib.join ((l.take (g + 1)).map f) sep := by
 rw [List.take_succ_eq_append_getElem h, List.map_append, List.map_singleton, a5L, if_neg (by rw [List.length_map, List.length_take]; omega)]
theorem b1s : ∀ {xs : List Str}, (∀ x ∈ xs, x.length ≤ K) → (Lib.join xs sep).length ≤ xs.length * (K + sep.length)
 | [], _ => by simp [Lib.join_nil]
 | x :: r, h => by
  have h1 : ∀ {r : List Str}, (∀ x ∈ r, x.length ≤ K) → (Lib.joinTail sep r).length ≤ r.length * (K + sep.length) := by
   intro r
   induction r with
   | nil => simp [Lib.joinTail]
   | cons y r ih =>
    intro hr
    have h2 := ih fun z hz => hr z (by simp [hz])
    have h3 := hr y (by simp)
    simp only [Lib.joinTail, List.map_cons, List.flatten_cons, List.length_append, List.length_cons, Nat.succ_mul] at h2 ⊢
    omega
  have h4 := h1 (r := r) fun z hz => h z (by simp [hz])
  have h5 := h x (by simp)
  rw [Lib.join_cons, List.length_append, List.length_cons, Nat.succ_mul]; omega
theorem P7 {n : Nat} (hf : ∀ x, (f x).length ≤ K) (hn : l.length ≤ n) : (Lib.join (l.map f) sep).length ≤ n * (K + sep.length) := by
 have h1 := b1s (K := K) (sep := sep) (xs := l.map f) (fun x hx => by obtain ⟨y, _, rfl⟩ := List.mem_map.1 hx; exact hf y)
 rw [List.length_map] at h1
 exact Nat.le_trans h1 (Nat.mul_le_mul_right _ hn)
theorem a5N {n B : Nat} (hf : ∀ x, (f x).length ≤ K) (hn : l.length ≤ n) (hB : n * (K + sep.length) ≤ B) : (Lib.join ((l.take g).map f) sep).length ≤ B :=
 Nat.le_trans (P7 hf (show (l.take g).length ≤ n by rw [List.length_take]; omega)) hB
end
theorem a5m {l : List Int} (h : E4 l 3 = true) : ∀ x ∈ l, 0 ≤ x ∧ x ≤ 9 := by
 intro x hx
 simp only [E4, Bool.not_eq_true', List.any_eq_false, Bool.not_eq_true] at h
 have := h x hx
 have h2 : inR x 0 2 = true := by simpa using this
 simp only [inR, decide_eq_true_eq] at h2; omega
theorem a8z {l : List Int} {g : Nat} (h : g < l.length) (h1 : inR l[g] 0 2 = true) : E4 (l.drop g) 3 = E4 (l.drop (g + 1)) 3 := by
 rw [List.drop_eq_getElem_cons h, E4, E4, List.any_cons, show (3 : Int) - 1 = 2 from rfl, h1]; rfl
theorem b1m {l : List Int} {g : Nat} (h : g < l.length) (h1 : inR l[g] 0 2 = false) : E4 (l.drop g) 3 = false := by
 rw [List.drop_eq_getElem_cons h, E4, List.any_cons, show (3 : Int) - 1 = 2 from rfl, h1]; rfl
theorem a9X {l : List Int} {g : Nat} (h : ¬ g < l.length) : E4 (l.drop g) 3 = true := by
 rw [List.drop_eq_nil_of_le (by omega)]; rfl
-- terms, atoms, queries
def b1P (t : Int) : Str := if inR t 10 17 then [120] ++ n9 (t - 10) else n9 t
def a5V (a : Int × List Int) : Str := if inR a.1 0 2 && (inR (a.2.length : Int) 1 3 && !a.2.any fun t => !a3F t) then [114] ++ n9 a.1 ++ [40] ++ Lib.join (a.2.map b1P) [44] ++ [41] else []
def a9g (s : Str) : Bool := decide (s = [])
def nT {α : Type} (f : α → Str) (l : List α) : Bool := (l.map f).any a9g
def b4C (h : List Int) : Str := if 0 < h.length then Lib.join (h.map b1P) [44] else [121, 101, 115]
def a5Y (q : List Int × List (Int × List Int)) : Str :=
 if inR (q.2.length : Int) 1 4 && (!nT a5V q.2 && a3U q) then b4C q.1 ++ [32, 105, 102, 32] ++ Lib.join (q.2.map a5V) [32, 97, 110, 100, 32] else []
def b7c (u : List (List Int × List (Int × List Int))) : Str := if nT a5Y u then [] else Lib.join (u.map a5Y) [32, 111, 114, 32]
def unl : Str := [32, 117, 110, 108, 101, 115, 115, 32]
def b4z (s : Str) (l : List (Int × List Int)) : Str := l.foldl (fun s a => s ++ unl ++ a5V a) s
def b7a (g : (List Int × List (Int × List Int)) × List (Int × List Int)) : Str := if a9g (a5Y g.1) || nT a5V g.2 then [] else b4z (a5Y g.1) g.2
def x6 (r : Int × Int × List Int) : Str :=
 if inR r.1 0 2 && (inR r.2.1 0 2 && (inR (r.2.2.length : Int) 1 3 && E4 r.2.2 3)) then [114] ++ n9 r.1 ++ [32, 103, 105, 118, 101, 115, 32, 114] ++ n9 r.2.1 ++ [32] ++ Lib.join (r.2.2.map n9) [44] else []
section
variable {α : Type} {f : α → Str} {l : List α} {i : Nat}
end
section
variable {l : List Int} {i : Nat}
end
section
variable {h : List Int} {a : List (Int × List Int)} {i : Nat}
abbrev b7s (a : List (Int × List Int)) : Int → Bool := fun t => !L6 (y4 (fun t => inR t 10 17) a) t
end
section
variable {q : List Int × List (Int × List Int)}
end
section
variable {u : List (List Int × List (Int × List Int))} {g : (List Int × List (Int × List Int)) × List (Int × List Int)} {s : Str} {l : List (Int × List Int)} {r : Nat}
end
-- every number
theorem a3L {n : Int} : ∀ {k g : Nat}, (itN n g).1.natAbs < 10 ^ k → (itN n (g + k)).2 = (if (itN n g).1 = 0 then [] else Lib.decDigits (itN n g).1.natAbs) ++ (itN n g).2
 | 0, g, h => by
  have h0 : (itN n g).1 = 0 := by simp at h; omega
  rw [if_pos h0]; rfl
 | k + 1, g, h => by
  by_cases h0 : (itN n g).1 = 0
  ·rw [a3l h0, if_pos h0]; rfl
  ·have e1 : (itN n (g + 1)).1 = (itN n g).1.tdiv 10 := (X9 h0).symm
   have e2 : (itN n (g + 1)).2 = UInt8.ofNat (48 + ((itN n g).1.tmod 10).natAbs) :: (itN n g).2 := by simp only [itN, itS, if_neg h0]
   have e3 : (itN n (g + 1)).1.natAbs = (itN n g).1.natAbs / 10 := by rw [e1]; exact Int.natAbs_tdiv ..
   have e4 : ((itN n g).1.tmod 10).natAbs = (itN n g).1.natAbs % 10 := Int.natAbs_tmod ..
   have h1 : (itN n (g + 1)).1.natAbs < 10 ^ k := by
    rw [e3, Nat.div_lt_iff_lt_mul (by decide), ← Nat.pow_succ]; exact h
   have ih := a3L (k := k) (g := g + 1) h1
   rw [show g + (k + 1) = g + 1 + k by omega, ih, e2, e3, e4, if_neg h0]
   have hz : ((itN n (g + 1)).1 = 0) ↔ (itN n g).1.natAbs / 10 = 0 := by rw [← e3]; omega
   by_cases h2 : (itN n g).1.natAbs < 10
   ·rw [if_pos (hz.2 (by omega)), show Lib.decDigits (itN n g).1.natAbs = [UInt8.ofNat (48 + (itN n g).1.natAbs)] from by rw [Lib.decDigits, dif_pos h2], Nat.mod_eq_of_lt h2]; rfl
   ·rw [if_neg (fun e => by have := hz.1 e; omega), show Lib.decDigits (itN n g).1.natAbs = Lib.decDigits ((itN n g).1.natAbs / 10) ++ [UInt8.ofNat (48 + (itN n g).1.natAbs % 10)] from by rw [Lib.decDigits, dif_neg h2]]; simp
theorem a8C {n : Int} (hn : I64 n) : Lib.itoa n = n9 n := by
 have h1 := a3L (n := n) (k := 20) (g := 0) (by show n.natAbs < 10 ^ 20; have h5 : (10 : Nat) ^ 20 = 100000000000000000000 := (by decide); unfold I64 at hn; omega)
 rw [Nat.zero_add, show itN n 0 = (n, []) from rfl, List.append_nil] at h1
 unfold n9 Lib.itoa
 by_cases h0 : n = 0
 ·subst h0; rw [if_pos rfl, if_neg (by omega), show Lib.decDigits (Int.toNat 0) = [UInt8.ofNat (48 + 0)] from by rw [Lib.decDigits, dif_pos (by decide)]; rfl]; rfl
 ·rw [if_neg h0, h1, if_neg h0]
  by_cases h2 : n < 0
  ·rw [if_pos h2, if_pos h2]
  ·rw [if_neg h2, if_neg h2, show n.toNat = n.natAbs by omega]
-- lines and proofs
def b4G (f : Int × List Int) : Str := if inR f.1 0 2 && (inR (f.2.length : Int) 1 3 && K5 f.2) then [114] ++ n9 f.1 ++ [40] ++ Lib.join (f.2.map n9) [44] ++ [41] else []
def b4b (a : Int × List Int) : Str := if inR a.1 0 4 && (!decide ((3 : Int) < a.2.length) && K5 a.2) then [109] ++ n9 a.1 ++ [40] ++ Lib.join (a.2.map n9) [44] ++ [41] else []
def b4j (x : Int × (Int × List Int) × Int × List Int) : Str := b4G x.2.2 ++ [32, 98, 121, 32] ++ (if x.1 = -1 then b4b x.2.1 else [114, 117, 108, 101, 32] ++ n9 x.1)
def b7f (l : List (Int × (Int × List Int) × Int × List Int)) : Str := if l.length = 0 then [110, 111, 110, 101] else Lib.join (l.map b4j) [59, 32]
section
variable {l : List (Int × (Int × List Int) × Int × List Int)} {g : Nat}
end
end Go.Proofs.YtfnbilpemdgkkaaGreatDoor
