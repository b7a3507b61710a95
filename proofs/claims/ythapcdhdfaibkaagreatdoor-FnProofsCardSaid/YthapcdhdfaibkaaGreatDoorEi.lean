import Derived.Test.YthapcdhdfaibkaaGreatDoorBd
import Derived.Lib.Join
import Derived.Lib.ItoaNum
namespace Go.Proofs.YthapcdhdfaibkaaGreatDoor
set_option linter.unusedVariables false
set_option linter.unusedSimpArgs false
abbrev Str := List UInt8
def dig (n : Int) : Str := [UInt8.ofNat (48 + n.toNat)]
def itS (p : Int × Str) : Int × Str := if p.1 = 0 then p else (p.1.tdiv 10, UInt8.ofNat (48 + (p.1.tmod 10).natAbs) :: p.2)
def itN (n : Int) : Nat → Int × Str
 | 0 => (n, [])
 | g + 1 => itS (itN n g)
def D3 (n : Int) : Str := if n = 0 then [48] else if n < 0 then 45 :: (itN n 20).2 else (itN n 20).2
section
variable {n : Int} {g : Nat}
theorem a9t : ∀ {g : Nat}, (itN n g).1.natAbs * 10 ^ g ≤ n.natAbs
 | 0 => by simp [itN]
 | g + 1 => by
  have h := a9t (g := g)
  simp only [itN, itS]
  split
  ·rename_i h0; rw [h0]; simp
  ·have h1 : ((itN n g).1.tdiv 10).natAbs = (itN n g).1.natAbs / 10 := Int.natAbs_tdiv ..
   simp only [h1]
   have h2 : (itN n g).1.natAbs / 10 * 10 ≤ (itN n g).1.natAbs := Nat.div_mul_le_self _ _
   have h3 := Nat.mul_le_mul_right (10 ^ g) h2
   rw [Nat.mul_assoc, ← Nat.pow_succ'] at h3
   exact Nat.le_trans h3 h
theorem b4c (hn : I64 n) (h : (itN n g).1 ≠ 0) : g < 20 := by
 rcases Nat.lt_or_ge g 20 with h1 | h1
 ·exact h1
 ·have h2 := a9t (n := n) (g := g)
  have h3 : (10 : Nat) ^ 20 ≤ 10 ^ g := Nat.pow_le_pow_right (by decide) h1
  have h4 : 1 * 10 ^ g ≤ (itN n g).1.natAbs * 10 ^ g := Nat.mul_le_mul_right _ (by omega)
  have h5 : (10 : Nat) ^ 20 = 100000000000000000000 := by decide
  unfold I64 at hn; omega
theorem a7N (h : (itN n g).1 = 0) : ∀ k, itN n (g + k) = itN n g
 | 0 => rfl
 | k + 1 => by
  rw [← Nat.add_assoc]
  show itS (itN n (g + k)) = _
  rw [a7N h k, itS, if_pos h]
theorem b2C (hg : g ≤ 20) (h : (itN n g).1 = 0) : (itN n g).2 = (itN n 20).2 := by
 have := a7N h (20 - g)
 rw [show g + (20 - g) = 20 by omega] at this
 rw [this]
theorem b6p (hn : I64 n) : I64 (itN n g).1 := by
 have h2 := a9t (n := n) (g := g)
 have h3 : 1 ≤ 10 ^ g := Nat.pow_pos (by decide)
 have h4 := Nat.mul_le_mul_left (itN n g).1.natAbs h3
 rcases Nat.eq_zero_or_pos g with h5 | h5
 ·subst h5; exact hn
 ·have h6 : 10 ^ 1 ≤ 10 ^ g := Nat.pow_le_pow_right (by decide) h5
  have h7 := Nat.mul_le_mul_left (itN n g).1.natAbs h6
  unfold I64 at hn ⊢; omega
theorem a9e : ∀ {g : Nat}, (itN n g).2.length ≤ g
 | 0 => by simp [itN]
 | g + 1 => by
  have h := a9e (g := g)
  simp only [itN, itS]
  split
  ·omega
  ·simpa using h
theorem a3z (h : (itN n g).1 ≠ 0) : (itN n g).1.tdiv 10 = (itN n (g + 1)).1 := by simp only [itN, itS, if_neg h]
theorem a1p (h : (itN n g).1 ≠ 0) {d : Int} (hd : d = (itN n g).1.tmod 10 ∨ d = -(itN n g).1.tmod 10) (h0 : 0 ≤ d) : [UInt8.ofNat (48 + d).toNat] ++ (itN n g).2 = (itN n (g + 1)).2 := by
 simp only [itN, itS, if_neg h, List.singleton_append]
 have : (48 + d).toNat = 48 + ((itN n g).1.tmod 10).natAbs := by omega
 rw [this]
theorem O4 : (D3 n).length ≤ 21 := by
 have := a9e (n := n) (g := 20)
 unfold D3
 split
 ·simp
 ·split
  ·simp; omega
  ·omega
theorem b3B : D3 0 = [48] := rfl
theorem b4A (h0 : n ≠ 0) (h : n < 0) : [45] ++ (itN n 20).2 = D3 n := by rw [D3, if_neg h0, if_pos h]; rfl
theorem b4e (h0 : n ≠ 0) (h : ¬ n < 0) : (itN n 20).2 = D3 n := by rw [D3, if_neg h0, if_neg h]
end
theorem b3I {i : Int} (h : 0 ≤ i ∧ i ≤ 9) : (List.drop i.toNat ([48, 49, 50, 51, 52, 53, 54, 55, 56, 57, 97, 98, 99, 100, 101, 102, 103, 104, 105, 106, 107, 108, 109, 110, 111, 112, 113, 114, 115, 116, 117, 118, 119, 120, 121, 122] : Str)).take ((i + 1).toNat - i.toNat) = D3 i := by
 have : i = 0 ∨ i = 1 ∨ i = 2 ∨ i = 3 ∨ i = 4 ∨ i = 5 ∨ i = 6 ∨ i = 7 ∨ i = 8 ∨ i = 9 := by omega
 rcases this with rfl | rfl | rfl | rfl | rfl | rfl | rfl | rfl | rfl | rfl <;> decide +kernel
theorem b5i {x : Int} : -9 ≤ x.tmod 10 ∧ x.tmod 10 ≤ 9 := by
 have h1 := Int.tmod_lt_of_pos x (show (0 : Int) < 10 by decide)
 have h2 := Int.lt_tmod_of_pos x (show (0 : Int) < 10 by decide)
 omega
-- joining
section
variable {α : Type} {xs : List Str} {x sep : Str} {K g : Nat} {l : List α} {f : α → Str}
theorem a9W : ∀ {xs : List Str}, Lib.join (xs ++ [x]) sep = if xs.length = 0 then x else Lib.join xs sep ++ sep ++ x
 | [] => by simp [Lib.join_one]
 | y :: r => by simp [Lib.join_cons, Lib.joinTail]
theorem a5E (h : g < l.length) (h0 : ¬ 0 < g) : Lib.join ((l.take g).map f) sep ++ f l[g] = Lib.join ((l.take (g + 1)).map f) sep := by
 have : g = 0 := by omega
 subst this
 rw [List.take_succ_eq_append_getElem h, List.map_append, List.map_singleton, a9W]; simp [Lib.join_nil]
theorem a5Q (h : g < l.length) (h0 : 0 < g) : (Lib.join ((l.take g).map f) sep ++ sep) ++ f l[g] = Lib.join ((l.take (g + 1)).map f) sep := by
 rw [List.take_succ_eq_append_getElem h, List.map_append, List.map_singleton, a9W, if_neg (by rw [List.length_map, List.length_take]; omega)]
theorem b5C : ∀ {xs : List Str}, (∀ x ∈ xs, x.length ≤ K) → (Lib.join xs sep).length ≤ xs.length * (K + sep.length)
 | [], _ => by simp [Lib.join_nil]
 | x :: r, h => by
  have h1 : ∀ {r : List Str}, (∀ x ∈ r, x.length ≤ K) → (Lib.joinTail sep r).length ≤ r.length * (K + sep.length) := by
   intro r
   induction r with
   | nil => simp [Lib.joinTail]
   | cons y r ih =>
    intro hr
    have h2 := ih fun z hz => hr z (by simp [hz])
    have h3 := hr y (by simp)
    simp only [Lib.joinTail, List.map_cons, List.flatten_cons, List.length_append, List.length_cons, Nat.succ_mul] at h2 ⊢
    omega
  have h4 := h1 (r := r) fun z hz => h z (by simp [hz])
  have h5 := h x (by simp)
  rw [Lib.join_cons, List.length_append, List.length_cons, Nat.succ_mul]; omega
theorem X5 {n : Nat} (hf : ∀ x, (f x).length ≤ K) (hn : l.length ≤ n) : (Lib.join (l.map f) sep).length ≤ n * (K + sep.length) := by
 have h1 := b5C (K := K) (sep := sep) (xs := l.map f) (fun x hx => by obtain ⟨y, _, rfl⟩ := List.mem_map.1 hx; exact hf y)
 rw [List.length_map] at h1
 exact Nat.le_trans h1 (Nat.mul_le_mul_right _ hn)
theorem a6j {n B : Nat} (hf : ∀ x, (f x).length ≤ K) (hn : l.length ≤ n) (hB : n * (K + sep.length) ≤ B) : (Lib.join ((l.take g).map f) sep).length ≤ B :=
 Nat.le_trans (X5 hf (show (l.take g).length ≤ n by rw [List.length_take]; omega)) hB
end
-- terms, atoms, queries
def b6h (t : Int) : Str := if inR t 10 17 then [120] ++ D3 (t - 10) else D3 t
def b0J (a : Int × List Int) : Str := if inR a.1 0 2 && (inR (a.2.length : Int) 1 3 && !a.2.any fun t => !b4w t) then [114] ++ D3 a.1 ++ [40] ++ Lib.join (a.2.map b6h) [44] ++ [41] else []
def b4B (s : Str) : Bool := decide (s = [])
def nT {α : Type} (f : α → Str) (l : List α) : Bool := (l.map f).any b4B
def b8y (h : List Int) : Str := if 0 < h.length then Lib.join (h.map b6h) [44] else [121, 101, 115]
def b0G (q : List Int × List (Int × List Int)) : Str :=
 if inR (q.2.length : Int) 1 4 && (!nT b0J q.2 && b4v q) then b8y q.1 ++ [32, 105, 102, 32] ++ Lib.join (q.2.map b0J) [32, 97, 110, 100, 32] else []
def c0t (u : List (List Int × List (Int × List Int))) : Str := if nT b0G u then [] else Lib.join (u.map b0G) [32, 111, 114, 32]
def unl : Str := [32, 117, 110, 108, 101, 115, 115, 32]
def b8M (s : Str) (l : List (Int × List Int)) : Str := l.foldl (fun s a => s ++ unl ++ b0J a) s
def c0w (g : (List Int × List (Int × List Int)) × List (Int × List Int)) : Str := if b4B (b0G g.1) || nT b0J g.2 then [] else b8M (b0G g.1) g.2
def c0v (r : Int × Int × List Int) : Str :=
 if inR r.1 0 2 && (inR r.2.1 0 2 && (inR (r.2.2.length : Int) 1 3 && S0 r.2.2 3)) then [114] ++ D3 r.1 ++ [32, 103, 105, 118, 101, 115, 32, 114] ++ D3 r.2.1 ++ [32] ++ Lib.join (r.2.2.map D3) [44] else []
section
variable {α : Type} {f : α → Str} {l : List α} {i : Nat}
end
section
variable {l : List Int} {i : Nat}
end
section
variable {h : List Int} {a : List (Int × List Int)} {i : Nat}
abbrev c0F (a : List (Int × List Int)) : Int → Bool := fun t => !L9 (G5 (fun t => inR t 10 17) a) t
end
section
variable {q : List Int × List (Int × List Int)}
end
section
variable {u : List (List Int × List (Int × List Int))} {g : (List Int × List (Int × List Int)) × List (Int × List Int)} {s : Str} {l : List (Int × List Int)} {r : Nat}
end
-- every number
theorem a8S {n : Int} : ∀ {k g : Nat}, (itN n g).1.natAbs < 10 ^ k → (itN n (g + k)).2 = (if (itN n g).1 = 0 then [] else Lib.decDigits (itN n g).1.natAbs) ++ (itN n g).2
 | 0, g, h => by
  have h0 : (itN n g).1 = 0 := by simp at h; omega
  rw [if_pos h0]; rfl
 | k + 1, g, h => by
  by_cases h0 : (itN n g).1 = 0
  ·rw [a7N h0, if_pos h0]; rfl
  ·have e1 : (itN n (g + 1)).1 = (itN n g).1.tdiv 10 := (a3z h0).symm
   have e2 : (itN n (g + 1)).2 = UInt8.ofNat (48 + ((itN n g).1.tmod 10).natAbs) :: (itN n g).2 := by simp only [itN, itS, if_neg h0]
   have e3 : (itN n (g + 1)).1.natAbs = (itN n g).1.natAbs / 10 := by rw [e1]; exact Int.natAbs_tdiv ..
   have e4 : ((itN n g).1.tmod 10).natAbs = (itN n g).1.natAbs % 10 := Int.natAbs_tmod ..
   have h1 : (itN n (g + 1)).1.natAbs < 10 ^ k := by
    rw [e3, Nat.div_lt_iff_lt_mul (by decide), ← Nat.pow_succ]; exact h
   have ih := a8S (k := k) (g := g + 1) h1
   rw [show g + (k + 1) = g + 1 + k by omega, ih, e2, e3, e4, if_neg h0]
   have hz : ((itN n (g + 1)).1 = 0) ↔ (itN n g).1.natAbs / 10 = 0 := by rw [← e3]; omega
   by_cases h2 : (itN n g).1.natAbs < 10
   ·rw [if_pos (hz.2 (by omega)), show Lib.decDigits (itN n g).1.natAbs = [UInt8.ofNat (48 + (itN n g).1.natAbs)] from by rw [Lib.decDigits, dif_pos h2], Nat.mod_eq_of_lt h2]; rfl
   ·rw [if_neg (fun e => by have := hz.1 e; omega), show Lib.decDigits (itN n g).1.natAbs = Lib.decDigits ((itN n g).1.natAbs / 10) ++ [UInt8.ofNat (48 + (itN n g).1.natAbs % 10)] from by rw [Lib.decDigits, dif_neg h2]]; simp
theorem b3m {n : Int} (hn : I64 n) : Lib.itoa n = D3 n := by
 have h1 := a8S (n := n) (k := 20) (g := 0) (by show n.natAbs < 10 ^ 20; have h5 : (10 : Nat) ^ 20 = 100000000000000000000 := (by decide); unfold I64 at hn; omega)
 rw [Nat.zero_add, show itN n 0 = (n, []) from rfl, List.append_nil] at h1
 unfold D3 Lib.itoa
 by_cases h0 : n = 0
 ·subst h0; rw [if_pos rfl, if_neg (by omega), show Lib.decDigits (Int.toNat 0) = [UInt8.ofNat (48 + 0)] from by rw [Lib.decDigits, dif_pos (by decide)]; rfl]; rfl
 ·rw [if_neg h0, h1, if_neg h0]
  by_cases h2 : n < 0
  ·rw [if_pos h2, if_pos h2]
  ·rw [if_neg h2, if_neg h2, show n.toNat = n.natAbs by omega]
-- lines and proofs
def S1 (f : Int × List Int) : Str := if inR f.1 0 2 && (inR (f.2.length : Int) 1 3 && G4 f.2) then [114] ++ D3 f.1 ++ [40] ++ Lib.join (f.2.map D3) [44] ++ [41] else []
def U0 (a : Int × List Int) : Str := if inR a.1 0 4 && (!decide ((3 : Int) < a.2.length) && G4 a.2) then [109] ++ D3 a.1 ++ [40] ++ Lib.join (a.2.map D3) [44] ++ [41] else []
def Q3 (x : Int × (Int × List Int) × Int × List Int) : Str := S1 x.2.2 ++ [32, 98, 121, 32] ++ (if x.1 = -1 then U0 x.2.1 else [114, 117, 108, 101, 32] ++ D3 x.1)
def a2i (l : List (Int × (Int × List Int) × Int × List Int)) : Str := if l.length = 0 then [110, 111, 110, 101] else Lib.join (l.map Q3) [59, 32]
theorem a6C {f : Int × List Int} : (S1 f).length ≤ 100 := by
 unfold S1
 split
 ·rename_i h
  simp only [Bool.and_eq_true, inR, decide_eq_true_eq] at h
  have h1 := O4 (n := f.1)
  have h2 := X5 (f := D3) (K := 21) (l := f.2) (n := 3) (sep := [44]) (fun t => O4) (by omega)
  simp only [List.length_append, List.length_cons, List.length_nil] at h2 ⊢; omega
 ·simp
theorem a6W {a : Int × List Int} : (U0 a).length ≤ 100 := by
 unfold U0
 split
 ·rename_i h
  simp only [Bool.and_eq_true, inR, decide_eq_true_eq, Bool.not_eq_true', decide_eq_false_iff_not] at h
  have h1 := O4 (n := a.1)
  have h2 := X5 (f := D3) (K := 21) (l := a.2) (n := 3) (sep := [44]) (fun t => O4) (by omega)
  simp only [List.length_append, List.length_cons, List.length_nil] at h2 ⊢; omega
 ·simp
theorem a9V {x : Int × (Int × List Int) × Int × List Int} : (Q3 x).length ≤ 300 := by
 have h1 := a6C (f := x.2.2)
 have h2 := a6W (a := x.2.1)
 have h3 := O4 (n := x.1)
 unfold Q3
 split <;> simp only [List.length_append, List.length_cons, List.length_nil] <;> omega
theorem b5d {x : Int × (Int × List Int) × Int × List Int} : ¬ Q3 x = [] := by
 unfold Q3; simp
theorem a8w {l : List Int} (h : G4 l = true) : ∀ x ∈ l, 0 ≤ x ∧ x ≤ 9 := by
 intro x hx
 simp only [G4, Bool.not_eq_true', List.any_eq_false, Bool.not_eq_true] at h
 have h2 : inR x 0 9 = true := by simpa using h x hx
 simp only [inR, decide_eq_true_eq] at h2; omega
theorem a7D {l : List Int} {g : Nat} (h : g < l.length) (h1 : inR l[g] 0 9 = true) : G4 (l.drop g) = G4 (l.drop (g + 1)) := by
 rw [List.drop_eq_getElem_cons h, G4, G4, List.any_cons, h1]; rfl
theorem a9J {l : List Int} {g : Nat} (h : g < l.length) (h1 : inR l[g] 0 9 = false) : G4 (l.drop g) = false := by
 rw [List.drop_eq_getElem_cons h, G4, List.any_cons, h1]; rfl
theorem a8C {l : List Int} {g : Nat} (h : ¬ g < l.length) : G4 (l.drop g) = true := by
 rw [List.drop_eq_nil_of_le (by omega)]; rfl
section
variable {l : List (Int × (Int × List Int) × Int × List Int)} {g : Nat}
theorem b3v (h : (l.length : Int) = 0) : [110, 111, 110, 101] = a2i l := by rw [a2i, if_pos (by omega)]
theorem b3w (h : ¬ (l.length : Int) = 0) : a2i l = Lib.join (l.map Q3) [59, 32] := by rw [a2i, if_neg (by omega)]
theorem b4F (h : Lib.join (l.map Q3) [59, 32] = []) : [110, 111, 110, 101] = a2i l := by
 cases l with
 | nil => rfl
 | cons x r =>
  rw [List.map_cons, Lib.join_cons] at h
  exact absurd (List.append_eq_nil_iff.1 h).1 b5d
theorem b5l (h : ¬ Lib.join (l.map Q3) [59, 32] = []) : Lib.join (l.map Q3) [59, 32] = a2i l := by
 rw [a2i, if_neg (fun e => h (by rw [List.eq_nil_of_length_eq_zero e]; rfl))]
theorem a5J (h : g < l.length) (h0 : 0 < g) {t : Str} (ht : t = (if l[g].1 = -1 then U0 l[g].2.1 else [114, 117, 108, 101, 32] ++ D3 l[g].1)) : ((Lib.join ((l.take g).map Q3) [59, 32] ++ [59, 32]) ++ S1 l[g].2.2 ++ [32, 98, 121, 32]) ++ t = Lib.join ((l.take (g + 1)).map Q3) [59, 32] := by
 rw [← a5Q h h0, ht]; simp [Q3]
theorem a5R (h : g < l.length) (h0 : ¬ 0 < g) {t : Str} (ht : t = (if l[g].1 = -1 then U0 l[g].2.1 else [114, 117, 108, 101, 32] ++ D3 l[g].1)) : (Lib.join ((l.take g).map Q3) [59, 32] ++ S1 l[g].2.2 ++ [32, 98, 121, 32]) ++ t = Lib.join ((l.take (g + 1)).map Q3) [59, 32] := by
 rw [← a5E h h0, ht]; simp [Q3]
end
end Go.Proofs.YthapcdhdfaibkaaGreatDoor
