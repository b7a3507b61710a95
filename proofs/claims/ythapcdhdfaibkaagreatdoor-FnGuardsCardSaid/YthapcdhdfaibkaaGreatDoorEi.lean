import Derived.Test.YthapcdhdfaibkaaGreatDoorBd
import Derived.Lib.Join
import Derived.Lib.ItoaNum
namespace Go.Proofs.YthapcdhdfaibkaaGreatDoor
set_option linter.all false
abbrev Str := List UInt8
def dig (n : Int) : Str := [UInt8.ofNat (48 + n.toNat)]
def itS (p : Int × Str) : Int × Str := if p.1 = 0 then p else (p.1.tdiv 10, UInt8.ofNat (48 + (p.1.tmod 10).natAbs) :: p.2)
def itN (n : Int) : Nat → Int × Str
 | 0 => (n, [])
 | g + 1 => itS (itN n g)
def Q8 (n : Int) : Str := if n = 0 then [48] else if n < 0 then 45 :: (itN n 20).2 else (itN n 20).2
section
variable {n : Int} {g : Nat}
theorem b0a : ∀ {g : Nat}, (itN n g).1.natAbs * 10 ^ g ≤ n.natAbs
 | 0 => by simp [itN]
 | g + 1 => by
  have h := b0a (g := g)
  simp only [itN, itS]
  split
  ·rename_i h0; rw [h0]; simp
  ·have h1 : ((itN n g).1.tdiv 10).natAbs = (itN n g).1.natAbs / 10 := Int.natAbs_tdiv ..
   simp only [h1]
   have h2 : (itN n g).1.natAbs / 10 * 10 ≤ (itN n g).1.natAbs := Nat.div_mul_le_self _ _
   have h3 := Nat.mul_le_mul_right (10 ^ g) h2
   rw [Nat.mul_assoc, ← Nat.pow_succ'] at h3
   exact Nat.le_trans h3 h
theorem b5O (hn : I64 n) (h : (itN n g).1 ≠ 0) : g < 20 := by
 rcases Nat.lt_or_ge g 20 with h1 | h1
 ·exact h1
 ·have h2 := b0a (n := n) (g := g)
  have h3 : (10 : Nat) ^ 20 ≤ 10 ^ g := Nat.pow_le_pow_right (by decide) h1
  have h4 : 1 * 10 ^ g ≤ (itN n g).1.natAbs * 10 ^ g := Nat.mul_le_mul_right _ (by omega)
  have h5 : (10 : Nat) ^ 20 = 100000000000000000000 := by decide
  unfold I64 at hn; omega
theorem b2d (h : (itN n g).1 = 0) : ∀ k, itN n (g + k) = itN n g
 | 0 => rfl
 | k + 1 => by
  rw [← Nat.add_assoc]
  show itS (itN n (g + k)) = _
  rw [b2d h k, itS, if_pos h]
theorem b3R (hg : g ≤ 20) (h : (itN n g).1 = 0) : (itN n g).2 = (itN n 20).2 := by
 have := b2d h (20 - g)
 rw [show g + (20 - g) = 20 by omega] at this
 rw [this]
theorem b9b (hn : I64 n) : I64 (itN n g).1 := by
 have h2 := b0a (n := n) (g := g)
 have h3 : 1 ≤ 10 ^ g := Nat.pow_pos (by decide)
 have h4 := Nat.mul_le_mul_left (itN n g).1.natAbs h3
 rcases Nat.eq_zero_or_pos g with h5 | h5
 ·subst h5; exact hn
 ·have h6 : 10 ^ 1 ≤ 10 ^ g := Nat.pow_le_pow_right (by decide) h5
  have h7 := Nat.mul_le_mul_left (itN n g).1.natAbs h6
  unfold I64 at hn ⊢; omega
theorem b0B : ∀ {g : Nat}, (itN n g).2.length ≤ g
 | 0 => by simp [itN]
 | g + 1 => by
  have h := b0B (g := g)
  simp only [itN, itS]
  split
  ·omega
  ·simpa using h
theorem a4V (h : (itN n g).1 ≠ 0) : (itN n g).1.tdiv 10 = (itN n (g + 1)).1 := by simp only [itN, itS, if_neg h]
theorem a1x (h : (itN n g).1 ≠ 0) {d : Int} (hd : d = (itN n g).1.tmod 10 ∨ d = -(itN n g).1.tmod 10) (h0 : 0 ≤ d) : [UInt8.ofNat (48 + d).toNat] ++ (itN n g).2 = (itN n (g + 1)).2 := by
 simp only [itN, itS, if_neg h, List.singleton_append]
 have : (48 + d).toNat = 48 + ((itN n g).1.tmod 10).natAbs := by omega
 rw [this]
theorem a2d : (Q8 n).length ≤ 21 := by
 have := b0B (n := n) (g := 20)
 unfold Q8
 split
 ·simp
 ·split
  ·simp; omega
  ·omega
theorem b4P : Q8 0 = [48] := rfl
theorem b5m (h0 : n ≠ 0) (h : n < 0) : [45] ++ (itN n 20).2 = Q8 n := by rw [Q8, if_neg h0, if_pos h]; rfl
theorem b5U (h0 : n ≠ 0) (h : ¬ n < 0) : (itN n 20).2 = Q8 n := by rw [Q8, if_neg h0, if_neg h]
end
theorem b5t {i : Int} (h : 0 ≤ i ∧ i ≤ 9) : (List.drop i.toNat ([48, 49, 50, 51, 52, 53, 54, 55, 56, 57, 97, 98, 99, 100, 101, 102, 103, 104, 105, 106, 107, 108, 109, 110, 111, 112, 113, 114, 115, 116, 117, 118, 119, 120, 121, 122] : Str)).take ((i + 1).toNat - i.toNat) = Q8 i := by
 have : i = 0 ∨ i = 1 ∨ i = 2 ∨ i = 3 ∨ i = 4 ∨ i = 5 ∨ i = 6 ∨ i = 7 ∨ i = 8 ∨ i = 9 := by omega
 rcases this with rfl | rfl | rfl | rfl | rfl | rfl | rfl | rfl | rfl | rfl <;> decide +kernel
theorem b6C {x : Int} : -9 ≤ x.tmod 10 ∧ x.tmod 10 ≤ 9 := by
 have h1 := Int.tmod_lt_of_pos x (show (0 : Int) < 10 by decide)
 have h2 := Int.lt_tmod_of_pos x (show (0 : Int) < 10 by decide)
 omega
-- joining
section
variable {α : Type} {xs : List Str} {x sep : Str} {K g : Nat} {l : List α} {f : α → Str}
theorem b0X : ∀ {xs : List Str}, Lib.join (xs ++ [x]) sep = if xs.length = 0 then x else Lib.join xs sep ++ sep ++ x
 | [] => by simp [Lib.join_one]
 | y :: r => by simp [Lib.join_cons, Lib.joinTail]
theorem b0V : Lib.join ((l.take 0).map f) sep = [] := by simp [Lib.join_nil]
theorem a5Y (h : g < l.length) (h0 : ¬ 0 < g) : Lib.join ((l.take g).map f) sep ++ f l[g] = Lib.join ((l.take (g + 1)).map f) sep := by
 have : g = 0 := by omega
 subst this
 rw [List.take_succ_eq_append_getElem h, List.map_append, List.map_singleton, b0X]; simp [Lib.join_nil]
theorem a6i (h : g < l.length) (h0 : 0 < g) : (Lib.join ((l.take g).map f) sep ++ sep) ++ f l[g] = Lib.join ((l.take (g + 1)).map f) sep := by
 rw [List.take_succ_eq_append_getElem h, List.map_append, List.map_singleton, b0X, if_neg (by rw [List.length_map, List.length_take]; omega)]
theorem a3Z {P : Str} (h : g < l.length) (h0 : 0 < g) : ((P ++ Lib.join ((l.take g).map f) sep) ++ sep) ++ f l[g] = P ++ Lib.join ((l.take (g + 1)).map f) sep := by
 rw [← a6i h h0]; simp
theorem a3J {P : Str} (h : g < l.length) (h0 : ¬ 0 < g) : (P ++ Lib.join ((l.take g).map f) sep) ++ f l[g] = P ++ Lib.join ((l.take (g + 1)).map f) sep := by
 rw [← a5Y h h0]; simp
theorem b6V : ∀ {xs : List Str}, (∀ x ∈ xs, x.length ≤ K) → (Lib.join xs sep).length ≤ xs.length * (K + sep.length)
 | [], _ => by simp [Lib.join_nil]
 | x :: r, h => by
  have h1 : ∀ {r : List Str}, (∀ x ∈ r, x.length ≤ K) → (Lib.joinTail sep r).length ≤ r.length * (K + sep.length) := by
   intro r
   induction r with
   | nil => simp [Lib.joinTail]
   | cons y r ih =>
    intro hr
    have h2 := ih fun z hz => hr z (by simp [hz])
    have h3 := hr y (by simp)
    simp only [Lib.joinTail, List.map_cons, List.flatten_cons, List.length_append, List.length_cons, Nat.succ_mul] at h2 ⊢
    omega
  have h4 := h1 (r := r) fun z hz => h z (by simp [hz])
  have h5 := h x (by simp)
  rw [Lib.join_cons, List.length_append, List.length_cons, Nat.succ_mul]; omega
theorem X3 {n : Nat} (hf : ∀ x, (f x).length ≤ K) (hn : l.length ≤ n) : (Lib.join (l.map f) sep).length ≤ n * (K + sep.length) := by
 have h1 := b6V (K := K) (sep := sep) (xs := l.map f) (fun x hx => by obtain ⟨y, _, rfl⟩ := List.mem_map.1 hx; exact hf y)
 rw [List.length_map] at h1
 exact Nat.le_trans h1 (Nat.mul_le_mul_right _ hn)
theorem a2C {n B : Nat} (hf : ∀ x, (f x).length ≤ K) (hn : l.length ≤ n) (hB : n * (K + sep.length) ≤ B) : (Lib.join ((l.take g).map f) sep).length ≤ B :=
 Nat.le_trans (X3 hf (show (l.take g).length ≤ n by rw [List.length_take]; omega)) hB
end
-- terms, atoms, queries
def O2 (t : Int) : Str := if inR t 10 17 then [120] ++ Q8 (t - 10) else Q8 t
def C9 (a : IL) : Str := if inR a.1 0 2 && (inR (a.2.length : Int) 1 3 && !a.2.any fun t => !L6 t) then [114] ++ Q8 a.1 ++ [40] ++ Lib.join (a.2.map O2) [44] ++ [41] else []
def a4z (s : Str) : Bool := decide (s = [])
def nT {α : Type} (f : α → Str) (l : List α) : Bool := (l.map f).any a4z
def a2D (h : List Int) : Str := if 0 < h.length then Lib.join (h.map O2) [44] else [121, 101, 115]
def M6 (q : List Int × List IL) : Str :=
 if inR (q.2.length : Int) 1 4 && (!nT C9 q.2 && W2 q) then a2D q.1 ++ [32, 105, 102, 32] ++ Lib.join (q.2.map C9) [32, 97, 110, 100, 32] else []
def c2M (u : List (List Int × List IL)) : Str := if nT M6 u then [] else Lib.join (u.map M6) [32, 111, 114, 32]
def unl : Str := [32, 117, 110, 108, 101, 115, 115, 32]
def a0r (s : Str) (l : List IL) : Str := l.foldl (fun s a => s ++ unl ++ C9 a) s
def a1E (g : (List Int × List IL) × List IL) : Str := if a4z (M6 g.1) || nT C9 g.2 then [] else a0r (M6 g.1) g.2
def c2Q (r : Int × IL) : Str :=
 if inR r.1 0 2 && (inR r.2.1 0 2 && (inR (r.2.2.length : Int) 1 3 && a0m r.2.2 3)) then [114] ++ Q8 r.1 ++ [32, 103, 105, 118, 101, 115, 32, 114] ++ Q8 r.2.1 ++ [32] ++ Lib.join (r.2.2.map Q8) [44] else []
theorem a0I {t : Int} : (O2 t).length ≤ 22 := by
 unfold O2
 split
 ·have := a2d (n := t - 10); simp; omega
 ·have := a2d (n := t); omega
theorem a0F {a : IL} : (C9 a).length ≤ 100 := by
 unfold C9
 split
 ·rename_i h
  simp only [Bool.and_eq_true, inR, decide_eq_true_eq] at h
  have h1 := a2d (n := a.1)
  have h2 := X3 (f := O2) (K := 22) (l := a.2) (n := 3) (sep := [44]) (fun t => a0I) (by omega)
  simp only [List.length_append, List.length_cons, List.length_nil] at h2 ⊢; omega
 ·simp
theorem a7g {h : List Int} (hl : h.length ≤ 3) : (a2D h).length ≤ 69 := by
 unfold a2D
 split
 ·have h2 := X3 (f := O2) (K := 22) (l := h) (n := 3) (sep := [44]) (fun t => a0I) hl
  simpa using h2
 ·simp
theorem b0U {q : List Int × List IL} : (M6 q).length ≤ 500 := by
 unfold M6
 split
 ·rename_i h
  simp only [Bool.and_eq_true, inR, W2, decide_eq_true_eq] at h
  have h1 := a7g (h := q.1) (by omega)
  have h2 := X3 (f := C9) (K := 100) (l := q.2) (n := 4) (sep := [32, 97, 110, 100, 32]) (fun t => a0F) (by omega)
  simp only [List.length_append, List.length_cons, List.length_nil] at h2 ⊢; omega
 ·simp
theorem a7z : ∀ {l : List IL} {s : Str}, (a0r s l).length ≤ s.length + l.length * 108
 | [], _ => by simp [a0r]
 | a :: l, s => by
  have h1 := a7z (l := l) (s := s ++ unl ++ C9 a)
  have h2 := a0F (a := a)
  simp only [List.length_append, unl, List.length_cons, List.length_nil] at h1
  simp only [a0r, List.foldl_cons, List.length_cons] at h1 ⊢
  simp only [unl] at h1 ⊢; omega
theorem a9p {l : List IL} {s : Str} {g : Nat} (h : g < l.length) : a0r s (l.take g) ++ unl ++ C9 l[g] = a0r s (l.take (g + 1)) := by
 rw [List.take_succ_eq_append_getElem h, a0r, a0r, List.foldl_append]; rfl
section
variable {α : Type} {f : α → Str} {l : List α} {i : Nat}
theorem a4f (h : i < l.length) (h1 : ¬ f l[i] = []) : nT f (l.drop i) = nT f (l.drop (i + 1)) := by
 rw [List.drop_eq_getElem_cons h, nT, List.map_cons, List.any_cons, a4z, decide_eq_false h1, Bool.false_or]; rfl
theorem b1M (h : i < l.length) (h1 : f l[i] = []) : nT f (l.drop i) = true := by
 rw [List.drop_eq_getElem_cons h, nT, List.map_cons, List.any_cons, a4z, decide_eq_true h1, Bool.true_or]
theorem a9o (h : ¬ i < l.length) : nT f (l.drop i) = false := by
 rw [List.drop_eq_nil_of_le (by omega)]; rfl
theorem b5y : ((l.map f).any fun z => decide (([] : Str) = z)) = nT f l := by
 rw [nT]; congr 1; funext z; simp [a4z, eq_comm]
end
section
variable {l : List Int} {i : Nat}
theorem b8Q (h : i < l.length) (h1 : L6 l[i] = true) : ((l.drop i).any fun t => !L6 t) = ((l.drop (i + 1)).any fun t => !L6 t) := by
 rw [List.drop_eq_getElem_cons h, List.any_cons, h1]; rfl
theorem c0J (h : i < l.length) (h1 : L6 l[i] = false) : ((l.drop i).any fun t => !L6 t) = true := by
 rw [List.drop_eq_getElem_cons h, List.any_cons, h1]; rfl
theorem b9T (h : ¬ i < l.length) : ((l.drop i).any fun t => !L6 t) = false := by
 rw [List.drop_eq_nil_of_le (by omega)]; rfl
theorem b9S (h : (!l.any fun t => !L6 t) = true) : ∀ t ∈ l, L6 t = true := by
 intro t ht
 simp only [Bool.not_eq_true', List.any_eq_false] at h
 simpa using h t ht
theorem b4x {t : Int} (h : L6 t = true) (h1 : inR t 10 17 = false) : 0 ≤ t ∧ t ≤ 9 := by
 rw [L6, h1, Bool.or_false, inR, decide_eq_true_eq] at h; exact h
end
section
variable {h : List Int} {a : List IL} {i : Nat}
abbrev a3j (a : List IL) : Int → Bool := fun t => !I8 (u7 (fun t => inR t 10 17) a) t
theorem b4R (hb : (3 : Int) < h.length) : W2 (h, a) = false := by rw [W2, decide_eq_false (by show ¬ (h.length : Int) ≤ 3; omega)]; rfl
theorem a9l (hb : h.any (a3j a) = true) : W2 (h, a) = false := by rw [W2]; show (_ && !h.any (a3j a)) = false; rw [hb]; simp
theorem a9G (h3 : ¬ (3 : Int) < h.length) (hb : h.any (a3j a) = false) : W2 (h, a) = true := by rw [W2, decide_eq_true (by show (h.length : Int) ≤ 3; omega)]; show (true && !h.any (a3j a)) = true; rw [hb]; rfl
theorem b1a (hi : i < h.length) (h1 : I8 (u7 (fun t => inR t 10 17) a) h[i] = true) : (h.drop i).any (a3j a) = (h.drop (i + 1)).any (a3j a) := by
 rw [List.drop_eq_getElem_cons hi, List.any_cons]; simp only [a3j, h1]; rfl
theorem b3M (hi : i < h.length) (h1 : I8 (u7 (fun t => inR t 10 17) a) h[i] = false) : (h.drop i).any (a3j a) = true := by
 rw [List.drop_eq_getElem_cons hi, List.any_cons]; simp only [a3j, h1]; rfl
theorem b2x (hi : ¬ i < h.length) : (h.drop i).any (a3j a) = false := by
 rw [List.drop_eq_nil_of_le (by omega)]; rfl
theorem b7a (ho : W2 (h, a) = true) : h.length ≤ 3 ∧ ∀ t ∈ h, L6 t = true := by
 rw [W2, Bool.and_eq_true, decide_eq_true_eq] at ho
 refine ⟨by have := ho.1; simp only at this; omega, fun t ht => ?_⟩
 have h2 := ho.2
 simp only [Bool.not_eq_true', List.any_eq_false] at h2
 have h3 : I8 (u7 (fun t => inR t 10 17) a) t = true := by simpa using h2 t ht
 rw [a2a, u7, a2L, List.mem_filter] at h3
 rw [L6, h3.2, Bool.or_true]
end
section
variable {q : List Int × List IL}
theorem b1d (h : inR (q.2.length : Int) 1 4 = false) : M6 q = [] := by simp [M6, h]
theorem a4P (h : W2 q = false) : M6 q = [] := by simp [M6, h]
theorem a7x (h : nT C9 q.2 = true) : M6 q = [] := by simp [M6, h]
theorem a4T (h1 : inR (q.2.length : Int) 1 4 = true) (h2 : W2 q = true) (h3 : nT C9 q.2 = false) : M6 q = a2D q.1 ++ [32, 105, 102, 32] ++ Lib.join (q.2.map C9) [32, 97, 110, 100, 32] := by simp [M6, h1, h2, h3]
theorem a7v {h : List Int} (h0 : 0 < h.length) : Lib.join (h.map O2) [44] = a2D h := by rw [a2D, if_pos h0]
theorem a8J {h : List Int} (h0 : ¬ 0 < h.length) : [121, 101, 115] = a2D h := by rw [a2D, if_neg h0]
end
section
variable {u : List (List Int × List IL)} {g : (List Int × List IL) × List IL} {s : Str} {l : List IL} {r : Nat}
theorem b0Y : ∀ {l : List IL} {s : Str}, ∃ t, a0r s l = s ++ t
 | [], s => ⟨[], by simp [a0r]⟩
 | a :: l, s => by
  obtain ⟨t, h⟩ := b0Y (l := l) (s := s ++ unl ++ C9 a)
  exact ⟨unl ++ C9 a ++ t, by rw [a0r, List.foldl_cons]; show a0r (s ++ unl ++ C9 a) l = _; rw [h]; simp⟩
theorem b5A (h : a0r s l = []) : s = [] := by
 obtain ⟨t, e⟩ := b0Y (l := l) (s := s)
 rw [e] at h; exact (List.append_eq_nil_iff.1 h).1
theorem b5i (h1 : r = 0 ∨ ¬ s = []) (h : ¬ a0r s (l.take r) = []) : ¬ s = [] := by
 rcases h1 with rfl | h1
 ·exact h
 ·exact h1
theorem b2a (h : nT C9 g.2 = true) : a1E g = [] := by simp [a1E, h]
theorem a7n (h : M6 g.1 = []) : a1E g = [] := by simp [a1E, a4z, h]
theorem b1k (h : ¬ M6 g.1 = []) (h2 : nT C9 g.2 = false) : a1E g = a0r (M6 g.1) g.2 := by simp [a1E, a4z, h, h2]
theorem b5I (h : ¬ r < g.2.length) (h1 : r = 0 ∨ ¬ M6 g.1 = []) (h2 : nT C9 g.2 = nT C9 (g.2.drop r)) : a1E g = a0r (M6 g.1) (g.2.take r) := by
 rw [a9o h] at h2
 by_cases hq : M6 g.1 = []
 ·rcases h1 with rfl | h1
  ·rw [a7n hq, hq]; rfl
  ·exact absurd hq h1
 ·rw [b1k hq h2, List.take_of_length_le (by omega)]
end
-- every number
-- lines and proofs
def c0Q (f : IL) : Str := if inR f.1 0 2 && (inR (f.2.length : Int) 1 3 && V4 f.2) then [114] ++ Q8 f.1 ++ [40] ++ Lib.join (f.2.map Q8) [44] ++ [41] else []
def c1b (a : IL) : Str := if inR a.1 0 4 && (!decide ((3 : Int) < a.2.length) && V4 a.2) then [109] ++ Q8 a.1 ++ [40] ++ Lib.join (a.2.map Q8) [44] ++ [41] else []
def c1g (x : Int × IL × IL) : Str := c0Q x.2.2 ++ [32, 98, 121, 32] ++ (if x.1 = -1 then c1b x.2.1 else [114, 117, 108, 101, 32] ++ Q8 x.1)
def c2O (l : List (Int × IL × IL)) : Str := if l.length = 0 then [110, 111, 110, 101] else Lib.join (l.map c1g) [59, 32]
section
variable {l : List (Int × IL × IL)} {g : Nat}
end
end Go.Proofs.YthapcdhdfaibkaaGreatDoor
