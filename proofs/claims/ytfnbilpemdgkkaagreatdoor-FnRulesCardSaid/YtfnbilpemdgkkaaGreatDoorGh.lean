import Derived.Test.YtfnbilpemdgkkaaGreatDoorEi
namespace Go.Proofs.YtfnbilpemdgkkaaGreatDoor
set_option linter.unusedVariables false
set_option linter.unusedSimpArgs false
def cut (b : UInt8) : Str → List Str
 | [] => [[]]
 | c :: s => if c = b then [] :: cut b s else match cut b s with | [] => [[c]] | w :: r => (c :: w) :: r
section
variable {b : UInt8} {s x : Str}
theorem a3S : ∀ {s : Str}, cut b s ≠ []
 | [] => by simp [cut]
 | c :: s => by
  rw [cut]; split
  ·simp
  ·split <;> simp
theorem a1J : ∀ {s : Str}, b ∉ s → cut b s = [s]
 | [], _ => rfl
 | c :: s, h => by
  have h1 : c ≠ b := fun e => h (by simp [e])
  have h2 : b ∉ s := fun e => h (by simp [e])
  rw [cut, if_neg h1, a1J h2]
theorem a0r : ∀ {x : Str}, b ∉ x → cut b (x ++ b :: s) = x :: cut b s
 | [], _ => by simp [cut]
 | c :: x, h => by
  have h1 : c ≠ b := fun e => h (by simp [e])
  have h2 : b ∉ x := fun e => h (by simp [e])
  show cut b (c :: (x ++ b :: s)) = _
  rw [cut, if_neg h1, a0r h2]
theorem a6Y : ∀ {xs : List Str}, (∀ x ∈ xs, b ∉ x) → xs ≠ [] → cut b (Lib.join xs [b]) = xs
 | [], _, h0 => absurd rfl h0
 | [x], h, _ => by
  have h1 : Lib.join [x] [b] = x := by simp [Lib.join]
  rw [h1, a1J (h x (by simp))]
 | x :: y :: xs, h, _ => by
  have h1 : Lib.join (x :: y :: xs) [b] = x ++ b :: Lib.join (y :: xs) [b] := by simp [Lib.join]
  rw [h1, a0r (h x (by simp)), a6Y (fun z hz => h z (by simp_all)) (by simp)]
end
def pvS (p : Int × Nat) (c : UInt8) : Int × Nat := if 48 ≤ c.toNat ∧ c.toNat ≤ 57 then (p.1 * 10 + ((c.toNat : Int) - 48), p.2 + 1) else p
def pV (s : Str) : Int × Nat := (s.take 11).foldl pvS (0, 0)
def pN (s : Str) : Int := if s.head? = some 45 then -(pV s).1 else (pV s).1
def pI (s : Str) : Option Int := if 9 < (pV s).2 ∨ 10 < s.length ∨ n9 (pN s) ≠ s then none else some (pN s)
section
variable {n : Int} {g : Nat}
def X4 (c : UInt8) : Prop := 48 ≤ c.toNat ∧ c.toNat ≤ 57
theorem b3q {a : Nat} (h : a < 10) : X4 (UInt8.ofNat (48 + a)) ∧ (UInt8.ofNat (48 + a)).toNat = 48 + a := by
 have e : (UInt8.ofNat (48 + a)).toNat = 48 + a := by
  rw [UInt8.toNat_ofNat']; omega
 exact ⟨by unfold X4; omega, e⟩
theorem a3w {x : Int} : (x.tmod 10).natAbs = x.natAbs % 10 := by
 rw [Int.natAbs_tmod]; rfl
theorem a0s : ∀ {g : Nat}, ∀ c ∈ (itN n g).2, X4 c
 | 0 => by simp [itN]
 | g + 1 => by
  intro c hc
  simp only [itN, itS] at hc
  split at hc
  ·exact a0s c hc
  ·rcases List.mem_cons.1 hc with e | hc
   ·rw [e]; exact (b3q (by rw [a3w]; omega)).1
   ·exact a0s c hc
theorem a6K : ∀ {g k : Nat}, (itN n g).2.foldl pvS (((itN n g).1.natAbs : Int), k) = ((n.natAbs : Int), k + (itN n g).2.length)
 | 0, k => by simp [itN]
 | g + 1, k => by
  have ih := fun k => a6K (g := g) (k := k)
  simp only [itN, itS]
  split
  ·exact ih k
  ·have hd := b3q (a := ((itN n g).1.tmod 10).natAbs) (by rw [a3w]; omega)
   have e : pvS ((((itN n g).1.tdiv 10).natAbs : Int), k) (UInt8.ofNat (48 + ((itN n g).1.tmod 10).natAbs)) = (((itN n g).1.natAbs : Int), k + 1) := by
    rw [pvS, if_pos (show 48 ≤ (UInt8.ofNat (48 + ((itN n g).1.tmod 10).natAbs)).toNat ∧ (UInt8.ofNat (48 + ((itN n g).1.tmod 10).natAbs)).toNat ≤ 57 from hd.1), hd.2, Int.natAbs_tdiv, a3w]
    have : (Int.natAbs 10) = 10 := rfl
    rw [this]
    refine Prod.ext ?_ rfl
    show (((itN n g).1.natAbs / 10 : Nat) : Int) * 10 + (((48 + (itN n g).1.natAbs % 10 : Nat) : Int) - 48) = _
    omega
   show List.foldl pvS (pvS _ _) _ = _
   rw [e, ih]
   simp; omega
theorem b0L (h : n.natAbs ≤ 999999999) : (itN n 9).1 = 0 ∧ (itN n 9).2 = (itN n 20).2 := by
 have h1 := a2B (n := n) (g := 9)
 have h2 : (itN n 9).1 = 0 := by
  rcases Nat.eq_zero_or_pos (itN n 9).1.natAbs with e | e
  ·exact Int.natAbs_eq_zero.1 e
  ·have : 1 * 10 ^ 9 ≤ (itN n 9).1.natAbs * 10 ^ 9 := Nat.mul_le_mul_right _ e
   omega
 exact ⟨h2, a4I (by omega) h2⟩
theorem a7P (h : n.natAbs ≤ 999999999) : (itN n 20).2.foldl pvS (0, 0) = ((n.natAbs : Int), (itN n 20).2.length) ∧ (itN n 20).2.length ≤ 9 := by
 have h1 := b0L h
 have h2 := a6K (n := n) (g := 9) (k := 0)
 rw [h1.1, h1.2] at h2
 refine ⟨by simpa using h2, ?_⟩
 rw [← h1.2]; exact a2R
theorem a7T (h : n.natAbs ≤ 999999999) : pV (n9 n) = ((n.natAbs : Int), (pV (n9 n)).2) ∧ (pV (n9 n)).2 ≤ 9 ∧ (n9 n).length ≤ 10 := by
 have hv := a7P h
 by_cases h0 : n = 0
 ·subst h0; decide
 by_cases hn : n < 0
 ·have e := X8 h0 hn
  have l : (n9 n).length ≤ 10 := by rw [← e]; simp; omega
  have t : (n9 n).take 11 = n9 n := List.take_of_length_le (by omega)
  have v : pV (n9 n) = ((n.natAbs : Int), (itN n 20).2.length) := by
   rw [pV, t, ← e]
   show List.foldl pvS (pvS (0, 0) 45) (itN n 20).2 = _
   rw [show pvS (0, 0) 45 = (0, 0) from by decide]; exact hv.1
  exact ⟨by rw [v], by rw [v]; exact hv.2, l⟩
 ·have e := Y1 h0 hn
  have l : (n9 n).length ≤ 10 := by rw [← e]; omega
  have t : (n9 n).take 11 = n9 n := List.take_of_length_le (by omega)
  have v : pV (n9 n) = ((n.natAbs : Int), (itN n 20).2.length) := by
   rw [pV, t, ← e]; exact hv.1
  exact ⟨by rw [v], by rw [v]; exact hv.2, l⟩
theorem a3I : (n9 n).head? = some 45 ↔ n < 0 := by
 by_cases h0 : n = 0
 ·subst h0; decide
 by_cases hn : n < 0
 ·rw [← X8 h0 hn]; simp [hn]
 ·rw [← Y1 h0 hn]
  refine ⟨fun h => ?_, fun h => absurd h hn⟩
  have := a0s (n := n) (g := 20) 45 (List.mem_of_mem_head? h)
  unfold X4 at this; simp at this
theorem a7Z (h : n.natAbs ≤ 999999999) : pI (n9 n) = some n := by
 have h1 := a7T h
 have h2 : pN (n9 n) = n := by
  unfold pN; rw [h1.1]
  split
  ·rename_i e; have := a3I.1 e; show -(n.natAbs : Int) = n; omega
  ·rename_i e; have := mt a3I.2 e; show (n.natAbs : Int) = n; omega
 unfold pI
 rw [h2, if_neg (by intro e; rcases e with e | e | e <;> first | omega | exact e rfl)]
theorem a4w {s : Str} {n : Int} (h : pI s = some n) : n9 n = s := by
 unfold pI at h
 split at h
 ·cases h
 ·rename_i e
  injection h with h
  rw [← h]; exact Classical.byContradiction fun e1 => e (.inr (.inr e1))
theorem a3j {b : UInt8} (hb : b.toNat < 45 ∨ 57 < b.toNat) : b ∉ n9 n := by
 intro hm
 have hd : ∀ c ∈ (itN n 20).2, X4 c := a0s
 by_cases h0 : n = 0
 ·subst h0
  have : b = 48 := by simpa [n9] using hm
  subst this; simp at hb
 by_cases hn : n < 0
 ·rw [← X8 h0 hn] at hm
  rcases List.mem_append.1 hm with e | e
  ·have : b = 45 := by simpa using e
   subst this; simp at hb
  ·have := hd b e; unfold X4 at this; omega
 ·rw [← Y1 h0 hn] at hm
  have := hd b hm; unfold X4 at this; omega
end
end Go.Proofs.YtfnbilpemdgkkaaGreatDoor
