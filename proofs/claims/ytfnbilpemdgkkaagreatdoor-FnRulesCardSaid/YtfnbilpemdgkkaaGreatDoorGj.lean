import Derived.Test.YtfnbilpemdgkkaaGreatDoorGi
import Derived.Lib.CountLaws
import Derived.Lib.Split
import Derived.Lib.AtoiTie
namespace Go.Proofs.YtfnbilpemdgkkaaGreatDoor
set_option linter.unusedVariables false
set_option linter.unusedSimpArgs false
section
variable {b : UInt8} {s : Str} {n : Int}
theorem b3w : ∀ {s : Str}, (Lib.index s [b] = -1 ∧ b ∉ s) ∨ ∃ x y, s = x ++ b :: y ∧ b ∉ x ∧ Lib.index s [b] = (x.length : Int)
 | [] => .inl (by simp [Lib.index])
 | c :: s => by
  by_cases h : c = b
  ·subst h
   exact .inr ⟨[], s, rfl, by simp, by simp [Lib.index]⟩
  ·have hb : (b == c) = false := by simpa using fun e : b = c => h e.symm
   have hp : ([b] : Str).isPrefixOf (c :: s) = false := by show (b == c && _) = false; rw [hb]; rfl
   rcases b3w (s := s) with ⟨h1, h2⟩ | ⟨x, y, h1, h2, h3⟩
   ·exact .inl ⟨by simp [Lib.index, hp, h1, fun e : b = c => h e.symm], by simp [h2]; exact fun e => h e.symm⟩
   ·refine .inr ⟨c :: x, y, by simp [h1], by simp [h2]; exact fun e => h e.symm, ?_⟩
    have h4 : ¬ (Lib.index s [b] == -1) = true := by rw [h3]; simp
    rw [Lib.index, hp, if_neg (by simp), if_neg h4, h3]; simp
theorem a5u : ∀ (k : Nat) (s : Str), s.length ≤ k → Lib.splitK [b] 0 (Lib.count s [b]) s = cut b s
 | k, s, hk => by
  rcases b3w (b := b) (s := s) with ⟨h1, h2⟩ | ⟨x, y, h1, h2, h3⟩
  ·rw [Lib.count_miss h1, a1J h2]; rfl
  ·have hd : s.drop (x.length + 1) = y := by rw [h1]; simp
   have ht : s.take x.length = x := by rw [h1]; simp
   have hc := Lib.count_hit (s := s) (sub := [b]) (i := x.length) (by simp) h3
   simp only [List.length_singleton] at hc
   rw [hd] at hc
   have h4 : ¬ (Lib.index s [b] == -1) = true := by rw [h3]; simp
   rw [hc, Nat.add_comm, Lib.splitK, if_neg h4, h3]
   simp only [Int.toNat_natCast, Nat.add_zero, List.length_singleton]
   have hl : y.length < s.length := by rw [h1]; simp; omega
   match k, hk with
   | 0, hk => omega
   | k + 1, hk =>
    rw [hd, ht, a5u k y (by omega)]
    conv => rhs; rw [h1]
    rw [a0r h2]
theorem a6P : ∀ {l : Str} {a k : Nat}, (∀ c ∈ l, X4 c) → ∃ m, Lib.decFrom a l = some m ∧ l.foldl pvS ((a : Int), k) = ((m : Int), k + l.length)
 | [], a, k, _ => ⟨a, rfl, by simp⟩
 | c :: l, a, k, h => by
  have hc := h c (by simp)
  rcases a6P (l := l) (a := a * 10 + (c.toNat - 48)) (k := k + 1) (fun x hx => h x (by simp [hx])) with ⟨m, h1, h2⟩
  refine ⟨m, ?_, ?_⟩
  ·rw [Lib.decFrom, Lib.digitVal, if_pos (show 48 ≤ c.toNat ∧ c.toNat ≤ 57 from hc)]; exact h1
  ·have e : pvS ((a : Int), k) c = (((a * 10 + (c.toNat - 48) : Nat) : Int), k + 1) := by
    rw [pvS, if_pos (show 48 ≤ c.toNat ∧ c.toNat ≤ 57 from hc)]
    refine Prod.ext ?_ rfl
    show (a : Int) * 10 + ((c.toNat : Int) - 48) = _
    have := hc.1; omega
   show List.foldl pvS (pvS _ _) _ = _
   rw [e, h2]; simp; omega
theorem a7v (h : n.natAbs ≤ 999999999) (h0 : n ≠ 0) : Lib.decNat (itN n 20).2 = some n.natAbs := by
 rcases a6P (l := (itN n 20).2) (a := 0) (k := 0) a0s with ⟨m, h1, h2⟩
 have h3 := (a7P h).1
 have h4 : (m : Int) = (n.natAbs : Int) := by
  have := h2.symm.trans h3
  exact congrArg Prod.fst this
 have h5 : m = n.natAbs := by omega
 have hne : (itN n 20).2 ≠ [] := by
  intro e; rw [e] at h3
  have : (0 : Int) = (n.natAbs : Int) := congrArg Prod.fst h3
  omega
 rw [Lib.decNat, if_neg (by simpa using hne), h1, h5]
theorem a9I (h : n.natAbs ≤ 999999999) : Lib.atoi (n9 n) = some n := by
 by_cases h0 : n = 0
 ·subst h0; decide
 have hd := a7v h h0
 by_cases hn : n < 0
 ·rw [← X8 h0 hn]
  show Lib.atoi (45 :: (itN n 20).2) = _
  rw [Lib.atoi, if_pos (by decide), hd]
  simp; omega
 ·rw [← Y1 h0 hn]
  have hg : ∀ c ∈ (itN n 20).2, X4 c := a0s
  match e : (itN n 20).2, hd, hg with
  | [], hd, _ => simp [Lib.decNat] at hd
  | c :: l, hd, hg =>
   have hc := hg c (by simp)
   unfold X4 at hc
   have n1 : ¬ (c == 45) = true := fun e => by have := beq_iff_eq.1 e; subst this; simp at hc
   have n2 : ¬ (c == 43) = true := fun e => by have := beq_iff_eq.1 e; subst this; simp at hc
   rw [Lib.atoi, if_neg n1, if_neg n2, hd]
   simp; omega
theorem a2u (h : n.natAbs ≤ 999999999) : Lib.atoiAll (n9 n) = .ok n := by
 rw [Lib.atoiAll_short _ (by have := (a7T h).2.2; omega), a9I h]; rfl
theorem b3x {p : Int × Nat} {c : UInt8} (h : 0 ≤ p.1 ∧ p.1 < 10 ^ p.2) : 0 ≤ (pvS p c).1 ∧ (pvS p c).1 < 10 ^ (pvS p c).2 := by
 unfold pvS; split
 ·rename_i hc
  refine ⟨by show 0 ≤ p.1 * 10 + ((c.toNat : Int) - 48); omega, ?_⟩
  show p.1 * 10 + ((c.toNat : Int) - 48) < 10 ^ (p.2 + 1)
  rw [Int.pow_succ]; omega
 ·exact h
theorem a7D : ∀ {l : Str} {p : Int × Nat}, 0 ≤ p.1 ∧ p.1 < 10 ^ p.2 → 0 ≤ (l.foldl pvS p).1 ∧ (l.foldl pvS p).1 < 10 ^ (l.foldl pvS p).2
 | [], _, h => h
 | c :: l, p, h => a7D (l := l) (b3x (c := c) h)
theorem a2H {s : Str} (h : pI s = some n) : n.natAbs ≤ 999999999 := by
 unfold pI at h
 split at h
 ·cases h
 ·rename_i e
  injection h with h
  have h9 : (pV s).2 ≤ 9 := Nat.le_of_not_lt fun x => e (.inl x)
  have hv : 0 ≤ (pV s).1 ∧ (pV s).1 < 10 ^ (pV s).2 := a7D (p := (0, 0)) (by decide)
  have hp : (10 : Nat) ^ (pV s).2 ≤ 10 ^ 9 := Nat.pow_le_pow_right (by omega) h9
  have hp2 : ((10 : Int) ^ (pV s).2) = (((10 : Nat) ^ (pV s).2 : Nat) : Int) := by simp
  rw [hp2] at hv
  unfold pN at h
  split at h <;> omega
theorem a9O {s : Str} (h : Lib.atoiAll s = .ok n) : (-999999999 ≤ n ∧ n ≤ 999999999 ∧ n9 n = s) ↔ pI s = some n :=
 ⟨fun ⟨h1, h2, h3⟩ => h3 ▸ a7Z (by omega), fun e => ⟨by have := a2H e; omega, by have := a2H e; omega, a4w e⟩⟩
theorem b1N {s : Str} (h : Lib.atoiAll s = .ok n) (h1 : ¬ (-999999999 ≤ n ∧ n ≤ 999999999 ∧ n9 n = s)) : pI s = none := by
 cases e : pI s with
 | none => rfl
 | some m =>
  have e1 := a2u (a2H e)
  rw [a4w e, h] at e1
  injection e1 with e1
  rw [← e1] at e
  exact absurd ((a9O h).2 e) h1
theorem b3F {s : Str} (h : ∀ n, Lib.atoiAll s ≠ .ok n) : pI s = none := by
 cases e : pI s with
 | none => rfl
 | some m =>
  have e1 := a2u (a2H e)
  rw [a4w e] at e1
  exact absurd e1 (h m)
end
end Go.Proofs.YtfnbilpemdgkkaaGreatDoor
