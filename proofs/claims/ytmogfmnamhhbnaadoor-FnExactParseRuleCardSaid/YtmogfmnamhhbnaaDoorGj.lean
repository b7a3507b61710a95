/- Plain: the library's cut and the library's reading of a number, against the plain ones. No program in sight. -/
import Derived.Test.YtmogfmnamhhbnaaDoorGi
import Derived.Lib.CountLaws
import Derived.Lib.Split
import Derived.Lib.AtoiTie
namespace Go.Proofs.YtmogfmnamhhbnaaDoor
set_option linter.unusedVariables false
set_option linter.unusedSimpArgs false
section
variable {b : UInt8} {s : Str} {n : Int}
theorem idx1 : ∀ {s : Str}, (Lib.index s [b] = -1 ∧ b ∉ s) ∨ ∃ x y, s = x ++ b :: y ∧ b ∉ x ∧ Lib.index s [b] = (x.length : Int)
  | [] => .inl (by simp [Lib.index])
  | c :: s => by
    by_cases h : c = b
    · subst h
      exact .inr ⟨[], s, rfl, by simp, by simp [Lib.index]⟩
    · have hb : (b == c) = false := by simpa using fun e : b = c => h e.symm
      have hp : ([b] : Str).isPrefixOf (c :: s) = false := by show (b == c && _) = false; rw [hb]; rfl
      rcases idx1 (s := s) with ⟨h1, h2⟩ | ⟨x, y, h1, h2, h3⟩
      · exact .inl ⟨by simp [Lib.index, hp, h1, fun e : b = c => h e.symm], by simp [h2]; exact fun e => h e.symm⟩
      · refine .inr ⟨c :: x, y, by simp [h1], by simp [h2]; exact fun e => h e.symm, ?_⟩
        have h4 : ¬ (Lib.index s [b] == -1) = true := by rw [h3]; simp
        rw [Lib.index, hp, if_neg (by simp), if_neg h4, h3]; simp
theorem split_cut : ∀ (k : Nat) (s : Str), s.length ≤ k → Lib.splitK [b] 0 (Lib.count s [b]) s = cut b s
  | k, s, hk => by
    rcases idx1 (b := b) (s := s) with ⟨h1, h2⟩ | ⟨x, y, h1, h2, h3⟩
    · rw [Lib.count_miss h1, cut_none h2]; rfl
    · have hd : s.drop (x.length + 1) = y := by rw [h1]; simp
      have ht : s.take x.length = x := by rw [h1]; simp
      have hc := Lib.count_hit (s := s) (sub := [b]) (i := x.length) (by simp) h3
      simp only [List.length_singleton] at hc
      rw [hd] at hc
      have h4 : ¬ (Lib.index s [b] == -1) = true := by rw [h3]; simp
      rw [hc, Nat.add_comm, Lib.splitK, if_neg h4, h3]
      simp only [Int.toNat_natCast, Nat.add_zero, List.length_singleton]
      have hl : y.length < s.length := by rw [h1]; simp; omega
      match k, hk with
      | 0, hk => omega
      | k + 1, hk =>
        rw [hd, ht, split_cut k y (by omega)]
        conv => rhs; rw [h1]
        rw [cut_app h2]
theorem dec_fold : ∀ {l : Str} {a k : Nat}, (∀ c ∈ l, isDig c) → ∃ m, Lib.decFrom a l = some m ∧ l.foldl pvS ((a : Int), k) = ((m : Int), k + l.length)
  | [], a, k, _ => ⟨a, rfl, by simp⟩
  | c :: l, a, k, h => by
    have hc := h c (by simp)
    rcases dec_fold (l := l) (a := a * 10 + (c.toNat - 48)) (k := k + 1) (fun x hx => h x (by simp [hx])) with ⟨m, h1, h2⟩
    refine ⟨m, ?_, ?_⟩
    · rw [Lib.decFrom, Lib.digitVal, if_pos (show 48 ≤ c.toNat ∧ c.toNat ≤ 57 from hc)]; exact h1
    · have e : pvS ((a : Int), k) c = (((a * 10 + (c.toNat - 48) : Nat) : Int), k + 1) := by
        rw [pvS, if_pos (show 48 ≤ c.toNat ∧ c.toNat ≤ 57 from hc)]
        refine Prod.ext ?_ rfl
        show (a : Int) * 10 + ((c.toNat : Int) - 48) = _
        have := hc.1; omega
      show List.foldl pvS (pvS _ _) _ = _
      rw [e, h2]; simp; omega
theorem decNat_text (h : n.natAbs ≤ 999999999) (h0 : n ≠ 0) : Lib.decNat (itN n 20).2 = some n.natAbs := by
  rcases dec_fold (l := (itN n 20).2) (a := 0) (k := 0) itN_dig with ⟨m, h1, h2⟩
  have h3 := (itN_val h).1
  have h4 : (m : Int) = (n.natAbs : Int) := by
    have := h2.symm.trans h3
    exact congrArg Prod.fst this
  have h5 : m = n.natAbs := by omega
  have hne : (itN n 20).2 ≠ [] := by
    intro e; rw [e] at h3
    have : (0 : Int) = (n.natAbs : Int) := congrArg Prod.fst h3
    omega
  rw [Lib.decNat, if_neg (by simpa using hne), h1, h5]
theorem atoi_text (h : n.natAbs ≤ 999999999) : Lib.atoi (textI n) = some n := by
  by_cases h0 : n = 0
  · subst h0; decide
  have hd := decNat_text h h0
  by_cases hn : n < 0
  · rw [← textI_neg h0 hn]
    show Lib.atoi (45 :: (itN n 20).2) = _
    rw [Lib.atoi, if_pos (by decide), hd]
    simp; omega
  · rw [← textI_pos h0 hn]
    have hg : ∀ c ∈ (itN n 20).2, isDig c := itN_dig
    match e : (itN n 20).2, hd, hg with
    | [], hd, _ => simp [Lib.decNat] at hd
    | c :: l, hd, hg =>
      have hc := hg c (by simp)
      unfold isDig at hc
      have n1 : ¬ (c == 45) = true := fun e => by have := beq_iff_eq.1 e; subst this; simp at hc
      have n2 : ¬ (c == 43) = true := fun e => by have := beq_iff_eq.1 e; subst this; simp at hc
      rw [Lib.atoi, if_neg n1, if_neg n2, hd]
      simp; omega
theorem atoiAll_text (h : n.natAbs ≤ 999999999) : Lib.atoiAll (textI n) = .ok n := by
  rw [Lib.atoiAll_short _ (by have := (pV_text h).2.2; omega), atoi_text h]; rfl
theorem pvS_lt {p : Int × Nat} {c : UInt8} (h : 0 ≤ p.1 ∧ p.1 < 10 ^ p.2) : 0 ≤ (pvS p c).1 ∧ (pvS p c).1 < 10 ^ (pvS p c).2 := by
  unfold pvS; split
  · rename_i hc
    refine ⟨by show 0 ≤ p.1 * 10 + ((c.toNat : Int) - 48); omega, ?_⟩
    show p.1 * 10 + ((c.toNat : Int) - 48) < 10 ^ (p.2 + 1)
    rw [Int.pow_succ]; omega
  · exact h
theorem fold_lt : ∀ {l : Str} {p : Int × Nat}, 0 ≤ p.1 ∧ p.1 < 10 ^ p.2 → 0 ≤ (l.foldl pvS p).1 ∧ (l.foldl pvS p).1 < 10 ^ (l.foldl pvS p).2
  | [], _, h => h
  | c :: l, p, h => fold_lt (l := l) (pvS_lt (c := c) h)
theorem pI_le {s : Str} (h : pI s = some n) : n.natAbs ≤ 999999999 := by
  unfold pI at h
  split at h
  · cases h
  · rename_i e
    injection h with h
    have h9 : (pV s).2 ≤ 9 := Nat.le_of_not_lt fun x => e (.inl x)
    have hv : 0 ≤ (pV s).1 ∧ (pV s).1 < 10 ^ (pV s).2 := fold_lt (p := (0, 0)) (by decide)
    have hp : (10 : Nat) ^ (pV s).2 ≤ 10 ^ 9 := Nat.pow_le_pow_right (by omega) h9
    have hp2 : ((10 : Int) ^ (pV s).2) = (((10 : Nat) ^ (pV s).2 : Nat) : Int) := by simp
    rw [hp2] at hv
    unfold pN at h
    split at h <;> omega
/-- what the library's reading and the round trip leave -/
theorem pI_lib {s : Str} (h : Lib.atoiAll s = .ok n) : (-999999999 ≤ n ∧ n ≤ 999999999 ∧ textI n = s) ↔ pI s = some n :=
  ⟨fun ⟨h1, h2, h3⟩ => h3 ▸ pI_text (by omega), fun e => ⟨by have := pI_le e; omega, by have := pI_le e; omega, pI_some e⟩⟩
theorem pI_ok {s : Str} (h : Lib.atoiAll s = .ok n) (h1 : ¬ (-999999999 ≤ n ∧ n ≤ 999999999 ∧ textI n = s)) : pI s = none := by
  cases e : pI s with
  | none => rfl
  | some m =>
    have e1 := atoiAll_text (pI_le e)
    rw [pI_some e, h] at e1
    injection e1 with e1
    rw [← e1] at e
    exact absurd ((pI_lib h).2 e) h1
theorem pI_not {s : Str} (h : ∀ n, Lib.atoiAll s ≠ .ok n) : pI s = none := by
  cases e : pI s with
  | none => rfl
  | some m =>
    have e1 := atoiAll_text (pI_le e)
    rw [pI_some e] at e1
    exact absurd e1 (h m)
end
end Go.Proofs.YtmogfmnamhhbnaaDoor
