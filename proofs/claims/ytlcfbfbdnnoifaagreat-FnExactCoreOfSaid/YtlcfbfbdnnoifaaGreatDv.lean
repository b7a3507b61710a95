/- Plain definitions: a query without needless atoms. No program in sight. -/
import Derived.Test.YtlcfbfbdnnoifaaGreatDt
import Derived.Test.YtlcfbfbdnnoifaaGreatDu
namespace Go.Proofs.YtlcfbfbdnnoifaaGreat
set_option linter.unusedVariables false
/-- one round: the atom at the place is dropped if it is needless, else the place moves on -/
def coreS (s h : List Int) (a : List (Int × List Int) × Nat) : List (Int × List Int) × Nat :=
  if a.2 < a.1.length then (if conR s (h, dropA a.1 a.2) (h, a.1) then (dropA a.1 a.2, a.2) else (a.1, a.2 + 1)) else a
def coreN (s h : List Int) (l : List (Int × List Int)) : Nat → List (Int × List Int) × Nat
  | 0 => (l, 0)
  | n + 1 => coreS s h (coreN s h l n)
theorem dropA_len1 {α : Type} {l : List α} {i : Nat} (h : i < l.length) : (dropA l i).length + 1 = l.length := by
  unfold dropA inR
  rw [if_pos (by rw [decide_eq_true_eq]; omega)]
  simp; omega
theorem coreN_yes {s h : List Int} {l : List (Int × List Int)} {n : Nat} (h1 : (coreN s h l n).2 < (coreN s h l n).1.length) (h2 : conR s (h, dropA (coreN s h l n).1 (coreN s h l n).2) (h, (coreN s h l n).1) = true) : coreN s h l (n + 1) = (dropA (coreN s h l n).1 (coreN s h l n).2, (coreN s h l n).2) := by
  rw [coreN, coreS, if_pos h1, if_pos h2]
theorem coreN_no {s h : List Int} {l : List (Int × List Int)} {n : Nat} (h1 : (coreN s h l n).2 < (coreN s h l n).1.length) (h2 : conR s (h, dropA (coreN s h l n).1 (coreN s h l n).2) (h, (coreN s h l n).1) = false) : coreN s h l (n + 1) = ((coreN s h l n).1, (coreN s h l n).2 + 1) := by
  rw [coreN, coreS, if_pos h1, if_neg (by simp [h2])]
theorem coreN_stay {s h : List Int} {l : List (Int × List Int)} {n : Nat} (h1 : ¬ (coreN s h l n).2 < (coreN s h l n).1.length) : ∀ k, coreN s h l (n + k) = coreN s h l n
  | 0 => rfl
  | k + 1 => by
    show coreS s h (coreN s h l (n + k)) = _
    rw [coreN_stay h1 k, coreS, if_neg h1]
/-- n rounds that all did something -/
def coreI (s h : List Int) (l : List (Int × List Int)) (n : Nat) : Prop := (coreN s h l n).2 ≤ (coreN s h l n).1.length ∧ (coreN s h l n).1.length - (coreN s h l n).2 + n = l.length ∧ ∀ a ∈ (coreN s h l n).1, a ∈ l
theorem coreI_zero {s h : List Int} {l : List (Int × List Int)} : coreI s h l 0 := ⟨Nat.zero_le _, by simp [coreN], fun a ha => ha⟩
theorem coreI_yes {s h : List Int} {l : List (Int × List Int)} {n : Nat} (hi : coreI s h l n) (h1 : (coreN s h l n).2 < (coreN s h l n).1.length) (h2 : conR s (h, dropA (coreN s h l n).1 (coreN s h l n).2) (h, (coreN s h l n).1) = true) : coreI s h l (n + 1) := by
  obtain ⟨a, b, c⟩ := hi
  have h3 := dropA_len1 h1
  unfold coreI
  rw [coreN_yes h1 h2]
  exact ⟨by show _ ≤ (dropA _ _).length; omega, by show (dropA _ _).length - _ + _ = _; omega, fun x hx => c x (dropA_mem hx)⟩
theorem coreI_no {s h : List Int} {l : List (Int × List Int)} {n : Nat} (hi : coreI s h l n) (h1 : (coreN s h l n).2 < (coreN s h l n).1.length) (h2 : conR s (h, dropA (coreN s h l n).1 (coreN s h l n).2) (h, (coreN s h l n).1) = false) : coreI s h l (n + 1) := by
  obtain ⟨a, b, c⟩ := hi
  unfold coreI
  rw [coreN_no h1 h2]
  exact ⟨h1, by show (coreN s h l n).1.length - ((coreN s h l n).2 + 1) + (n + 1) = _; omega, c⟩
def coreR (s : List Int) (h : List Int) (l : List (Int × List Int)) : List (Int × List Int) := if okQuery s (h, l) then (coreN s h l l.length).1 else l
theorem core_done {s h : List Int} {l : List (Int × List Int)} {n : Nat} (hi : coreI s h l n) (h1 : ¬ (coreN s h l n).2 < (coreN s h l n).1.length) (hq : okQuery s (h, l) = true) : (coreN s h l n).1 = coreR s h l := by
  obtain ⟨a, b, c⟩ := hi
  have := coreN_stay h1 (l.length - n)
  rw [show n + (l.length - n) = l.length by omega] at this
  rw [coreR, if_pos hq, this]
theorem core_bad {s h : List Int} {l : List (Int × List Int)} (hq : okQuery s (h, l) = false) : coreR s h l = l := by simp [coreR, hq]
theorem dropA_tot2 {l : List (Int × List Int)} {i : Int} : totL (fun x => x.2.length) (dropA l i) ≤ totL (fun x => x.2.length) l := by
  have h1 := dropA_tot (t := fun x : Int × List Int => x.2.length) (l := l) (i := i)
  have h2 := dropA_len (l := l) (i := i)
  unfold totL; omega
theorem coreN_tot {s h : List Int} {l : List (Int × List Int)} : ∀ {n : Nat}, totL (fun x => x.2.length) (coreN s h l n).1 ≤ totL (fun x => x.2.length) l ∧ totS cE_Atom (coreN s h l n).1 ≤ totS cE_Atom l
  | 0 => ⟨Nat.le_refl _, Nat.le_refl _⟩
  | n + 1 => by
    have ih := coreN_tot (s := s) (h := h) (l := l) (n := n)
    have h1 := dropA_tot2 (l := (coreN s h l n).1) (i := (coreN s h l n).2)
    have h2 := dropA_tot (t := cE_Atom) (l := (coreN s h l n).1) (i := (coreN s h l n).2)
    rw [coreN, coreS]
    split
    · split
      · exact ⟨Nat.le_trans h1 ih.1, Nat.le_trans h2 ih.2⟩
      · exact ih
    · exact ih
theorem coreR_tot {s h : List Int} {l : List (Int × List Int)} : totS cE_Atom (coreR s h l) ≤ totS cE_Atom l := by
  unfold coreR
  split
  · exact coreN_tot.2
  · exact Nat.le_refl _
end Go.Proofs.YtlcfbfbdnnoifaaGreat
