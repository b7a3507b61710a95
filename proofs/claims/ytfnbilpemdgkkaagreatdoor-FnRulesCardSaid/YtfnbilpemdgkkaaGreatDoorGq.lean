import Derived.Test.YtfnbilpemdgkkaaGreatDoorGl
import Derived.Lib.LaidTab
section
namespace Go.Proofs.YtfnbilpemdgkkaaGreatDoor
set_option linter.unusedVariables false
set_option linter.unusedSimpArgs false
section
variable {s t : Str} {n : Int} {g k : Nat} {l : List Str} {b : UInt8} {sc : List Int}
theorem a4v : -999999999 ≤ H1 s ∧ H1 s ≤ 999999999 := by
 unfold H1
 cases e : pI s with
 | none => simp
 | some n => have := a2H e; simp; omega
theorem b2t : -999999999 ≤ W6 s ∧ W6 s ≤ 999999999 := by
 unfold W6
 cases e : pI s with
 | none => simp
 | some n => have := a2H e; simp; omega
theorem a7R : -999999999 ≤ Y9 s ∧ Y9 s ≤ 999999999 := by
 unfold Y9; split
 ·omega
 ·exact b2t
theorem b2b (hg : g < l.length) (h : ((l.take g).mapM pI).isSome = true) (h1 : (pI l[g]).isSome = true) : ((l.take (g + 1)).mapM pI).isSome = true ∧ I9 (l.take (g + 1)) = I9 (l.take g) ++ [H1 l[g]] := by
 obtain ⟨o, ho⟩ := Option.isSome_iff_exists.1 h
 obtain ⟨n, hn⟩ := Option.isSome_iff_exists.1 h1
 have := b2l hg ho hn
 rw [I9, this, I9, ho, H1, hn]
 exact ⟨rfl, rfl⟩
theorem a9x (hg : g < l.length) (h1 : (pI l[g]).isSome = false) : l.mapM pI = none := b4r hg (by
 cases e : pI l[g] with
 | none => rfl
 | some n => rw [e] at h1; cases h1)
theorem a6q (hg : ¬ g < l.length) : l.take g = l := List.take_of_length_le (by omega)
theorem a9V : ∀ {l : List Str}, (I9 l).length ≤ l.length := by
 intro l
 unfold I9
 cases e : l.mapM pI with
 | none => simp
 | some o => have := Lib.mapM_length e; simp; omega
theorem a7Q (hg : ¬ g < l.length) (h : ((l.take g).mapM pI).isSome = true) : (l.mapM pI).isSome = true := by rw [a6q hg] at h; exact h
theorem C2 (h : t.length ≤ 1048576) {i : Nat} (hi : i < (cut b t).length) : (cut b t)[i].length ≤ 1048576 := Nat.le_trans (a2Q _ (List.getElem_mem _)) h
theorem a8s {i : Nat} (h : i < (cut 32 t).length) : (cut 32 t)[i] = wd t i := by
 rw [wd, List.getD_eq_getElem?_getD, List.getElem?_eq_getElem h]; rfl
theorem a0U (h : (cut 32 t).length ≠ 4) : y7 sc t = ((0, 0, []), false) := by
 rw [y7, if_neg (fun x => h x.1)]
theorem N0 (h : t7 sc (rI t) = false ∨ x6 (rI t) ≠ t) : y7 sc t = ((0, 0, []), false) := by
 rw [a6z, if_neg fun x => by
  rcases h with h | h
  ·rw [h] at x; exact absurd x.2.1 (by decide)
  ·exact h x.2.2]
theorem a0i (h4 : (↑(cut 32 t).length : Int) = 4) (h1 : t7 sc (rI t) = true) (h2 : x6 (rI t) = t) : y7 sc t = (rI t, true) := by
 rw [a6z, if_pos ⟨by omega, h1, h2⟩]
theorem b4g (h : (cut 32 t).length = 4) : (H1 (Lib.trimPrefix (cut 32 t)[0] [114]), H1 (Lib.trimPrefix (cut 32 t)[2] [114]), I9 (cut 44 (cut 32 t)[3])) = rI t := by
 rw [rI, a4y, a4y, a8s, a8s, a8s]
theorem a1S {p : Str} : (Lib.trimPrefix s p).length ≤ s.length := by
 unfold Lib.trimPrefix; split <;> simp
end
end Go.Proofs.YtfnbilpemdgkkaaGreatDoor
end
section
namespace Go.Proofs.YtfnbilpemdgkkaaGreatDoor
theorem b1o {s : List Int} {t : Str} : I64 (y7 s t).1.1 ∧ I64 (y7 s t).1.2.1 ∧ x3 B9 (y7 s t).1.2.2 ≤ 3 := by
 unfold y7
 split
 ·rename_i h
  have h1 := a7R (s := wd t 0)
  have h2 := a7R (s := wd t 2)
  refine ⟨?_, ?_, ?_⟩
  ·show I64 (Y9 (wd t 0)); unfold I64; omega
  ·show I64 (Y9 (wd t 2)); unfold I64; omega
  ·have h3 : (rS t).2.2.length ≤ 3 := W8 h.2.1
   rw [a6l]; exact h3
 ·refine ⟨?_, ?_, ?_⟩
  ·show I64 0; unfold I64; omega
  ·show I64 0; unfold I64; omega
  ·show x3 B9 [] ≤ 3; rw [a6l]; simp
end Go.Proofs.YtfnbilpemdgkkaaGreatDoor
end
section
namespace Go.Proofs.YtfnbilpemdgkkaaGreatDoor
section
variable {s : Str}
theorem a9i (h : (!okA s) = true) : pI s = none := b3m (by simpa using h)
theorem a9m (h : (!okA s) = false) (h1 : inR (atV s) (-999999999) 999999999 = false) : pI s = none := by
 refine b1N (a4M (by simpa using h)) fun x => ?_
 simp only [inR, decide_eq_false_iff_not] at h1
 exact h1 ⟨x.1, x.2.1⟩
theorem a9P (h : (!okA s) = false) (h1 : n9 (atV s) ≠ s) : pI s = none := b1N (a4M (by simpa using h)) fun x => h1 x.2.2
theorem a9j (h : (!okA s) = false) (h1 : inR (atV s) (-999999999) 999999999 = true) (h2 : ¬ n9 (atV s) ≠ s) : pI s = some (atV s) := by
 simp only [inR, decide_eq_true_eq] at h1
 exact (a9O (a4M (by simpa using h))).1 ⟨h1.1, h1.2, Decidable.not_not.1 h2⟩
end
end Go.Proofs.YtfnbilpemdgkkaaGreatDoor
end
