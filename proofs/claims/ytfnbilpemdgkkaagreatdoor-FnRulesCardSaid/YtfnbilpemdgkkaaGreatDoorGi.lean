import Derived.Test.YtfnbilpemdgkkaaGreatDoorGh
import Derived.Lib.Strings
namespace Go.Proofs.YtfnbilpemdgkkaaGreatDoor
set_option linter.unusedVariables false
set_option linter.unusedSimpArgs false
def W6 (s : Str) : Int := (pI s).getD (-100000)
def H1 (s : Str) : Int := (pI s).getD 0
def Y9 (w : Str) : Int := if w.length < 2 ∨ w.head? ≠ some 114 then -1 else W6 (w.drop 1)
def a4y (w : Str) : Int := H1 (Lib.trimPrefix w [114])
def I9 (l : List Str) : List Int := (l.mapM pI).getD []
def wd (t : Str) (i : Nat) : Str := (cut 32 t).getD i []
def rS (t : Str) : Int × Int × List Int := (Y9 (wd t 0), Y9 (wd t 2), (cut 44 (wd t 3)).map W6)
def rI (t : Str) : Int × Int × List Int := (a4y (wd t 0), a4y (wd t 2), I9 (cut 44 (wd t 3)))
def y7 (s : List Int) (t : Str) : (Int × Int × List Int) × Bool :=
 if (cut 32 t).length = 4 ∧ t7 s (rS t) = true ∧ x6 (rS t) = t then (rS t, true) else ((0, 0, []), false)
section
variable {s : List Int} {t w : Str}
theorem a6d (h : 0 ≤ W6 w) : pI w = some (W6 w) := by
 unfold W6 at h ⊢
 cases e : pI w with
 | none => rw [e] at h; simp at h
 | some n => simp
theorem a7H (h : 0 ≤ Y9 w) : a4y w = Y9 w := by
 unfold Y9 at h ⊢
 split at h
 ·simp at h
 ·rename_i h1
  rw [if_neg h1]
  have h2 : ¬ w.length < 2 := fun e => h1 (.inl e)
  have h3 : w.head? = some 114 := Classical.byContradiction fun e => h1 (.inr e)
  match w, h3 with
  | c :: x, h3 =>
   have : c = 114 := by simpa using h3
   subst this
   have h4 : Lib.trimPrefix (114 :: x) [114] = x := by simp [Lib.trimPrefix, Lib.hasPrefix]
   rw [a4y, h4, H1]
   have h5 := a6d h
   simp only [List.drop_succ_cons, List.drop_zero] at h5 ⊢
   rw [h5]; rfl
theorem a7L : ∀ {l : List Str}, (∀ x ∈ l.map W6, 0 ≤ x) → l.mapM pI = some (l.map W6)
 | [], _ => by simp
 | x :: l, h => by
  have h1 := a6d (w := x) (h _ (by simp))
  have h2 := a7L (l := l) (fun y hy => h y (by simp only [List.map_cons, List.mem_cons]; exact .inr hy))
  rw [List.mapM_cons, h1, h2]; simp
theorem b0K : ∀ {l : List Int} {k : Int}, E4 l k = true → ∀ x ∈ l, 0 ≤ x := by
 intro l k h x hx
 simp only [E4, Bool.not_eq_true', List.any_eq_false, Bool.not_eq_true] at h
 have h2 : inR x 0 (k - 1) = true := by simpa using h x hx
 simp only [inR, decide_eq_true_eq] at h2; exact h2.1
theorem b4J (h : t7 s (rS t) = true) : rI t = rS t := by
 simp only [t7, Bool.and_eq_true, D7, inR, decide_eq_true_eq] at h
 have e1 := a7H (w := wd t 0) (by have := h.1; simp_all [rS])
 have e2 := a7H (w := wd t 2) (by have := h.2.1; simp_all [rS])
 have e3 := a7L (l := cut 44 (wd t 3)) (b0K h.2.2.2)
 rw [rI, rS, e1, e2, I9, e3]; rfl
theorem a5z {n : Int} (h : 0 ≤ n ∧ n ≤ 9) : W6 (n9 n) = n := by
 rw [W6, a7Z (by omega)]; rfl
theorem b0A {n : Int} (h : 0 ≤ n ∧ n ≤ 9) : 0 < (n9 n).length := by
 rw [← a9c h]; simp [dig]
theorem a5I {n : Int} (h : 0 ≤ n ∧ n ≤ 9) : Y9 (114 :: n9 n) = n := by
 have := b0A h
 rw [Y9, if_neg (by simp; omega)]
 exact a5z h
theorem a7F {r : Int × Int × List Int} (h0 : x6 r ≠ []) : rS (x6 r) = r ∧ (cut 32 (x6 r)).length = 4 := by
 have hc : (inR r.1 0 2 && (inR r.2.1 0 2 && (inR (r.2.2.length : Int) 1 3 && E4 r.2.2 3))) = true := by
  rw [x6] at h0; split at h0
  ·assumption
  ·exact absurd rfl h0
 have e : x6 r = (114 :: n9 r.1) ++ 32 :: ([103, 105, 118, 101, 115] ++ 32 :: ((114 :: n9 r.2.1) ++ 32 :: Lib.join (r.2.2.map n9) [44])) := by
  rw [x6, if_pos hc]; simp
 simp only [Bool.and_eq_true, inR, decide_eq_true_eq] at hc
 have k1 : ∀ n, (32 : UInt8) ∉ (114 :: n9 n) := fun n hm => by
  rcases List.mem_cons.1 hm with x | x
  ·exact absurd x (by decide)
  ·exact a3j (by decide) x
 have kj : (32 : UInt8) ∉ Lib.join (r.2.2.map n9) [44] := by
  have : ∀ {xs : List Str}, (∀ x ∈ xs, (32 : UInt8) ∉ x) → (32 : UInt8) ∉ Lib.join xs [44] := by
   intro xs
   induction xs with
   | nil => intro _; simp [Lib.join]
   | cons x xs ih =>
    intro h
    cases xs with
    | nil => simpa [Lib.join] using h
    | cons y ys =>
     have h1 : Lib.join (x :: y :: ys) [44] = x ++ 44 :: Lib.join (y :: ys) [44] := by simp [Lib.join]
     rw [h1]
     intro hm
     rcases List.mem_append.1 hm with a | a
     ·exact h x (by simp) a
     ·rcases List.mem_cons.1 a with a | a
      ·exact absurd a (by decide)
      ·exact ih (fun z hz => h z (List.mem_cons_of_mem _ hz)) a
  refine this fun x hx => ?_
  rcases List.mem_map.1 hx with ⟨n, _, rfl⟩
  exact a3j (by decide)
 have c : cut 32 (x6 r) = [114 :: n9 r.1, [103, 105, 118, 101, 115], 114 :: n9 r.2.1, Lib.join (r.2.2.map n9) [44]] := by
  rw [e, a0r (k1 _), a0r (by decide), a0r (k1 _), a1J kj]
 have j : cut 44 (Lib.join (r.2.2.map n9) [44]) = r.2.2.map n9 := by
  refine a6Y (fun x hx => ?_) ?_
  ·rcases List.mem_map.1 hx with ⟨n, _, rfl⟩
   exact a3j (by decide)
  ·intro e1
   have : r.2.2.length = 0 := by simpa using congrArg List.length e1
   omega
 refine ⟨?_, by rw [c]; rfl⟩
 have hp := a5m hc.2.2.2
 have m : (r.2.2.map n9).map W6 = r.2.2 := by
  rw [List.map_map]
  exact (List.map_congr_left fun x hx => a5z (hp x hx)).trans (List.map_id _)
 rw [rS]
 simp only [wd, c, List.getD_cons_zero, List.getD_cons_succ]
 rw [a5I (by omega), a5I (by omega), j, m]
theorem b3B (h : (cut 32 t).length = 4) : t ≠ [] := by
 intro e; subst e; simp [cut] at h
theorem a6z : y7 s t = if (cut 32 t).length = 4 ∧ t7 s (rI t) = true ∧ x6 (rI t) = t then (rI t, true) else ((0, 0, []), false) := by
 unfold y7
 by_cases h : (cut 32 t).length = 4 ∧ t7 s (rS t) = true ∧ x6 (rS t) = t
 ·rw [if_pos h, b4J h.2.1, if_pos h]
 ·rw [if_neg h]
  by_cases g : (cut 32 t).length = 4 ∧ t7 s (rI t) = true ∧ x6 (rI t) = t
  ·have e : rS t = rI t := by
    have := (a7F (r := rI t) (by rw [g.2.2]; exact b3B g.1)).1
    rwa [g.2.2] at this
   rw [e] at h; exact absurd g h
  ·rw [if_neg g]
end
end Go.Proofs.YtfnbilpemdgkkaaGreatDoor
