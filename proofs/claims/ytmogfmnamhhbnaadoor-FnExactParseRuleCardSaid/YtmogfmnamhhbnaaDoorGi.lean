/- Plain: two readings of a rule's text agree. No program in sight. -/
import Derived.Test.YtmogfmnamhhbnaaDoorGh
import Derived.Lib.Strings
namespace Go.Proofs.YtmogfmnamhhbnaaDoor
set_option linter.unusedVariables false
set_option linter.unusedSimpArgs false
def numS (s : Str) : Int := (pI s).getD (-100000)
def num0 (s : Str) : Int := (pI s).getD 0
def relS (w : Str) : Int := if w.length < 2 ∨ w.head? ≠ some 114 then -1 else numS (w.drop 1)
def relI (w : Str) : Int := num0 (Lib.trimPrefix w [114])
def intsP (l : List Str) : List Int := (l.mapM pI).getD []
def wd (t : Str) (i : Nat) : Str := (cut 32 t).getD i []
def rS (t : Str) : Int × Int × List Int := (relS (wd t 0), relS (wd t 2), (cut 44 (wd t 3)).map numS)
def rI (t : Str) : Int × Int × List Int := (relI (wd t 0), relI (wd t 2), intsP (cut 44 (wd t 3)))
/-- a rule's text is read: the rule, and whether it is one -/
def parseR (s : List Int) (t : Str) : (Int × Int × List Int) × Bool :=
  if (cut 32 t).length = 4 ∧ okRule s (rS t) = true ∧ textR (rS t) = t then (rS t, true) else ((0, 0, []), false)
section
variable {s : List Int} {t w : Str}
theorem numS_pos (h : 0 ≤ numS w) : pI w = some (numS w) := by
  unfold numS at h ⊢
  cases e : pI w with
  | none => rw [e] at h; simp at h
  | some n => simp
theorem relI_of (h : 0 ≤ relS w) : relI w = relS w := by
  unfold relS at h ⊢
  split at h
  · simp at h
  · rename_i h1
    rw [if_neg h1]
    have h2 : ¬ w.length < 2 := fun e => h1 (.inl e)
    have h3 : w.head? = some 114 := Classical.byContradiction fun e => h1 (.inr e)
    match w, h3 with
    | c :: x, h3 =>
      have : c = 114 := by simpa using h3
      subst this
      have h4 : Lib.trimPrefix (114 :: x) [114] = x := by simp [Lib.trimPrefix, Lib.hasPrefix]
      rw [relI, h4, num0]
      have h5 := numS_pos h
      simp only [List.drop_succ_cons, List.drop_zero] at h5 ⊢
      rw [h5]; rfl
theorem ints_of : ∀ {l : List Str}, (∀ x ∈ l.map numS, 0 ≤ x) → l.mapM pI = some (l.map numS)
  | [], _ => by simp
  | x :: l, h => by
    have h1 := numS_pos (w := x) (h _ (by simp))
    have h2 := ints_of (l := l) (fun y hy => h y (by simp only [List.map_cons, List.mem_cons]; exact .inr hy))
    rw [List.mapM_cons, h1, h2]; simp
theorem okPos_ge : ∀ {l : List Int} {k : Int}, okPos l k = true → ∀ x ∈ l, 0 ≤ x := by
  intro l k h x hx
  simp only [okPos, Bool.not_eq_true', List.any_eq_false, Bool.not_eq_true] at h
  have h2 : inR x 0 (k - 1) = true := by simpa using h x hx
  simp only [inR, decide_eq_true_eq] at h2; exact h2.1
theorem rI_of (h : okRule s (rS t) = true) : rI t = rS t := by
  simp only [okRule, Bool.and_eq_true, okRel, inR, decide_eq_true_eq] at h
  have e1 := relI_of (w := wd t 0) (by have := h.1; simp_all [rS])
  have e2 := relI_of (w := wd t 2) (by have := h.2.1; simp_all [rS])
  have e3 := ints_of (l := cut 44 (wd t 3)) (okPos_ge h.2.2.2)
  rw [rI, rS, e1, e2, intsP, e3]; rfl
theorem numS_text {n : Int} (h : 0 ≤ n ∧ n ≤ 9) : numS (textI n) = n := by
  rw [numS, pI_text (by omega)]; rfl
theorem textI_ne {n : Int} (h : 0 ≤ n ∧ n ≤ 9) : 0 < (textI n).length := by
  rw [← textI_dig h]; simp [dig]
theorem relS_text {n : Int} (h : 0 ≤ n ∧ n ≤ 9) : relS (114 :: textI n) = n := by
  have := textI_ne h
  rw [relS, if_neg (by simp; omega)]
  exact numS_text h
theorem rS_text {r : Int × Int × List Int} (h0 : textR r ≠ []) : rS (textR r) = r ∧ (cut 32 (textR r)).length = 4 := by
  have hc : (inR r.1 0 2 && (inR r.2.1 0 2 && (inR (r.2.2.length : Int) 1 3 && okPos r.2.2 3))) = true := by
    rw [textR] at h0; split at h0
    · assumption
    · exact absurd rfl h0
  have e : textR r = (114 :: textI r.1) ++ 32 :: ([103, 105, 118, 101, 115] ++ 32 :: ((114 :: textI r.2.1) ++ 32 :: Lib.join (r.2.2.map textI) [44])) := by
    rw [textR, if_pos hc]; simp
  simp only [Bool.and_eq_true, inR, decide_eq_true_eq] at hc
  have k1 : ∀ n, (32 : UInt8) ∉ (114 :: textI n) := fun n hm => by
    rcases List.mem_cons.1 hm with x | x
    · exact absurd x (by decide)
    · exact textI_no (by decide) x
  have kj : (32 : UInt8) ∉ Lib.join (r.2.2.map textI) [44] := by
    have : ∀ {xs : List Str}, (∀ x ∈ xs, (32 : UInt8) ∉ x) → (32 : UInt8) ∉ Lib.join xs [44] := by
      intro xs
      induction xs with
      | nil => intro _; simp [Lib.join]
      | cons x xs ih =>
        intro h
        cases xs with
        | nil => simpa [Lib.join] using h
        | cons y ys =>
          have h1 : Lib.join (x :: y :: ys) [44] = x ++ 44 :: Lib.join (y :: ys) [44] := by simp [Lib.join]
          rw [h1]
          intro hm
          rcases List.mem_append.1 hm with a | a
          · exact h x (by simp) a
          · rcases List.mem_cons.1 a with a | a
            · exact absurd a (by decide)
            · exact ih (fun z hz => h z (List.mem_cons_of_mem _ hz)) a
    refine this fun x hx => ?_
    rcases List.mem_map.1 hx with ⟨n, _, rfl⟩
    exact textI_no (by decide)
  have c : cut 32 (textR r) = [114 :: textI r.1, [103, 105, 118, 101, 115], 114 :: textI r.2.1, Lib.join (r.2.2.map textI) [44]] := by
    rw [e, cut_app (k1 _), cut_app (by decide), cut_app (k1 _), cut_none kj]
  have j : cut 44 (Lib.join (r.2.2.map textI) [44]) = r.2.2.map textI := by
    refine cut_join (fun x hx => ?_) ?_
    · rcases List.mem_map.1 hx with ⟨n, _, rfl⟩
      exact textI_no (by decide)
    · intro e1
      have : r.2.2.length = 0 := by simpa using congrArg List.length e1
      omega
  refine ⟨?_, by rw [c]; rfl⟩
  have hp := okPos_all hc.2.2.2
  have m : (r.2.2.map textI).map numS = r.2.2 := by
    rw [List.map_map]
    exact (List.map_congr_left fun x hx => numS_text (hp x hx)).trans (List.map_id _)
  rw [rS]
  simp only [wd, c, List.getD_cons_zero, List.getD_cons_succ]
  rw [relS_text (by omega), relS_text (by omega), j, m]
theorem cut4 (h : (cut 32 t).length = 4) : t ≠ [] := by
  intro e; subst e; simp [cut] at h
/-- the program's reading is the reference's -/
theorem parseR_I : parseR s t = if (cut 32 t).length = 4 ∧ okRule s (rI t) = true ∧ textR (rI t) = t then (rI t, true) else ((0, 0, []), false) := by
  unfold parseR
  by_cases h : (cut 32 t).length = 4 ∧ okRule s (rS t) = true ∧ textR (rS t) = t
  · rw [if_pos h, rI_of h.2.1, if_pos h]
  · rw [if_neg h]
    by_cases g : (cut 32 t).length = 4 ∧ okRule s (rI t) = true ∧ textR (rI t) = t
    · have e : rS t = rI t := by
        have := (rS_text (r := rI t) (by rw [g.2.2]; exact cut4 g.1)).1
        rwa [g.2.2] at this
      rw [e] at h; exact absurd g h
    · rw [if_neg g]
end
end Go.Proofs.YtmogfmnamhhbnaaDoor
