import Derived.Test.YtonkkkjgdohooaaGreatEn
namespace Go.Proofs.YtonkkkjgdohooaaGreat
set_option linter.unusedVariables false
set_option linter.unusedSimpArgs false
section
variable {s : List Int} {facts : List Fct}
theorem asc_of (h : okFs s facts 0 = true) : ascF facts ∧ ∀ f ∈ facts, okFact s f = true := by
  simp only [okFs, List.drop_zero, Bool.and_eq_true, List.all_eq_true] at h
  exact ⟨pw_of_chain (fun a b c h1 h2 => by simp only [ltF, decide_eq_true_eq] at h1 h2 ⊢; exact cmpF_tr h1 h2) h.2, h.1⟩
theorem asc_no {l : List Mth} (hm : okMeths s l = true) (h : (okFs s facts 0 && okSchema s) = false) : okFs s facts 0 = false := by
  simp only [okMeths, Bool.and_eq_true] at hm
  rwa [hm.1, Bool.and_true] at h
theorem asc_fin (h : okFs s facts 0 = true) : finF s facts := ⟨Nat.le_trans (facts_few (ascF_nodup (asc_of h).1) (asc_of h).2) (by decide), (asc_of h).2⟩
theorem asc_few (h : okFs s facts 0 = true) (a : Int × List Int) : Few a facts := fewOk (ascF_nodup (asc_of h).1) (asc_of h).2
end
def factsL (u : UU) : List Fct := u.2.2.2.map fun x => x.2.2
attribute [local irreducible] uFin
def chkU (s : List Int) (l : List Mth) (rules : List Rul) (q : List Int × List (Int × List Int)) (A B : List Fct) (t : List Int) : Bool :=
  (okMeths s l && okRules s rules) && (okQuery s q && (okFs s A 0 && (okFs s B 0 && (!decide ((0 : Int) < (missF rules A).length) && (!decide ((0 : Int) < (missF rules B).length) &&
    (decide (factsL (uFin l rules A (constF q)) = factsL (uFin l rules B (constF q))) && (hasT (tupF q.1 (bindsF q.2 A)) t && !hasT (tupF q.1 (bindsF q.2 B)) t)))))))
section
variable {s : List Int} {l : List Mth} {rules : List Rul} {q : List Int × List (Int × List Int)} {A B : List Fct} {t : List Int}
theorem chk1 (h : (okMeths s l && okRules s rules) = false) : chkU s l rules q A B t = false := by rw [chkU, h]; rfl
theorem chk2 (h : okQuery s q = false) : chkU s l rules q A B t = false := by rw [chkU, h]; simp
theorem chk3 (h : okFs s A 0 = false) : chkU s l rules q A B t = false := by rw [chkU, h]; simp
theorem chk4 (h : okFs s B 0 = false) : chkU s l rules q A B t = false := by rw [chkU, h]; simp
theorem chk5 (h : (0 : Int) < (missF rules A).length) : chkU s l rules q A B t = false := by rw [chkU, decide_eq_true h]; simp
theorem chk6 (h : (0 : Int) < (missF rules B).length) : chkU s l rules q A B t = false := by rw [chkU, decide_eq_true h]; simp
theorem chk7 (h : ¬ factsL (uFin l rules A (constF q)) = factsL (uFin l rules B (constF q))) : chkU s l rules q A B t = false := by rw [chkU, decide_eq_false h]; simp
theorem chk8 (h : hasT (tupF q.1 (bindsF q.2 A)) t = false) : chkU s l rules q A B t = false := by rw [chkU, h]; simp
theorem chk9 (h1 : (okMeths s l && okRules s rules) = true) (h2 : okQuery s q = true) (h3 : okFs s A 0 = true) (h4 : okFs s B 0 = true) (h5 : ¬ (0 : Int) < (missF rules A).length) (h6 : ¬ (0 : Int) < (missF rules B).length)
    (h7 : factsL (uFin l rules A (constF q)) = factsL (uFin l rules B (constF q))) (h8 : hasT (tupF q.1 (bindsF q.2 A)) t = true) : (!hasT (tupF q.1 (bindsF q.2 B)) t) = chkU s l rules q A B t := by
  rw [chkU, h1, h2, h3, h4, decide_eq_false h5, decide_eq_false h6, decide_eq_true h7, h8]; rfl
end
section
variable {X Y : List Lin} {g : Nat}
theorem fl_len (h : ¬ X.length = Y.length) : ¬ (X.map fun x => x.2.2) = Y.map fun x => x.2.2 := fun e => h (by have := congrArg List.length e; simpa using this)
theorem fl_get (hx : g < X.length) (hy : g < Y.length) (h : ¬ X[g].2.2 = Y[g].2.2) : ¬ (X.map fun x => x.2.2) = Y.map fun x => x.2.2 := fun e => h (by
  have := congrArg (fun l => l[g]?) e
  simpa [hx, hy] using this)
theorem fl_step (hx : g < X.length) (hy : g < Y.length) (h : X[g].2.2 = Y[g].2.2) (e : ((X.take g).map fun x => x.2.2) = (Y.take g).map fun x => x.2.2) : ((X.take (g + 1)).map fun x => x.2.2) = (Y.take (g + 1)).map fun x => x.2.2 := by
  rw [List.take_succ_eq_append_getElem hx, List.take_succ_eq_append_getElem hy, List.map_append, List.map_append, e, List.map_singleton, List.map_singleton, h]
theorem fl_end (hx : ¬ g < X.length) (hy : X.length = Y.length) (e : ((X.take g).map fun x => x.2.2) = (Y.take g).map fun x => x.2.2) : (X.map fun x => x.2.2) = Y.map fun x => x.2.2 := by
  rwa [List.take_of_length_le (by omega), List.take_of_length_le (by omega)] at e
end
end Go.Proofs.YtonkkkjgdohooaaGreat
