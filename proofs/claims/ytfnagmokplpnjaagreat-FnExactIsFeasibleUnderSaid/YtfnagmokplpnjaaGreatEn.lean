/- Plain: a query is feasible with rules. No program in sight. -/
import Derived.Test.YtfnagmokplpnjaaGreatEg
namespace Go.Proofs.YtfnagmokplpnjaaGreat
set_option linter.unusedVariables false
set_option linter.unusedSimpArgs false
section
variable {s : List Int} {l : List Mth} {rules : List Rul} {facts : List Fct} {seeds u v : List Int} {q : List Int × List (Int × List Int)} {atoms : List (Int × List Int)} {b : List Int × List Int} {n : Nat}
theorem frz_fold : frzF atoms b = (atoms.map fun a => factO a b).foldl addF [] := by
  unfold frzF; rw [List.foldl_map]
theorem frzV_in (h : frzOk u n = true) : ∀ x ∈ frzV u n, 0 ≤ x ∧ x ≤ 9 := by
  intro x hx
  unfold frzV at hx
  obtain ⟨i, hi, rfl⟩ := List.mem_map.1 hx
  rw [frzOk, List.all_eq_true] at h
  have := h i hi
  rw [decide_eq_true_eq] at this; omega
theorem at0_in {v : List Int} (h : ∀ x ∈ v, 0 ≤ x ∧ x ≤ 9) (i : Int) : 0 ≤ at0 v i ∧ at0 v i ≤ 9 := by
  unfold at0
  rcases Nat.lt_or_ge i.toNat v.length with h1 | h1
  · rw [getD_get h1]; exact h _ (List.getElem_mem h1)
  · rw [List.getD, List.getElem?_eq_none h1]; simp
theorem valO_in (h : frzOk u (varsF atoms).length = true) {t : Int} (ht : okTerm t = true) (hm : t ∈ atoms.flatMap fun a => a.2) : 0 ≤ valO (varsF atoms, frzV u (varsF atoms).length) t ∧ valO (varsF atoms, frzV u (varsF atoms).length) t ≤ 9 := by
  by_cases h1 : inR t 10 17 = true
  · have h2 : t ∈ varsF atoms := by
      unfold varsF
      exact terms_mem.2 ⟨hm, h1⟩
    unfold valO
    rw [if_pos h1]
    have h3 : min (varsF atoms, frzV u (varsF atoms).length).1.length (varsF atoms, frzV u (varsF atoms).length).2.length = (varsF atoms).length := by simp [frzV_len]
    rw [h3, List.take_length]
    have h4 : ¬ idxP (fun x => decide (x = t)) (varsF atoms) < 0 := by
      unfold idxP
      rw [if_pos (List.any_eq_true.2 ⟨t, h2, by simp⟩)]; omega
    simp only [if_neg h4]
    exact at0_in (frzV_in h) _
  · have h1 : inR t 10 17 = false := by simpa using h1
    rw [← valO_no h1]
    rw [okTerm, h1, Bool.or_false] at ht
    simpa [inR] using ht
theorem okFacts_mk (hs : okSchema s = true) (ha : ascF facts) (ho : ∀ f ∈ facts, okFact s f = true) (hl : facts.length ≤ 24) : okFacts s facts = true := by
  rw [okFacts, okFs, hs, decide_eq_true (show (facts.length : Int) ≤ 24 by omega)]
  rw [show facts.drop 0 = facts from rfl, chain_of_pw ha, List.all_eq_true.2 ho]; rfl
theorem fz_ok (hq : okQuery s q = true) (hb : fzB u q.2 = true) : okFacts s (fzF u q.2) = true := by
  have h1 := okQuery_h hq
  unfold fzF
  rw [hb, cond_true]
  have h2 := frz_len (atoms := q.2) (b := (varsF q.2, frzV u (varsF q.2).length))
  simp only [okQuery, Bool.and_eq_true, Bool.not_eq_true', List.any_eq_false, Bool.not_eq_true] at hq
  refine okFacts_mk hq.1 (by rw [frz_fold]; exact fold_asc .nil) (fun f hf => ?_) (by omega)
  rw [frz_fold] at hf
  rcases (fold_addF f).1 hf with hf | hf
  · cases hf
  · obtain ⟨a, ha, rfl⟩ := List.mem_map.1 hf
    have h3 : okAtom s a = true := by simpa using hq.2.2.1 a ha
    simp only [okAtom, Bool.and_eq_true, Bool.not_eq_true', List.any_eq_false, Bool.not_eq_true] at h3
    have h4 : okVals (a.2.map (valO (varsF q.2, frzV u (varsF q.2).length))) = true := okVals_of fun x hx => by
      obtain ⟨t, ht, rfl⟩ := List.mem_map.1 hx
      exact valO_in hb (by simpa using h3.2.2 t ht) (List.mem_flatMap.2 ⟨a, ha, ht⟩)
    simp only [factO, okFact, h3.1, h4, List.length_map, Bool.true_and, Bool.and_true]
    exact h3.2.1
theorem gInv_all (hr : okRules s rules = true) (hf : okFacts s facts = true) : ∀ n, ∃ D, gInv s (closeIt rules facts n) D
  | 0 => ⟨[], gInv_zero hf⟩
  | n + 1 => by
    obtain ⟨D, g⟩ := gInv_all hr hf n
    by_cases h0 : missF rules (closeIt rules facts n) = []
    · exact ⟨D, by rw [closeIt, h0]; exact g⟩
    · obtain ⟨D', g', _⟩ := gInv_fold1 g (miss_ok hr g.2.2.2) h0
      exact ⟨D', g'⟩
theorem close_fin (hr : okRules s rules = true) (hf : okFacts s facts = true) : finF s (closeF rules facts) := by
  obtain ⟨D, g⟩ := gInv_all hr hf 6001
  have h2 := facts_few g.1 (fun f hf => g.2.2.2 f (g.2.1 f hf))
  exact ⟨by have := g.2.2.1; unfold closeF; omega, g.2.2.2⟩
theorem uFin_invF (hm : okMeths s l = true) (hr : okRules s rules = true) (hf : finF s facts) : uInv s (uFin l rules facts seeds) := uInv_all hm hr hf 6000
theorem uF_few {U : UU} (h : uInv s U) (a : Int × List Int) : Few a U.1 := fewOk (ascF_nodup h.n.asc) h.n.okF
end
def feasU (s : List Int) (l : List Mth) (rules : List Rul) (q : List Int × List (Int × List Int)) : Bool :=
  (okMeths s l && okRules s rules) && (okQuery s q && (fzB (constF q) q.2 && (bindsF q.2 (uFin l rules (closeF rules (fzF (constF q) q.2)) (constF q)).1).any (hitB q.1 (q.1.map (valO (fzV (constF q) q.2, fzX (constF q) q.2))))))
theorem feasU_no1 {s : List Int} {l : List Mth} {rules : List Rul} {q : List Int × List (Int × List Int)} (h : (okMeths s l && okRules s rules) = false) : false = feasU s l rules q := by rw [feasU, h]; rfl
theorem feasU_no2 {s : List Int} {l : List Mth} {rules : List Rul} {q : List Int × List (Int × List Int)} (h : okQuery s q = false) : false = feasU s l rules q := by rw [feasU, h]; simp
theorem feasU_no3 {s : List Int} {l : List Mth} {rules : List Rul} {q : List Int × List (Int × List Int)} (h : fzB (constF q) q.2 = false) : false = feasU s l rules q := by rw [feasU, h]; simp
theorem feasU_yes {s : List Int} {l : List Mth} {rules : List Rul} {q : List Int × List (Int × List Int)} (h1 : (okMeths s l && okRules s rules) = true) (h2 : okQuery s q = true) (h3 : fzB (constF q) q.2 = true) :
    (bindsF q.2 (uFin l rules (closeF rules (fzF (constF q) q.2)) (constF q)).1).any (hitB q.1 (q.1.map (valO (fzV (constF q) q.2, fzX (constF q) q.2)))) = feasU s l rules q := by rw [feasU, h1, h2, h3]; rfl
end Go.Proofs.YtfnagmokplpnjaaGreat
