/- Plain definitions: answers for which no negated atom is a fact. No program in sight. -/
import Derived.Test.YtlcfbfbdnnoifaaGreatDr
import Derived.Test.YtlcfbfbdnnoifaaGreatBl
namespace Go.Proofs.YtlcfbfbdnnoifaaGreat
set_option linter.unusedVariables false
set_option linter.unusedSimpArgs false
def refB (facts n : List (Int × List Int)) (b : List Int × List Int) : Bool := n.any fun a => hasF facts (factO a b)
def grdA (s : List Int) (g : (List Int × List (Int × List Int)) × List (Int × List Int)) (facts : List (Int × List Int)) : List (List Int) :=
  if okGuard s g && okFacts s facts then tupF g.1.1 ((bindsF g.1.2 facts).filter fun b => !refB facts g.2 b) else []
theorem okGuard_h {s : List Int} {g : (List Int × List (Int × List Int)) × List (Int × List Int)} (h : okGuard s g = true) : okQuery s g.1 = true ∧ ∀ a ∈ g.2, a.2.length ≤ 3 := by
  simp only [okGuard, Bool.and_eq_true, Bool.not_eq_true', List.any_eq_false, Bool.not_eq_true] at h
  refine ⟨h.1, fun a ha => ?_⟩
  have h1 : okAtom s a = true := by simpa using h.2.2.1 a ha
  simp only [okAtom, Bool.and_eq_true, decide_eq_true_eq] at h1
  have h2 := okRel_lt h1.1
  simp only [at0] at h1; omega
theorem grdA_tot {s : List Int} {g : (List Int × List (Int × List Int)) × List (Int × List Int)} {facts : List (Int × List Int)} : totS cE_Is (grdA s g facts) ≤ 1000000 := by
  unfold grdA
  split
  · rename_i h
    rw [Bool.and_eq_true] at h
    have h1 := okQuery_h (okGuard_h h.1).1
    have h2 := okFacts_all h.2
    have h3 := binds_lt (facts := facts) h2.1 h1.1 h1.2.2
    have h6 := List.length_filter_le (fun b => !refB facts g.2 b) (bindsF g.1.2 facts)
    have h4 := tup_len (h := g.1.1) (l := (bindsF g.1.2 facts).filter fun b => !refB facts g.2 b)
    have h5 := tuples_tot (n := 331776) (fun t ht => Nat.le_trans (tup_el (h := g.1.1) (l := (bindsF g.1.2 facts).filter fun b => !refB facts g.2 b) t ht) h1.2.1) (by omega)
    omega
  · simp [totS]
def refR (s : List Int) (g : (List Int × List (Int × List Int)) × List (Int × List Int)) (facts : List (Int × List Int)) (t : List Int) : Bool := okGuard s g && (hasT (ansR s g.1 facts) t && !hasT (grdA s g facts) t)
end Go.Proofs.YtlcfbfbdnnoifaaGreat
