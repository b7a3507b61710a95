/- Sizes behind a step. No program in sight. -/
import Derived.Test.YtfnagmokplpnjaaGreatDz
namespace Go.Proofs.YtfnagmokplpnjaaGreat
set_option linter.unusedVariables false
set_option linter.unusedSimpArgs false
section
variable {s : List Int} {l : List Mth} {facts : List Fct} {r : Rch}
theorem stepB_all (h : stepB s l facts r = true) : okMeths s l = true ∧ okFacts s facts = true ∧ okFacts s r.1 = true ∧ okReach r.2.1 = true ∧ 0 ≤ r.2.2.2 ∧ r.2.2.2 ≤ 100 := by
  simp only [stepB, Bool.and_eq_true] at h
  exact ⟨h.1, h.2.1, h.2.2.1, h.2.2.2.1, inR_le h.2.2.2.2⟩
theorem stepO_len (h : stepB s l facts r = true) : (rOpn l r).length ≤ 5000 ∧ ∀ a ∈ rOpn l r, a.2.length ≤ 3 := by
  obtain ⟨h1, h2, h3, h4, _⟩ := stepB_all h
  obtain ⟨m1, m2⟩ := okMeths_len h1
  have o1 := opn_len (values := r.2.1) (log := r.2.2.1) (i := 0) (okReach_len h4) m1
  exact ⟨by unfold rOpn; omega, opn_mem m1⟩
theorem stepR_F : totS cE_Fact (stepR s l facts r).1 ≤ totS cE_Fact r.1 + 480096 := by
  unfold stepR
  split
  · rename_i h
    obtain ⟨h1, h2, h3, h4, _⟩ := stepB_all h
    have e1 := tolF_len (l := l) (facts := facts) (o := rOpn l r) (F := r.1)
    have e2 := (okFacts_all h2).1
    have e3 := (okFacts_all h3).1
    have e4 := Nat.mul_le_mul (stepO_len h).1 e2
    have e5 := facts_tot (n := 120024) (s := s) (l := (rstep l facts r).1) (fun f hf => (tolF_mem hf).elim ((okFacts_all h3).2 f) ((okFacts_all h2).2 f)) (by show ((rOpn l r).foldl (tolF l facts) r.1).length ≤ _; omega)
    omega
  · exact Nat.le_add_right _ _
theorem stepR_V : totS cE_I (stepR s l facts r).2.1 ≤ totS cE_I r.2.1 + 10 := by
  unfold stepR
  split
  · rename_i h
    obtain ⟨h1, h2, h3, h4, _⟩ := stepB_all h
    have e1 := okReach_len (tolW_tolV (l := l) (facts_vals h2) (o := rOpn l r) h4).2
    rw [totS_I]
    exact Nat.le_trans e1 (Nat.le_add_left _ _)
  · exact Nat.le_add_right _ _
theorem stepR_L : totS cE_Access (stepR s l facts r).2.2.1 ≤ totS cE_Access r.2.2.1 + 20000 := by
  unfold stepR
  split
  · rename_i h
    obtain ⟨o1, o2⟩ := stepO_len h
    have e1 := totS_max (c := cE_Access) (n := 4) (l := rOpn l r) fun a ha => by
      have := o2 a ha
      simp only [cE_Access, totS_I]; omega
    have e2 : totS cE_Access (rstep l facts r).2.2.1 = totS cE_Access r.2.2.1 + totS cE_Access (rOpn l r) := by simp [rstep, totS]
    omega
  · exact Nat.le_add_right _ _
theorem stepR_N (hN : I64 r.2.2.2) : I64 (stepR s l facts r).2.2.2 := by
  unfold stepR
  split
  · rename_i h
    obtain ⟨_, _, _, _, h5, h6⟩ := stepB_all h
    simp only [rstep, bitN, I64]
    split <;> omega
  · exact hN
end
end Go.Proofs.YtfnagmokplpnjaaGreat
