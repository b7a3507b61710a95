import Derived.Test.YtdopeopehgdccaaBg
import Derived.Test.YtdopeopehgdccaaT98
namespace Go.Proofs.Ytdopeopehgdccaa
open Go.RowKit Go.ChangeShapes Go.WideShapes Go.ChangeAt
set_option linter.unusedVariables false
set_option maxRecDepth 100000 in
theorem FnExactDeriveFact_lifted (os : Os) (started : os.Started) (H : Type) (enc : TypeId × Value → H) :
    ReturnsInHanded {} Try.checked os 3 .any (Rows.fnExactDeriveFactSpec.pre6 enc Try.prog Try.f3 Rows.fnExactDeriveFactRow.domain false) (Rows.fnExactDeriveFactSpec.post enc Try.prog Try.f3 false true false false) := by
  refine returnsInHanded_of_change (C := Try.checked) a3b started (by kernel_rfl) Try.func3
    (ChangeSpec.witness6 (enc := enc) (C := Try.checked) false ⟨#[], #[.slice none 0 0, .slice none 0 0, .slice none 0 0, .agg #[.int .i64 0, .slice none 0 0]], []⟩ 8 (by kernel_rfl) (by kernel_rfl) (by kernel_rfl) (by kernel_rfl)) ?_
  intro W base args ds gs before hval0 hW hcnd _
  have hval : ∀ (j : Nat) t v, Try.f3.params[j]? = some t → args[j]? = some v → Value.okWide Try.prog W .any base t v := hval0
  have hW' := hW
  obtain ⟨p, q, hA0, hV, rfl, hfz, hnd⟩ := hW
  have hA : DataW.TrodAll enc Try.prog W 0 (fun _ => true) true Try.f3.params.toList args.toList ds p := hA0
  rw [Try.params3] at hA hval
  obtain ⟨v0, vs0, d0, ds0, p0, q0, hargs, rfl, rfl, h0, r0⟩ := trodAll_cons hA
  obtain ⟨v1, vs1, d1, ds1, p1, q1, rfl, rfl, rfl, h1, r1⟩ := trodAll_cons r0
  obtain ⟨v2, vs2, d2, ds2, p2, q2, rfl, rfl, rfl, h2, r2⟩ := trodAll_cons r1
  obtain ⟨v3, vs3, d3, ds3, p3, q3, rfl, rfl, rfl, h3, r3⟩ := trodAll_cons r2
  obtain ⟨rfl, rfl, rfl⟩ := trodAll_nil r3
  obtain rfl : args = #[v0, v1, v2, v3] := by cases args; simp_all
  obtain ⟨rfl, rfl⟩ := trodVars_none hV
  obtain ⟨a0, m0, c0, x0, rfl, z0⟩ := Y9 op_Is us_Is (hval 0 22 v0 rfl rfl) h0
  obtain ⟨a1, m1, c1, x1, rfl, z1⟩ := Y9 op_lRules us_lRules (hval 1 23 v1 rfl rfl) h1
  obtain ⟨a2, m2, c2, x2, rfl, z2⟩ := Y9 op_lFacts us_lFacts (hval 2 24 v2 rfl rfl) h2
  obtain ⟨cs3, x3, rfl, z3⟩ := a2B op_lFact Try.underlying26 (hval 3 26 v3 rfl rfl) h3
  obtain ⟨a3_0, c3_0, rfl, z3_0, z3_1⟩ := Ro.pFact z3
  refine (G7.2 W [] ⟨z0, z1, z2, z3_0, z3_1⟩ rfl List.nodup_nil).mono ?_
  rintro e W' ⟨_, _, rfl, L, _, _, hs⟩
  exact ⟨_, rfl, a1P a2v hW' rfl (by kernel_rfl) (by kernel_rfl) a2q rfl rfl rfl hs.below⟩
theorem FnExactDeriveFact_in : Try.prog.inPlace 3 = Rows.fnExactDeriveFactRow.inPlace := by kernel_rfl
theorem FnExactDeriveFact_un : Try.prog.unfollowed 3 = true := by kernel_rfl
theorem FnExactDeriveFact_re : Try.prog.recurses 3 = true := by kernel_rfl
theorem FnExactDeriveFact_va : Try.prog.varsNamed 3 = [] := by kernel_rfl
theorem FnExactDeriveFact_closed : joinedFacts Try.prog 3 Try.f3 Rows.fnExactDeriveFactSpec Rows.fnExactDeriveFactRow = true := by unfold joinedFacts; rw [FnExactDeriveFact_in, FnExactDeriveFact_un, FnExactDeriveFact_re, FnExactDeriveFact_va]; kernel_rfl
theorem FnExactDeriveFact_proved : Rows.FnExactDeriveFactSaid :=
  OpenClaim.holds_of_wide 3 Try.f3 rfl rfl rfl rfl rfl rfl rfl ⟨rfl, rfl, rfl, rfl, rfl⟩ rfl rfl rfl rfl rfl (by kernel_rfl) Try.func3 FnExactDeriveFact_closed
    (of_decide_eq_true (by kernel_rfl)) (by unfold Func.isWrapper; first | (rw [if_pos (by decide +kernel)]; kernel_rfl) | (rw [if_neg (by decide +kernel)]; exact ⟨rfl, rfl⟩))
    (fun os started H enc _ => FnExactDeriveFact_lifted os started H enc)
#print axioms FnExactDeriveFact_proved
end Go.Proofs.Ytdopeopehgdccaa
