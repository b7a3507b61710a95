import Derived.Test.YtdopeopehgdccaaGreatBg
import Derived.Test.YtdopeopehgdccaaGreatT83
namespace Go.Proofs.YtdopeopehgdccaaGreat
open Go.RowKit Go.ChangeShapes Go.WideShapes Go.ChangeAt
set_option linter.unusedVariables false
set_option maxRecDepth 100000 in
theorem FnExactHelpfulMethods_lifted (os : Os) (started : os.Started) (H : Type) (enc : TypeId × Value → H) :
    ReturnsInHanded {} Tryz.checked os 5 .any (Rows.fnExactHelpfulMethodsSpec.pre6 enc Tryz.prog Tryz.f5 Rows.fnExactHelpfulMethodsRow.domain false) (Rows.fnExactHelpfulMethodsSpec.post enc Tryz.prog Tryz.f5 false true false false) := by
  refine returnsInHanded_of_change (C := Tryz.checked) b3S started (by kernel_rfl) Tryz.func5
    (ChangeSpec.witness6 (enc := enc) (C := Tryz.checked) false ⟨#[], #[.slice none 0 0, .slice none 0 0, .slice none 0 0, .agg #[.slice none 0 0, .slice none 0 0]], []⟩ 8 (by kernel_rfl) (by kernel_rfl) (by kernel_rfl) (by kernel_rfl)) ?_
  intro W base args ds gs before hval0 hW hcnd _
  have hval : ∀ (j : Nat) t v, Tryz.f5.params[j]? = some t → args[j]? = some v → Value.okWide Tryz.prog W .any base t v := hval0
  have hW' := hW
  obtain ⟨p, q, hA0, hV, rfl, hfz, hnd⟩ := hW
  have hA : DataW.TrodAll enc Tryz.prog W 0 (fun _ => true) true Tryz.f5.params.toList args.toList ds p := hA0
  rw [Tryz.params5] at hA hval
  obtain ⟨v0, vs0, d0, ds0, p0, q0, hargs, rfl, rfl, h0, r0⟩ := trodAll_cons hA
  obtain ⟨v1, vs1, d1, ds1, p1, q1, rfl, rfl, rfl, h1, r1⟩ := trodAll_cons r0
  obtain ⟨v2, vs2, d2, ds2, p2, q2, rfl, rfl, rfl, h2, r2⟩ := trodAll_cons r1
  obtain ⟨v3, vs3, d3, ds3, p3, q3, rfl, rfl, rfl, h3, r3⟩ := trodAll_cons r2
  obtain ⟨rfl, rfl, rfl⟩ := trodAll_nil r3
  obtain rfl : args = #[v0, v1, v2, v3] := by cases args; simp_all
  obtain ⟨rfl, rfl⟩ := trodVars_none hV
  obtain ⟨a0, m0, c0, x0, rfl, z0⟩ := b0e op_Is us_Is (hval 0 22 v0 rfl rfl) h0
  obtain ⟨a1, m1, c1, x1, rfl, z1⟩ := b0e op_lMethods us_lMethods (hval 1 23 v1 rfl rfl) h1
  obtain ⟨a2, m2, c2, x2, rfl, z2⟩ := b0e op_lRules us_lRules (hval 2 72 v2 rfl rfl) h2
  obtain ⟨cs3, x3, rfl, z3⟩ := b3T op_lQuery Tryz.underlying51 (hval 3 51 v3 rfl rfl) h3
  obtain ⟨a3_0, c3_0, a3_1, c3_1, rfl, z3_0, z3_1⟩ := Ro.pQuery z3
  refine (a2q.2 W [] ⟨z0, z1, z2, z3_0, z3_1⟩ rfl List.nodup_nil).mono ?_
  rintro e W' ⟨_, _, rfl, L, _, _, hs⟩
  exact ⟨_, rfl, b2C b3v hW' rfl (by kernel_rfl) (by kernel_rfl) b3l rfl rfl rfl hs.below⟩
theorem FnExactHelpfulMethods_in : Tryz.prog.inPlace 5 = Rows.fnExactHelpfulMethodsRow.inPlace := by kernel_rfl
theorem FnExactHelpfulMethods_un : Tryz.prog.unfollowed 5 = true := by kernel_rfl
theorem FnExactHelpfulMethods_re : Tryz.prog.recurses 5 = true := by kernel_rfl
theorem FnExactHelpfulMethods_va : Tryz.prog.varsNamed 5 = [] := by kernel_rfl
theorem FnExactHelpfulMethods_closed : joinedFacts Tryz.prog 5 Tryz.f5 Rows.fnExactHelpfulMethodsSpec Rows.fnExactHelpfulMethodsRow = true := by unfold joinedFacts; rw [FnExactHelpfulMethods_in, FnExactHelpfulMethods_un, FnExactHelpfulMethods_re, FnExactHelpfulMethods_va]; kernel_rfl
theorem FnExactHelpfulMethods_proved : Rows.FnExactHelpfulMethodsSaid :=
  OpenClaim.holds_of_wide 5 Tryz.f5 rfl rfl rfl rfl rfl rfl rfl ⟨rfl, rfl, rfl, rfl, rfl⟩ rfl rfl rfl rfl rfl (by kernel_rfl) Tryz.func5 FnExactHelpfulMethods_closed
    (of_decide_eq_true (by kernel_rfl)) (by unfold Func.isWrapper; first | (rw [if_pos (by decide +kernel)]; kernel_rfl) | (rw [if_neg (by decide +kernel)]; exact ⟨rfl, rfl⟩))
    (fun os started H enc _ => FnExactHelpfulMethods_lifted os started H enc)
#print axioms FnExactHelpfulMethods_proved
end Go.Proofs.YtdopeopehgdccaaGreat
