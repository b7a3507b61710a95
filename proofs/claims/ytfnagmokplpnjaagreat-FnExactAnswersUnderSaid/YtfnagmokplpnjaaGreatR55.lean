/- What is proved: for whatever arguments, the law returns true, and what the arguments read as is the same behind the call. No condition. -/
import Derived.Test.YtfnagmokplpnjaaGreatBg
import Derived.Test.YtfnagmokplpnjaaGreatT53
namespace Go.Proofs.YtfnagmokplpnjaaGreat
open Go.RowKit Go.ChangeShapes Go.WideShapes Go.ChangeAt
set_option linter.unusedVariables false
set_option maxRecDepth 100000 in
theorem FnExactAnswersUnder_lifted (os : Os) (started : os.Started) (H : Type) (enc : TypeId × Value → H) :
    ReturnsInHanded {} Tryz.checked os 9 .any (Rows.fnExactAnswersUnderSpec.pre6 enc Tryz.prog Tryz.f9 Rows.fnExactAnswersUnderRow.domain false) (Rows.fnExactAnswersUnderSpec.post enc Tryz.prog Tryz.f9 false true false false) := by
  refine returnsInHanded_of_change (C := Tryz.checked) lawOwn started (by kernel_rfl) Tryz.func9
    (ChangeSpec.witness6 (enc := enc) (C := Tryz.checked) false ⟨#[], #[.slice none 0 0, .slice none 0 0, .slice none 0 0, .agg #[.slice none 0 0, .slice none 0 0], .slice none 0 0], []⟩ 8 (by kernel_rfl) (by kernel_rfl) (by kernel_rfl) (by kernel_rfl)) ?_
  intro W base args ds gs before hval0 hW hcnd _
  have hval : ∀ (j : Nat) t v, Tryz.f9.params[j]? = some t → args[j]? = some v → Value.okWide Tryz.prog W .any base t v := hval0
  have hW' := hW
  obtain ⟨p, q, hA0, hV, rfl, hfz, hnd⟩ := hW
  have hA : DataW.TrodAll enc Tryz.prog W 0 (fun _ => true) true Tryz.f9.params.toList args.toList ds p := hA0
  rw [Tryz.params9] at hA hval
  obtain ⟨v0, vs0, d0, ds0, p0, q0, hargs, rfl, rfl, h0, r0⟩ := trodAll_cons hA
  obtain ⟨v1, vs1, d1, ds1, p1, q1, rfl, rfl, rfl, h1, r1⟩ := trodAll_cons r0
  obtain ⟨v2, vs2, d2, ds2, p2, q2, rfl, rfl, rfl, h2, r2⟩ := trodAll_cons r1
  obtain ⟨v3, vs3, d3, ds3, p3, q3, rfl, rfl, rfl, h3, r3⟩ := trodAll_cons r2
  obtain ⟨v4, vs4, d4, ds4, p4, q4, rfl, rfl, rfl, h4, r4⟩ := trodAll_cons r3
  obtain ⟨rfl, rfl, rfl⟩ := trodAll_nil r4
  obtain rfl : args = #[v0, v1, v2, v3, v4] := by cases args; simp_all
  obtain ⟨rfl, rfl⟩ := trodVars_none hV
  obtain ⟨a0, m0, c0, x0, rfl, z0⟩ := arg_sl op_Is us_Is (hval 0 22 v0 rfl rfl) h0
  obtain ⟨a1, m1, c1, x1, rfl, z1⟩ := arg_sl op_lMethods us_lMethods (hval 1 23 v1 rfl rfl) h1
  obtain ⟨a2, m2, c2, x2, rfl, z2⟩ := arg_sl op_lRules us_lRules (hval 2 24 v2 rfl rfl) h2
  obtain ⟨cs3, x3, rfl, z3⟩ := arg_st op_lQuery Tryz.underlying85 (hval 3 85 v3 rfl rfl) h3
  obtain ⟨a3_0, c3_0, a3_1, c3_1, rfl, z3_0, z3_1⟩ := Ro.pQuery z3
  obtain ⟨a4, m4, c4, x4, rfl, z4⟩ := arg_sl op_lFacts us_lFacts (hval 4 25 v4 rfl rfl) h4
  refine (t_laws_FnExactAnswersUnder.2 W [] ⟨z0, z1, z2, z3_0, z3_1, z4⟩ rfl List.nodup_nil).mono ?_
  rintro e W' ⟨_, _, rfl, L, _, _, hs⟩
  exact ⟨_, rfl, law_post lawLaid hW' rfl (by kernel_rfl) (by kernel_rfl) lawBool rfl rfl rfl hs.below⟩
theorem FnExactAnswersUnder_in : Tryz.prog.inPlace 9 = Rows.fnExactAnswersUnderRow.inPlace := by kernel_rfl
theorem FnExactAnswersUnder_un : Tryz.prog.unfollowed 9 = true := by kernel_rfl
theorem FnExactAnswersUnder_re : Tryz.prog.recurses 9 = true := by kernel_rfl
theorem FnExactAnswersUnder_va : Tryz.prog.varsNamed 9 = [] := by kernel_rfl
theorem FnExactAnswersUnder_closed : joinedFacts Tryz.prog 9 Tryz.f9 Rows.fnExactAnswersUnderSpec Rows.fnExactAnswersUnderRow = true := by unfold joinedFacts; rw [FnExactAnswersUnder_in, FnExactAnswersUnder_un, FnExactAnswersUnder_re, FnExactAnswersUnder_va]; kernel_rfl
theorem FnExactAnswersUnder_proved : Rows.FnExactAnswersUnderSaid :=
  OpenClaim.holds_of_wide 9 Tryz.f9 rfl rfl rfl rfl rfl rfl rfl ⟨rfl, rfl, rfl, rfl, rfl⟩ rfl rfl rfl rfl rfl (by kernel_rfl) Tryz.func9 FnExactAnswersUnder_closed
    (of_decide_eq_true (by kernel_rfl)) (by unfold Func.isWrapper; first | (rw [if_pos (by decide +kernel)]; kernel_rfl) | (rw [if_neg (by decide +kernel)]; exact ⟨rfl, rfl⟩))
    (fun os started H enc _ => FnExactAnswersUnder_lifted os started H enc)
#print axioms FnExactAnswersUnder_proved
end Go.Proofs.YtfnagmokplpnjaaGreat
