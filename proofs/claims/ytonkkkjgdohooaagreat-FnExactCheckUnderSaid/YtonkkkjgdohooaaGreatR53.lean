import Derived.Test.YtonkkkjgdohooaaGreatBg
import Derived.Test.YtonkkkjgdohooaaGreatT68
namespace Go.Proofs.YtonkkkjgdohooaaGreat
open Go.RowKit Go.ChangeShapes Go.WideShapes Go.ChangeAt
set_option linter.unusedVariables false
set_option maxRecDepth 100000 in
theorem FnExactCheckUnder_lifted (os : Os) (started : os.Started) (H : Type) (enc : TypeId × Value → H) :
    ReturnsInHanded {} Tryz.checked os 10 .any (Rows.fnExactCheckUnderSpec.pre6 enc Tryz.prog Tryz.f10 Rows.fnExactCheckUnderRow.domain false) (Rows.fnExactCheckUnderSpec.post enc Tryz.prog Tryz.f10 false true false false) := by
  refine returnsInHanded_of_change (C := Tryz.checked) lawOwn started (by kernel_rfl) Tryz.func10
    (ChangeSpec.witness6 (enc := enc) (C := Tryz.checked) false ⟨#[], #[.slice none 0 0, .slice none 0 0, .slice none 0 0, .agg #[.slice none 0 0, .slice none 0 0], .agg #[.slice none 0 0, .slice none 0 0, .slice none 0 0]], []⟩ 8 (by kernel_rfl) (by kernel_rfl) (by kernel_rfl) (by kernel_rfl)) ?_
  intro W base args ds gs before hval0 hW hcnd _
  have hval : ∀ (j : Nat) t v, Tryz.f10.params[j]? = some t → args[j]? = some v → Value.okWide Tryz.prog W .any base t v := hval0
  have hW' := hW
  obtain ⟨p, q, hA0, hV, rfl, hfz, hnd⟩ := hW
  have hA : DataW.TrodAll enc Tryz.prog W 0 (fun _ => true) true Tryz.f10.params.toList args.toList ds p := hA0
  rw [Tryz.params10] at hA hval
  obtain ⟨v0, vs0, d0, ds0, p0, q0, hargs, rfl, rfl, h0, r0⟩ := trodAll_cons hA
  obtain ⟨v1, vs1, d1, ds1, p1, q1, rfl, rfl, rfl, h1, r1⟩ := trodAll_cons r0
  obtain ⟨v2, vs2, d2, ds2, p2, q2, rfl, rfl, rfl, h2, r2⟩ := trodAll_cons r1
  obtain ⟨v3, vs3, d3, ds3, p3, q3, rfl, rfl, rfl, h3, r3⟩ := trodAll_cons r2
  obtain ⟨v4, vs4, d4, ds4, p4, q4, rfl, rfl, rfl, h4, r4⟩ := trodAll_cons r3
  obtain ⟨rfl, rfl, rfl⟩ := trodAll_nil r4
  obtain rfl : args = #[v0, v1, v2, v3, v4] := by cases args; simp_all
  obtain ⟨rfl, rfl⟩ := trodVars_none hV
  obtain ⟨a0, m0, c0, x0, rfl, z0⟩ := arg_sl op_Is us_Is (hval 0 22 v0 rfl rfl) h0
  obtain ⟨a1, m1, c1, x1, rfl, z1⟩ := arg_sl op_lMethods us_lMethods (hval 1 23 v1 rfl rfl) h1
  obtain ⟨a2, m2, c2, x2, rfl, z2⟩ := arg_sl op_lRules us_lRules (hval 2 91 v2 rfl rfl) h2
  obtain ⟨cs3, x3, rfl, z3⟩ := arg_st op_lQuery Tryz.underlying51 (hval 3 51 v3 rfl rfl) h3
  obtain ⟨a3_0, c3_0, a3_1, c3_1, rfl, z3_0, z3_1⟩ := Ro.pQuery z3
  obtain ⟨cs4, x4, rfl, z4⟩ := arg_st op_lCertificate Tryz.underlying93 (hval 4 93 v4 rfl rfl) h4
  obtain ⟨a4_0, c4_0, a4_1, c4_1, a4_2, c4_2, rfl, z4_0, z4_1, z4_2⟩ := Ro.pCertificate z4
  refine (t_laws_FnExactCheckUnder.2 W [] ⟨z0, z1, z2, z3_0, z3_1, z4_0, z4_1, z4_2⟩ rfl List.nodup_nil).mono ?_
  rintro e W' ⟨_, _, rfl, L, _, _, hs⟩
  exact ⟨_, rfl, law_post lawLaid hW' rfl (by kernel_rfl) (by kernel_rfl) lawBool rfl rfl rfl hs.below⟩
theorem FnExactCheckUnder_in : Tryz.prog.inPlace 10 = Rows.fnExactCheckUnderRow.inPlace := by kernel_rfl
theorem FnExactCheckUnder_un : Tryz.prog.unfollowed 10 = true := by kernel_rfl
theorem FnExactCheckUnder_re : Tryz.prog.recurses 10 = true := by kernel_rfl
theorem FnExactCheckUnder_va : Tryz.prog.varsNamed 10 = [] := by kernel_rfl
theorem FnExactCheckUnder_closed : joinedFacts Tryz.prog 10 Tryz.f10 Rows.fnExactCheckUnderSpec Rows.fnExactCheckUnderRow = true := by unfold joinedFacts; rw [FnExactCheckUnder_in, FnExactCheckUnder_un, FnExactCheckUnder_re, FnExactCheckUnder_va]; kernel_rfl
theorem FnExactCheckUnder_proved : Rows.FnExactCheckUnderSaid :=
  OpenClaim.holds_of_wide 10 Tryz.f10 rfl rfl rfl rfl rfl rfl rfl ⟨rfl, rfl, rfl, rfl, rfl⟩ rfl rfl rfl rfl rfl (by kernel_rfl) Tryz.func10 FnExactCheckUnder_closed
    (of_decide_eq_true (by kernel_rfl)) (by unfold Func.isWrapper; first | (rw [if_pos (by decide +kernel)]; kernel_rfl) | (rw [if_neg (by decide +kernel)]; exact ⟨rfl, rfl⟩))
    (fun os started H enc _ => FnExactCheckUnder_lifted os started H enc)
#print axioms FnExactCheckUnder_proved
end Go.Proofs.YtonkkkjgdohooaaGreat
