/- What is proved: for whatever arguments, the law returns true, and what the arguments read as is the same behind the call. No condition. -/
import Derived.Test.YtonkkkjgdohooaaGreatBg
import Derived.Test.YtonkkkjgdohooaaGreatT76
namespace Go.Proofs.YtonkkkjgdohooaaGreat
open Go.RowKit Go.ChangeShapes Go.WideShapes Go.ChangeAt
set_option linter.unusedVariables false
set_option maxRecDepth 100000 in
theorem FnExactIsFeasible_lifted (os : Os) (started : os.Started) (H : Type) (enc : TypeId × Value → H) :
    ReturnsInHanded {} Tryz.checked os 7 .any (Rows.fnExactIsFeasibleSpec.pre6 enc Tryz.prog Tryz.f7 Rows.fnExactIsFeasibleRow.domain false) (Rows.fnExactIsFeasibleSpec.post enc Tryz.prog Tryz.f7 false true false false) := by
  refine returnsInHanded_of_change (C := Tryz.checked) lawOwn started (by kernel_rfl) Tryz.func7
    (ChangeSpec.witness6 (enc := enc) (C := Tryz.checked) false ⟨#[], #[.slice none 0 0, .slice none 0 0, .agg #[.slice none 0 0, .slice none 0 0]], []⟩ 8 (by kernel_rfl) (by kernel_rfl) (by kernel_rfl) (by kernel_rfl)) ?_
  intro W base args ds gs before hval0 hW hcnd _
  have hval : ∀ (j : Nat) t v, Tryz.f7.params[j]? = some t → args[j]? = some v → Value.okWide Tryz.prog W .any base t v := hval0
  have hW' := hW
  obtain ⟨p, q, hA0, hV, rfl, hfz, hnd⟩ := hW
  have hA : DataW.TrodAll enc Tryz.prog W 0 (fun _ => true) true Tryz.f7.params.toList args.toList ds p := hA0
  rw [Tryz.params7] at hA hval
  obtain ⟨v0, vs0, d0, ds0, p0, q0, hargs, rfl, rfl, h0, r0⟩ := trodAll_cons hA
  obtain ⟨v1, vs1, d1, ds1, p1, q1, rfl, rfl, rfl, h1, r1⟩ := trodAll_cons r0
  obtain ⟨v2, vs2, d2, ds2, p2, q2, rfl, rfl, rfl, h2, r2⟩ := trodAll_cons r1
  obtain ⟨rfl, rfl, rfl⟩ := trodAll_nil r2
  obtain rfl : args = #[v0, v1, v2] := by cases args; simp_all
  obtain ⟨rfl, rfl⟩ := trodVars_none hV
  obtain ⟨a0, m0, c0, x0, rfl, z0⟩ := arg_sl op_Is us_Is (hval 0 22 v0 rfl rfl) h0
  obtain ⟨a1, m1, c1, x1, rfl, z1⟩ := arg_sl op_lMethods us_lMethods (hval 1 23 v1 rfl rfl) h1
  obtain ⟨cs2, x2, rfl, z2⟩ := arg_st op_lQuery Tryz.underlying51 (hval 2 51 v2 rfl rfl) h2
  obtain ⟨a2_0, c2_0, a2_1, c2_1, rfl, z2_0, z2_1⟩ := Ro.pQuery z2
  refine (t_laws_FnExactIsFeasible.2 W [] ⟨z0, z1, z2_0, z2_1⟩ rfl List.nodup_nil).mono ?_
  rintro e W' ⟨_, _, rfl, L, _, _, hs⟩
  exact ⟨_, rfl, law_post lawLaid hW' rfl (by kernel_rfl) (by kernel_rfl) lawBool rfl rfl rfl hs.below⟩
theorem FnExactIsFeasible_in : Tryz.prog.inPlace 7 = Rows.fnExactIsFeasibleRow.inPlace := by kernel_rfl
theorem FnExactIsFeasible_un : Tryz.prog.unfollowed 7 = true := by kernel_rfl
theorem FnExactIsFeasible_re : Tryz.prog.recurses 7 = true := by kernel_rfl
theorem FnExactIsFeasible_va : Tryz.prog.varsNamed 7 = [] := by kernel_rfl
theorem FnExactIsFeasible_closed : joinedFacts Tryz.prog 7 Tryz.f7 Rows.fnExactIsFeasibleSpec Rows.fnExactIsFeasibleRow = true := by unfold joinedFacts; rw [FnExactIsFeasible_in, FnExactIsFeasible_un, FnExactIsFeasible_re, FnExactIsFeasible_va]; kernel_rfl
theorem FnExactIsFeasible_proved : Rows.FnExactIsFeasibleSaid :=
  OpenClaim.holds_of_wide 7 Tryz.f7 rfl rfl rfl rfl rfl rfl rfl ⟨rfl, rfl, rfl, rfl, rfl⟩ rfl rfl rfl rfl rfl (by kernel_rfl) Tryz.func7 FnExactIsFeasible_closed
    (of_decide_eq_true (by kernel_rfl)) (by unfold Func.isWrapper; first | (rw [if_pos (by decide +kernel)]; kernel_rfl) | (rw [if_neg (by decide +kernel)]; exact ⟨rfl, rfl⟩))
    (fun os started H enc _ => FnExactIsFeasible_lifted os started H enc)
#print axioms FnExactIsFeasible_proved
end Go.Proofs.YtonkkkjgdohooaaGreat
