import Derived.Test.YtdopeopehgdccaaGreatBg
import Derived.Test.YtdopeopehgdccaaGreatT89
namespace Go.Proofs.YtdopeopehgdccaaGreat
open Go.RowKit Go.ChangeShapes Go.WideShapes Go.ChangeAt
set_option linter.unusedVariables false
set_option maxRecDepth 100000 in
theorem FnExactRunOrder_lifted (os : Os) (started : os.Started) (H : Type) (enc : TypeId × Value → H) :
    ReturnsInHanded {} Tryz.checked os 4 .any (Rows.fnExactRunOrderSpec.pre6 enc Tryz.prog Tryz.f4 Rows.fnExactRunOrderRow.domain false) (Rows.fnExactRunOrderSpec.post enc Tryz.prog Tryz.f4 false true false false) := by
  refine returnsInHanded_of_change (C := Tryz.checked) b1u started (by kernel_rfl) Tryz.func4
    (ChangeSpec.witness6 (enc := enc) (C := Tryz.checked) false ⟨#[], #[.slice none 0 0, .slice none 0 0, .agg #[.slice none 0 0, .slice none 0 0], .slice none 0 0, .slice none 0 0, .int .i64 0], []⟩ 8 (by kernel_rfl) (by kernel_rfl) (by kernel_rfl) (by kernel_rfl)) ?_
  intro W base args ds gs before hval0 hW hcnd _
  have hval : ∀ (j : Nat) t v, Tryz.f4.params[j]? = some t → args[j]? = some v → Value.okWide Tryz.prog W .any base t v := hval0
  have hW' := hW
  obtain ⟨p, q, hA0, hV, rfl, hfz, hnd⟩ := hW
  have hA : DataW.TrodAll enc Tryz.prog W 0 (fun _ => true) true Tryz.f4.params.toList args.toList ds p := hA0
  rw [Tryz.params4] at hA hval
  obtain ⟨v0, vs0, d0, ds0, p0, q0, hargs, rfl, rfl, h0, r0⟩ := trodAll_cons hA
  obtain ⟨v1, vs1, d1, ds1, p1, q1, rfl, rfl, rfl, h1, r1⟩ := trodAll_cons r0
  obtain ⟨v2, vs2, d2, ds2, p2, q2, rfl, rfl, rfl, h2, r2⟩ := trodAll_cons r1
  obtain ⟨v3, vs3, d3, ds3, p3, q3, rfl, rfl, rfl, h3, r3⟩ := trodAll_cons r2
  obtain ⟨v4, vs4, d4, ds4, p4, q4, rfl, rfl, rfl, h4, r4⟩ := trodAll_cons r3
  obtain ⟨v5, vs5, d5, ds5, p5, q5, rfl, rfl, rfl, h5, r5⟩ := trodAll_cons r4
  obtain ⟨rfl, rfl, rfl⟩ := trodAll_nil r5
  obtain rfl : args = #[v0, v1, v2, v3, v4, v5] := by cases args; simp_all
  obtain ⟨rfl, rfl⟩ := trodVars_none hV
  obtain ⟨a0, m0, c0, x0, rfl, z0⟩ := a4N op_Is us_Is (hval 0 22 v0 rfl rfl) h0
  obtain ⟨a1, m1, c1, x1, rfl, z1⟩ := a4N op_lMethods us_lMethods (hval 1 23 v1 rfl rfl) h1
  obtain ⟨cs2, x2, rfl, z2⟩ := b1B op_lQuery Tryz.underlying51 (hval 2 51 v2 rfl rfl) h2
  obtain ⟨a2_0, c2_0, a2_1, c2_1, rfl, z2_0, z2_1⟩ := Ro.pQuery z2
  obtain ⟨a3, m3, c3, x3, rfl, z3⟩ := a4N op_lSteps us_lSteps (hval 3 52 v3 rfl rfl) h3
  obtain ⟨a4, m4, c4, x4, rfl, z4⟩ := a4N op_lFacts us_lFacts (hval 4 25 v4 rfl rfl) h4
  obtain ⟨x5, rfl, i5⟩ := b0Z a9u (hval 5 tI v5 rfl rfl) h5
  refine (a1G.2 W [] ⟨z0, z1, z2_0, z2_1, z3, z4⟩ rfl List.nodup_nil).mono ?_
  rintro e W' ⟨_, _, rfl, L, _, _, hs⟩
  exact ⟨_, rfl, b0c b0R hW' rfl (by kernel_rfl) (by kernel_rfl) b0W rfl rfl rfl hs.below⟩
theorem FnExactRunOrder_in : Tryz.prog.inPlace 4 = Rows.fnExactRunOrderRow.inPlace := by kernel_rfl
theorem FnExactRunOrder_un : Tryz.prog.unfollowed 4 = true := by kernel_rfl
theorem FnExactRunOrder_re : Tryz.prog.recurses 4 = true := by kernel_rfl
theorem FnExactRunOrder_va : Tryz.prog.varsNamed 4 = [] := by kernel_rfl
theorem FnExactRunOrder_closed : joinedFacts Tryz.prog 4 Tryz.f4 Rows.fnExactRunOrderSpec Rows.fnExactRunOrderRow = true := by unfold joinedFacts; rw [FnExactRunOrder_in, FnExactRunOrder_un, FnExactRunOrder_re, FnExactRunOrder_va]; kernel_rfl
theorem FnExactRunOrder_proved : Rows.FnExactRunOrderSaid :=
  OpenClaim.holds_of_wide 4 Tryz.f4 rfl rfl rfl rfl rfl rfl rfl ⟨rfl, rfl, rfl, rfl, rfl⟩ rfl rfl rfl rfl rfl (by kernel_rfl) Tryz.func4 FnExactRunOrder_closed
    (of_decide_eq_true (by kernel_rfl)) (by unfold Func.isWrapper; first | (rw [if_pos (by decide +kernel)]; kernel_rfl) | (rw [if_neg (by decide +kernel)]; exact ⟨rfl, rfl⟩))
    (fun os started H enc _ => FnExactRunOrder_lifted os started H enc)
#print axioms FnExactRunOrder_proved
end Go.Proofs.YtdopeopehgdccaaGreat
