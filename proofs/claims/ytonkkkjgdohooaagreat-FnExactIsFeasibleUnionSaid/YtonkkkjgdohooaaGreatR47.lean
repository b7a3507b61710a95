import Derived.Test.YtonkkkjgdohooaaGreatBg
import Derived.Test.YtonkkkjgdohooaaGreatT81
namespace Go.Proofs.YtonkkkjgdohooaaGreat
open Go.RowKit Go.ChangeShapes Go.WideShapes Go.ChangeAt
set_option linter.unusedVariables false
set_option maxRecDepth 100000 in
theorem FnExactIsFeasibleUnion_lifted (os : Os) (started : os.Started) (H : Type) (enc : TypeId × Value → H) :
    ReturnsInHanded {} Tryz.checked os 8 .any (Rows.fnExactIsFeasibleUnionSpec.pre6 enc Tryz.prog Tryz.f8 Rows.fnExactIsFeasibleUnionRow.domain false) (Rows.fnExactIsFeasibleUnionSpec.post enc Tryz.prog Tryz.f8 false true false false) := by
  refine returnsInHanded_of_change (C := Tryz.checked) lawOwn started (by kernel_rfl) Tryz.func8
    (ChangeSpec.witness6 (enc := enc) (C := Tryz.checked) false ⟨#[], #[.slice none 0 0, .slice none 0 0, .slice none 0 0], []⟩ 8 (by kernel_rfl) (by kernel_rfl) (by kernel_rfl) (by kernel_rfl)) ?_
  intro W base args ds gs before hval0 hW hcnd _
  have hval : ∀ (j : Nat) t v, Tryz.f8.params[j]? = some t → args[j]? = some v → Value.okWide Tryz.prog W .any base t v := hval0
  have hW' := hW
  obtain ⟨p, q, hA0, hV, rfl, hfz, hnd⟩ := hW
  have hA : DataW.TrodAll enc Tryz.prog W 0 (fun _ => true) true Tryz.f8.params.toList args.toList ds p := hA0
  rw [Tryz.params8] at hA hval
  obtain ⟨v0, vs0, d0, ds0, p0, q0, hargs, rfl, rfl, h0, r0⟩ := trodAll_cons hA
  obtain ⟨v1, vs1, d1, ds1, p1, q1, rfl, rfl, rfl, h1, r1⟩ := trodAll_cons r0
  obtain ⟨v2, vs2, d2, ds2, p2, q2, rfl, rfl, rfl, h2, r2⟩ := trodAll_cons r1
  obtain ⟨rfl, rfl, rfl⟩ := trodAll_nil r2
  obtain rfl : args = #[v0, v1, v2] := by cases args; simp_all
  obtain ⟨rfl, rfl⟩ := trodVars_none hV
  obtain ⟨a0, m0, c0, x0, rfl, z0⟩ := arg_sl op_Is us_Is (hval 0 22 v0 rfl rfl) h0
  obtain ⟨a1, m1, c1, x1, rfl, z1⟩ := arg_sl op_lMethods us_lMethods (hval 1 23 v1 rfl rfl) h1
  obtain ⟨a2, m2, c2, x2, rfl, z2⟩ := arg_sl op_lQuerys us_lQuerys (hval 2 24 v2 rfl rfl) h2
  refine (t_laws_FnExactIsFeasibleUnion.2 W [] ⟨z0, z1, z2⟩ rfl List.nodup_nil).mono ?_
  rintro e W' ⟨_, _, rfl, L, _, _, hs⟩
  exact ⟨_, rfl, law_post lawLaid hW' rfl (by kernel_rfl) (by kernel_rfl) lawBool rfl rfl rfl hs.below⟩
theorem FnExactIsFeasibleUnion_in : Tryz.prog.inPlace 8 = Rows.fnExactIsFeasibleUnionRow.inPlace := by kernel_rfl
theorem FnExactIsFeasibleUnion_un : Tryz.prog.unfollowed 8 = true := by kernel_rfl
theorem FnExactIsFeasibleUnion_re : Tryz.prog.recurses 8 = true := by kernel_rfl
theorem FnExactIsFeasibleUnion_va : Tryz.prog.varsNamed 8 = [] := by kernel_rfl
theorem FnExactIsFeasibleUnion_closed : joinedFacts Tryz.prog 8 Tryz.f8 Rows.fnExactIsFeasibleUnionSpec Rows.fnExactIsFeasibleUnionRow = true := by unfold joinedFacts; rw [FnExactIsFeasibleUnion_in, FnExactIsFeasibleUnion_un, FnExactIsFeasibleUnion_re, FnExactIsFeasibleUnion_va]; kernel_rfl
theorem FnExactIsFeasibleUnion_proved : Rows.FnExactIsFeasibleUnionSaid :=
  OpenClaim.holds_of_wide 8 Tryz.f8 rfl rfl rfl rfl rfl rfl rfl ⟨rfl, rfl, rfl, rfl, rfl⟩ rfl rfl rfl rfl rfl (by kernel_rfl) Tryz.func8 FnExactIsFeasibleUnion_closed
    (of_decide_eq_true (by kernel_rfl)) (by unfold Func.isWrapper; first | (rw [if_pos (by decide +kernel)]; kernel_rfl) | (rw [if_neg (by decide +kernel)]; exact ⟨rfl, rfl⟩))
    (fun os started H enc _ => FnExactIsFeasibleUnion_lifted os started H enc)
#print axioms FnExactIsFeasibleUnion_proved
end Go.Proofs.YtonkkkjgdohooaaGreat
