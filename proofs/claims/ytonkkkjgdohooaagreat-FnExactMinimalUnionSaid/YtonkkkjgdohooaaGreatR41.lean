/- What is proved: for whatever arguments, the law returns true, and what the arguments read as is the same behind the call. No condition. -/
import Derived.Test.YtonkkkjgdohooaaGreatBg
import Derived.Test.YtonkkkjgdohooaaGreatT79
namespace Go.Proofs.YtonkkkjgdohooaaGreat
open Go.RowKit Go.ChangeShapes Go.WideShapes Go.ChangeAt
set_option linter.unusedVariables false
set_option maxRecDepth 100000 in
theorem FnExactMinimalUnion_lifted (os : Os) (started : os.Started) (H : Type) (enc : TypeId × Value → H) :
    ReturnsInHanded {} Tryz.checked os 6 .any (Rows.fnExactMinimalUnionSpec.pre6 enc Tryz.prog Tryz.f6 Rows.fnExactMinimalUnionRow.domain false) (Rows.fnExactMinimalUnionSpec.post enc Tryz.prog Tryz.f6 false true false false) := by
  refine returnsInHanded_of_change (C := Tryz.checked) lawOwn started (by kernel_rfl) Tryz.func6
    (ChangeSpec.witness6 (enc := enc) (C := Tryz.checked) false ⟨#[], #[.slice none 0 0, .slice none 0 0], []⟩ 8 (by kernel_rfl) (by kernel_rfl) (by kernel_rfl) (by kernel_rfl)) ?_
  intro W base args ds gs before hval0 hW hcnd _
  have hval : ∀ (j : Nat) t v, Tryz.f6.params[j]? = some t → args[j]? = some v → Value.okWide Tryz.prog W .any base t v := hval0
  have hW' := hW
  obtain ⟨p, q, hA0, hV, rfl, hfz, hnd⟩ := hW
  have hA : DataW.TrodAll enc Tryz.prog W 0 (fun _ => true) true Tryz.f6.params.toList args.toList ds p := hA0
  rw [Tryz.params6] at hA hval
  obtain ⟨v0, vs0, d0, ds0, p0, q0, hargs, rfl, rfl, h0, r0⟩ := trodAll_cons hA
  obtain ⟨v1, vs1, d1, ds1, p1, q1, rfl, rfl, rfl, h1, r1⟩ := trodAll_cons r0
  obtain ⟨rfl, rfl, rfl⟩ := trodAll_nil r1
  obtain rfl : args = #[v0, v1] := by cases args; simp_all
  obtain ⟨rfl, rfl⟩ := trodVars_none hV
  obtain ⟨a0, m0, c0, x0, rfl, z0⟩ := arg_sl op_Is us_Is (hval 0 22 v0 rfl rfl) h0
  obtain ⟨a1, m1, c1, x1, rfl, z1⟩ := arg_sl op_lQuerys us_lQuerys (hval 1 24 v1 rfl rfl) h1
  refine (t_laws_FnExactMinimalUnion.2 W [] ⟨z0, z1⟩ rfl List.nodup_nil).mono ?_
  rintro e W' ⟨_, _, rfl, L, _, _, hs⟩
  exact ⟨_, rfl, law_post lawLaid hW' rfl (by kernel_rfl) (by kernel_rfl) lawBool rfl rfl rfl hs.below⟩
theorem FnExactMinimalUnion_in : Tryz.prog.inPlace 6 = Rows.fnExactMinimalUnionRow.inPlace := by kernel_rfl
theorem FnExactMinimalUnion_un : Tryz.prog.unfollowed 6 = true := by kernel_rfl
theorem FnExactMinimalUnion_re : Tryz.prog.recurses 6 = true := by kernel_rfl
theorem FnExactMinimalUnion_va : Tryz.prog.varsNamed 6 = [] := by kernel_rfl
theorem FnExactMinimalUnion_closed : joinedFacts Tryz.prog 6 Tryz.f6 Rows.fnExactMinimalUnionSpec Rows.fnExactMinimalUnionRow = true := by unfold joinedFacts; rw [FnExactMinimalUnion_in, FnExactMinimalUnion_un, FnExactMinimalUnion_re, FnExactMinimalUnion_va]; kernel_rfl
theorem FnExactMinimalUnion_proved : Rows.FnExactMinimalUnionSaid :=
  OpenClaim.holds_of_wide 6 Tryz.f6 rfl rfl rfl rfl rfl rfl rfl ⟨rfl, rfl, rfl, rfl, rfl⟩ rfl rfl rfl rfl rfl (by kernel_rfl) Tryz.func6 FnExactMinimalUnion_closed
    (of_decide_eq_true (by kernel_rfl)) (by unfold Func.isWrapper; first | (rw [if_pos (by decide +kernel)]; kernel_rfl) | (rw [if_neg (by decide +kernel)]; exact ⟨rfl, rfl⟩))
    (fun os started H enc _ => FnExactMinimalUnion_lifted os started H enc)
#print axioms FnExactMinimalUnion_proved
end Go.Proofs.YtonkkkjgdohooaaGreat
