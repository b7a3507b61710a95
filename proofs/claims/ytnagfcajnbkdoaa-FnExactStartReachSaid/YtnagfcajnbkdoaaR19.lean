/- What is proved: for whatever arguments, the law returns true, and what the arguments read as is the same behind the call. No condition. -/
import Derived.Test.YtnagfcajnbkdoaaBg
import Derived.Test.YtnagfcajnbkdoaaT30
namespace Go.Proofs.Ytnagfcajnbkdoaa
open Go.RowKit Go.ChangeShapes Go.WideShapes Go.ChangeAt
set_option linter.unusedVariables false
set_option maxRecDepth 100000 in
theorem FnExactStartReach_lifted (os : Os) (started : os.Started) (H : Type) (enc : TypeId × Value → H) :
    ReturnsInHanded {} Try.checked os 10 .any (Rows.fnExactStartReachSpec.pre6 enc Try.prog Try.f10 Rows.fnExactStartReachRow.domain false) (Rows.fnExactStartReachSpec.post enc Try.prog Try.f10 false true false false) := by
  refine returnsInHanded_of_change (C := Try.checked) lawOwn started (by kernel_rfl) Try.func10
    (ChangeSpec.witness6 (enc := enc) (C := Try.checked) false ⟨#[], #[.slice none 0 0], []⟩ 8 (by kernel_rfl) (by kernel_rfl) (by kernel_rfl) (by kernel_rfl)) ?_
  intro W base args ds gs before hval0 hW hcnd _
  have hval : ∀ (j : Nat) t v, Try.f10.params[j]? = some t → args[j]? = some v → Value.okWide Try.prog W .any base t v := hval0
  have hW' := hW
  obtain ⟨p, q, hA0, hV, rfl, hfz, hnd⟩ := hW
  have hA : DataW.TrodAll enc Try.prog W 0 (fun _ => true) true Try.f10.params.toList args.toList ds p := hA0
  rw [Try.params10] at hA hval
  obtain ⟨v0, vs0, d0, ds0, p0, q0, hargs, rfl, rfl, h0, r0⟩ := trodAll_cons hA
  obtain ⟨rfl, rfl, rfl⟩ := trodAll_nil r0
  obtain rfl : args = #[v0] := by cases args; simp_all
  obtain ⟨rfl, rfl⟩ := trodVars_none hV
  obtain ⟨a0, m0, c0, x0, rfl, z0⟩ := arg_sl op_Is us_Is (hval 0 22 v0 rfl rfl) h0
  refine (t_laws_FnExactStartReach.2 W [] z0 rfl List.nodup_nil).mono ?_
  rintro e W' ⟨_, _, rfl, L, _, _, hs⟩
  exact ⟨_, rfl, law_post lawLaid hW' rfl (by kernel_rfl) (by kernel_rfl) lawBool rfl rfl rfl hs.below⟩
theorem FnExactStartReach_proved : Rows.FnExactStartReachSaid :=
  OpenClaim.holds_of_wide 10 Try.f10 rfl rfl rfl rfl rfl rfl rfl ⟨rfl, rfl, rfl, rfl, rfl⟩ rfl rfl rfl rfl rfl (by kernel_rfl) Try.func10 (by kernel_rfl)
    (of_decide_eq_true (by kernel_rfl)) (by unfold Func.isWrapper; first | (rw [if_pos (by decide +kernel)]; kernel_rfl) | (rw [if_neg (by decide +kernel)]; exact ⟨rfl, rfl⟩))
    (fun os started H enc _ => FnExactStartReach_lifted os started H enc)
#print axioms FnExactStartReach_proved
end Go.Proofs.Ytnagfcajnbkdoaa
