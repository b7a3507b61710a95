import Derived.Test.YtlfhopooaejpfaaGreatT135
namespace Go.Proofs.YtlfhopooaejpfaaGreat
open Go.RowKit Go.ChangeShapes Go.WideShapes Go.ChangeAt
set_option linter.unusedVariables false
set_option maxRecDepth 100000 in
theorem FnHelpfuls_lifted (os : Os) (started : os.Started) (H : Type) (enc : TypeId × Value → H) :
    ReturnsInHanded {} Tryz.checked os 4 .any (Rows.fnHelpfulsSpec.pre6 enc Tryz.prog Tryz.f4 Rows.fnHelpfulsRow.domain false) (Rows.fnHelpfulsSpec.post enc Tryz.prog Tryz.f4 false true false false) := by
  refine returnsInHanded_of_change (C := Tryz.checked) c0j started (by kernel_rfl) Tryz.func4
    (ChangeSpec.witness6 (enc := enc) (C := Tryz.checked) false ⟨#[], #[.slice none 0 0], []⟩ 8 (by kernel_rfl) (by kernel_rfl) (by kernel_rfl) (by kernel_rfl)) ?_
  intro W base args ds gs before hval0 hW hcnd _
  have hval : ∀ (j : Nat) t v, Tryz.f4.params[j]? = some t → args[j]? = some v → Value.okWide Tryz.prog W .any base t v := hval0
  have hW' := hW
  obtain ⟨p, q, hA0, hV, rfl, hfz, hnd⟩ := hW
  have hA : DataW.TrodAll enc Tryz.prog W 0 (fun _ => true) true Tryz.f4.params.toList args.toList ds p := hA0
  rw [Tryz.params4] at hA hval
  obtain ⟨v0, vs0, d0, ds0, p0, q0, hargs, rfl, rfl, h0, r0⟩ := trodAll_cons hA
  obtain ⟨rfl, rfl, rfl⟩ := trodAll_nil r0
  obtain rfl : args = #[v0] := by cases args; simp_all
  obtain ⟨rfl, rfl⟩ := trodVars_none hV
  obtain ⟨a0, m0, c0, x0, rfl, z0⟩ := b9V op_U8s us_U8s (hval 0 22 v0 rfl rfl) h0
  refine (a8s.2 W [] z0 rfl List.nodup_nil).mono ?_
  rintro e W' ⟨_, _, rfl, L, _, _, hs⟩
  exact ⟨_, rfl, b7B b9i hW' rfl (by kernel_rfl) (by kernel_rfl) b8H rfl rfl rfl hs.below⟩
theorem FnHelpfuls_in : Tryz.prog.inPlace 4 = Rows.fnHelpfulsRow.inPlace := by kernel_rfl
theorem FnHelpfuls_un : Tryz.prog.unfollowed 4 = true := by kernel_rfl
theorem FnHelpfuls_re : Tryz.prog.recurses 4 = true := by kernel_rfl
theorem FnHelpfuls_va : Tryz.prog.varsNamed 4 = [] := by kernel_rfl
theorem FnHelpfuls_closed : joinedFacts Tryz.prog 4 Tryz.f4 Rows.fnHelpfulsSpec Rows.fnHelpfulsRow = true := by unfold joinedFacts; rw [FnHelpfuls_in, FnHelpfuls_un, FnHelpfuls_re, FnHelpfuls_va]; kernel_rfl
theorem FnHelpfuls_proved : Rows.FnHelpfulsSaid :=
  OpenClaim.holds_of_wide 4 Tryz.f4 rfl rfl rfl rfl rfl rfl rfl ⟨rfl, rfl, rfl, rfl, rfl⟩ rfl rfl rfl rfl rfl (by kernel_rfl) Tryz.func4 FnHelpfuls_closed
    (of_decide_eq_true (by kernel_rfl)) (by unfold Func.isWrapper; first | (rw [if_pos (by decide +kernel)]; kernel_rfl) | (rw [if_neg (by decide +kernel)]; exact ⟨rfl, rfl⟩))
    (fun os started H enc _ => FnHelpfuls_lifted os started H enc)
#print axioms FnHelpfuls_proved
end Go.Proofs.YtlfhopooaejpfaaGreat
