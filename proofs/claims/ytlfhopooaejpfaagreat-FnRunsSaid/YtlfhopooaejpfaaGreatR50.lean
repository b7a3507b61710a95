import Derived.Test.YtlfhopooaejpfaaGreatT131
namespace Go.Proofs.YtlfhopooaejpfaaGreat
open Go.RowKit Go.ChangeShapes Go.WideShapes Go.ChangeAt
set_option linter.unusedVariables false
set_option maxRecDepth 100000 in
theorem FnRuns_lifted (os : Os) (started : os.Started) (H : Type) (enc : TypeId × Value → H) :
    ReturnsInHanded {} Tryz.checked os 3 .any (Rows.fnRunsSpec.pre6 enc Tryz.prog Tryz.f3 Rows.fnRunsRow.domain false) (Rows.fnRunsSpec.post enc Tryz.prog Tryz.f3 false true false false) := by
  refine returnsInHanded_of_change (C := Tryz.checked) b6v started (by kernel_rfl) Tryz.func3
    (ChangeSpec.witness6 (enc := enc) (C := Tryz.checked) false ⟨#[], #[.slice none 0 0], []⟩ 8 (by kernel_rfl) (by kernel_rfl) (by kernel_rfl) (by kernel_rfl)) ?_
  intro W base args ds gs before hval0 hW hcnd _
  have hval : ∀ (j : Nat) t v, Tryz.f3.params[j]? = some t → args[j]? = some v → Value.okWide Tryz.prog W .any base t v := hval0
  have hW' := hW
  obtain ⟨p, q, hA0, hV, rfl, hfz, hnd⟩ := hW
  have hA : DataW.TrodAll enc Tryz.prog W 0 (fun _ => true) true Tryz.f3.params.toList args.toList ds p := hA0
  rw [Tryz.params3] at hA hval
  obtain ⟨v0, vs0, d0, ds0, p0, q0, hargs, rfl, rfl, h0, r0⟩ := trodAll_cons hA
  obtain ⟨rfl, rfl, rfl⟩ := trodAll_nil r0
  obtain rfl : args = #[v0] := by cases args; simp_all
  obtain ⟨rfl, rfl⟩ := trodVars_none hV
  obtain ⟨a0, m0, c0, x0, rfl, z0⟩ := b6d op_U8s us_U8s (hval 0 22 v0 rfl rfl) h0
  refine (a8V.2 W [] z0 rfl List.nodup_nil).mono ?_
  rintro e W' ⟨_, _, rfl, L, _, _, hs⟩
  exact ⟨_, rfl, b4a b5Q hW' rfl (by kernel_rfl) (by kernel_rfl) b5F rfl rfl rfl hs.below⟩
theorem FnRuns_in : Tryz.prog.inPlace 3 = Rows.fnRunsRow.inPlace := by kernel_rfl
theorem FnRuns_un : Tryz.prog.unfollowed 3 = true := by kernel_rfl
theorem FnRuns_re : Tryz.prog.recurses 3 = true := by kernel_rfl
theorem FnRuns_va : Tryz.prog.varsNamed 3 = [] := by kernel_rfl
theorem FnRuns_closed : joinedFacts Tryz.prog 3 Tryz.f3 Rows.fnRunsSpec Rows.fnRunsRow = true := by unfold joinedFacts; rw [FnRuns_in, FnRuns_un, FnRuns_re, FnRuns_va]; kernel_rfl
theorem FnRuns_proved : Rows.FnRunsSaid :=
  OpenClaim.holds_of_wide 3 Tryz.f3 rfl rfl rfl rfl rfl rfl rfl ⟨rfl, rfl, rfl, rfl, rfl⟩ rfl rfl rfl rfl rfl (by kernel_rfl) Tryz.func3 FnRuns_closed
    (of_decide_eq_true (by kernel_rfl)) (by unfold Func.isWrapper; first | (rw [if_pos (by decide +kernel)]; kernel_rfl) | (rw [if_neg (by decide +kernel)]; exact ⟨rfl, rfl⟩))
    (fun os started H enc _ => FnRuns_lifted os started H enc)
#print axioms FnRuns_proved
end Go.Proofs.YtlfhopooaejpfaaGreat
