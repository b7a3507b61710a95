import Derived.Test.YtdopeopehgdccaaGreatBg
import Derived.Test.YtdopeopehgdccaaGreatT103
namespace Go.Proofs.YtdopeopehgdccaaGreat
open Go.RowKit Go.ChangeShapes Go.WideShapes Go.ChangeAt
set_option linter.unusedVariables false
set_option maxRecDepth 100000 in
theorem FnExactRunGuarded_lifted (os : Os) (started : os.Started) (H : Type) (enc : TypeId × Value → H) :
    ReturnsInHanded {} Tryz.checked os 6 .any (Rows.fnExactRunGuardedSpec.pre6 enc Tryz.prog Tryz.f6 Rows.fnExactRunGuardedRow.domain false) (Rows.fnExactRunGuardedSpec.post enc Tryz.prog Tryz.f6 false true false false) := by
  refine returnsInHanded_of_change (C := Tryz.checked) b8F started (by kernel_rfl) Tryz.func6
    (ChangeSpec.witness6 (enc := enc) (C := Tryz.checked) false ⟨#[], #[.slice none 0 0, .slice none 0 0, .agg #[.slice none 0 0, .slice none 0 0, .slice none 0 0], .slice none 0 0], []⟩ 8 (by kernel_rfl) (by kernel_rfl) (by kernel_rfl) (by kernel_rfl)) ?_
  intro W base args ds gs before hval0 hW hcnd _
  have hval : ∀ (j : Nat) t v, Tryz.f6.params[j]? = some t → args[j]? = some v → Value.okWide Tryz.prog W .any base t v := hval0
  have hW' := hW
  obtain ⟨p, q, hA0, hV, rfl, hfz, hnd⟩ := hW
  have hA : DataW.TrodAll enc Tryz.prog W 0 (fun _ => true) true Tryz.f6.params.toList args.toList ds p := hA0
  rw [Tryz.params6] at hA hval
  obtain ⟨v0, vs0, d0, ds0, p0, q0, hargs, rfl, rfl, h0, r0⟩ := trodAll_cons hA
  obtain ⟨v1, vs1, d1, ds1, p1, q1, rfl, rfl, rfl, h1, r1⟩ := trodAll_cons r0
  obtain ⟨v2, vs2, d2, ds2, p2, q2, rfl, rfl, rfl, h2, r2⟩ := trodAll_cons r1
  obtain ⟨v3, vs3, d3, ds3, p3, q3, rfl, rfl, rfl, h3, r3⟩ := trodAll_cons r2
  obtain ⟨rfl, rfl, rfl⟩ := trodAll_nil r3
  obtain rfl : args = #[v0, v1, v2, v3] := by cases args; simp_all
  obtain ⟨rfl, rfl⟩ := trodVars_none hV
  obtain ⟨a0, m0, c0, x0, rfl, z0⟩ := b2p op_Is us_Is (hval 0 22 v0 rfl rfl) h0
  obtain ⟨a1, m1, c1, x1, rfl, z1⟩ := b2p op_lMethods us_lMethods (hval 1 23 v1 rfl rfl) h1
  obtain ⟨cs2, x2, rfl, z2⟩ := b8s op_lGuarded Tryz.underlying82 (hval 2 82 v2 rfl rfl) h2
  obtain ⟨a2_0, c2_0, a2_1, c2_1, a2_2, c2_2, rfl, z2_0, z2_1, z2_2⟩ := b3F z2
  obtain ⟨a3, m3, c3, x3, rfl, z3⟩ := b2p op_lFacts us_lFacts (hval 3 25 v3 rfl rfl) h3
  refine (a4D.2 W [] ⟨z0, z1, z2_0, z2_1, z2_2, z3⟩ rfl List.nodup_nil).mono ?_
  rintro e W' ⟨_, _, rfl, L, _, _, hs⟩
  exact ⟨_, rfl, b6v b7D hW' rfl (by kernel_rfl) (by kernel_rfl) b7L rfl rfl rfl hs.below⟩
theorem FnExactRunGuarded_in : Tryz.prog.inPlace 6 = Rows.fnExactRunGuardedRow.inPlace := by kernel_rfl
theorem FnExactRunGuarded_un : Tryz.prog.unfollowed 6 = true := by kernel_rfl
theorem FnExactRunGuarded_re : Tryz.prog.recurses 6 = true := by kernel_rfl
theorem FnExactRunGuarded_va : Tryz.prog.varsNamed 6 = [] := by kernel_rfl
theorem FnExactRunGuarded_closed : joinedFacts Tryz.prog 6 Tryz.f6 Rows.fnExactRunGuardedSpec Rows.fnExactRunGuardedRow = true := by unfold joinedFacts; rw [FnExactRunGuarded_in, FnExactRunGuarded_un, FnExactRunGuarded_re, FnExactRunGuarded_va]; kernel_rfl
theorem FnExactRunGuarded_proved : Rows.FnExactRunGuardedSaid :=
  OpenClaim.holds_of_wide 6 Tryz.f6 rfl rfl rfl rfl rfl rfl rfl ⟨rfl, rfl, rfl, rfl, rfl⟩ rfl rfl rfl rfl rfl (by kernel_rfl) Tryz.func6 FnExactRunGuarded_closed
    (of_decide_eq_true (by kernel_rfl)) (by unfold Func.isWrapper; first | (rw [if_pos (by decide +kernel)]; kernel_rfl) | (rw [if_neg (by decide +kernel)]; exact ⟨rfl, rfl⟩))
    (fun os started H enc _ => FnExactRunGuarded_lifted os started H enc)
#print axioms FnExactRunGuarded_proved
end Go.Proofs.YtdopeopehgdccaaGreat
