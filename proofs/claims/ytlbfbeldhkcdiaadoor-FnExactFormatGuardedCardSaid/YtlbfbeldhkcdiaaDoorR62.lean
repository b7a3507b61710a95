/- What is proved: for whatever arguments, the law returns true, and what the arguments read as is the same behind the call. The tables of the library that it comes to start as the program lays them (the card ties them). -/
import Derived.Test.YtlbfbeldhkcdiaaDoorEk
import Derived.SevenTiedAt
import Derived.Test.YtlbfbeldhkcdiaaDoorT62
namespace Go.Proofs.YtlbfbeldhkcdiaaDoor
open Go.RowKit Go.ChangeShapes Go.WideShapes Go.ChangeAt
set_option linter.unusedVariables false
set_option maxRecDepth 100000 in
theorem FnExactFormatGuarded_contract (H : Type) (enc : TypeId × Value → H) (W : World) (base : Nat) (args : Array Value) (ds gs : List (DataW H)) (before : List MemPlace)
    (hval0 : ∀ (j : Nat) t v, Tryd.f5.params[j]? = some t → args[j]? = some v → Value.okWide Tryd.prog W .any base t v)
    (hW : DataW.Whole enc Tryd.prog Tryd.f5.params.toList Rows.fnExactFormatGuardedSpec.vars false W args.toList ds gs before) :
    Calls Tryd.prog 5 args W fun e W' => ∃ v, e = .returned v ∧ Rows.fnExactFormatGuardedSpec.post enc Tryd.prog Tryd.f5 false true false false W args v W' := by
  have hval : ∀ (j : Nat) t v, Tryd.f5.params[j]? = some t → args[j]? = some v → Value.okWide Tryd.prog W .any base t v := hval0
  have hW' := hW
  obtain ⟨p, q, hA0, hV, rfl, hfz, hnd⟩ := hW
  have hA : DataW.TrodAll enc Tryd.prog W 0 (fun _ => true) true Tryd.f5.params.toList args.toList ds p := hA0
  rw [Tryd.params5] at hA hval
  obtain ⟨v0, vs0, d0, ds0, p0, q0, hargs, rfl, rfl, h0, r0⟩ := trodAll_cons hA
  obtain ⟨rfl, rfl, rfl⟩ := trodAll_nil r0
  obtain rfl : args = #[v0] := by cases args; simp_all
  obtain ⟨rfl, rfl⟩ := trodVars_none hV
  obtain ⟨cs0, x0, rfl, z0⟩ := arg_st op_lGuarded Tryd.underlying42 (hval 0 42 v0 rfl rfl) h0
  obtain ⟨a0_0, c0_0, a0_1, c0_1, a0_2, c0_2, rfl, z0_0, z0_1, z0_2⟩ := Ro.pGuarded z0
  refine (t_laws_FnExactFormatGuarded.2 W [] ⟨z0_0, z0_1, z0_2⟩ rfl List.nodup_nil).mono ?_
  rintro e W' ⟨_, _, rfl, L, _, _, hs⟩
  exact ⟨_, rfl, law_post lawLaid hW' rfl (by kernel_rfl) (by kernel_rfl) lawBool rfl rfl rfl hs.below⟩
theorem FnExactFormatGuarded_met (os : Os) : laidMet Tryd.prog Rows.fnExactFormatGuardedRow.laid ((tabWorld os).forCall (fun _ _ => 0) ⟨#[], #[.agg #[.slice none 0 0, .slice none 0 0, .slice none 0 0]], []⟩).memory :=
  laidMet_of_run' 100 (by kernel_rfl) (by kernel_rfl)
theorem FnExactFormatGuarded_reads (os : Os) {H : Type} (enc : TypeId × Value → H) : ∃ x, DataW.whole enc Tryd.prog ((tabWorld os).forCall (fun _ _ => 0) ⟨#[], #[.agg #[.slice none 0 0, .slice none 0 0, .slice none 0 0]], []⟩).memory Tryd.f5.params.toList Rows.fnExactFormatGuardedSpec.vars false (#[.agg #[.slice none 0 0, .slice none 0 0, .slice none 0 0]] : Array Value).toList 8 = some x :=
  Option.isSome_iff_exists.1 (by kernel_rfl)
set_option maxRecDepth 100000 in
theorem FnExactFormatGuarded_lifted (os : Os) (started : os.Started) (H : Type) (enc : TypeId × Value → H) (F : Stop.Interp) :
    ReturnsInHanded {} Tryd.checked os 5 .any ((OpenSpec.ofChange Rows.fnExactFormatGuardedSpec).preRow enc Tryd.prog Tryd.f5 Rows.fnExactFormatGuardedRow.domain false Rows.fnExactFormatGuardedRow.laid) (((OpenSpec.ofChange Rows.fnExactFormatGuardedSpec).at F).post enc Tryd.prog Tryd.f5 false true false false) := by
  obtain ⟨x, hx⟩ := FnExactFormatGuarded_reads os enc
  refine returnsInHanded_of_row (C := Tryd.checked) (s := OpenSpec.ofChange Rows.fnExactFormatGuardedSpec) lawOwn started (by kernel_rfl) Tryd.func5
    (witness_row_at (enc := enc) (C := Tryd.checked) false (tabWorld os) #[.agg #[.slice none 0 0, .slice none 0 0, .slice none 0 0]] rfl (by kernel_rfl) (by kernel_rfl) (by kernel_rfl)
      (OpenSpec.preRow_of_cond 8 hx rfl (fun k hk => by cases hk) (by kernel_rfl) (FnExactFormatGuarded_met os))) ?_
  intro W base args ds gs before hval hW _ _ _ hL _ _
  exact FnExactFormatGuarded_contract H enc W base args ds gs before hval hW
theorem FnExactFormatGuarded_said : Rows.FnExactFormatGuardedSaid :=
  OpenClaim.holds_of_cond 5 Tryd.f5 rfl rfl rfl rfl rfl rfl rfl ⟨rfl, rfl, rfl, rfl, rfl⟩ rfl rfl rfl rfl rfl (by kernel_rfl) Tryd.func5 (by kernel_rfl)
    (of_decide_eq_true (by kernel_rfl)) (by unfold Func.isWrapper; first | (rw [if_pos (by decide +kernel)]; kernel_rfl) | (rw [if_neg (by decide +kernel)]; exact ⟨rfl, rfl⟩))
    (fun os started H enc _ F => by rw [OpenClaim.pre_eq_preRow]; exact FnExactFormatGuarded_lifted os started H enc F)
theorem FnExactFormatGuarded_plain (f : FuncId) (fn : Func) (hf : Tryd.pinned.checked.prog.funcNamed "loop.example/g01989/laws.FnExactFormatGuarded" = some f) (hfn : Tryd.pinned.checked.prog.funcs[f]? = some fn) :
    false = Tryd.pinned.checked.prog.looks [] ∧ ∀ (j : Nat) t, fn.params[j]? = some t → Tryd.pinned.checked.prog.wantsStandIn t = false := by
  obtain rfl : f = 5 := Option.some.inj ((show Tryd.prog.funcNamed "loop.example/g01989/laws.FnExactFormatGuarded" = some 5 by kernel_rfl).symm.trans hf) |>.symm
  obtain rfl : fn = Tryd.f5 := (Option.some.inj (Tryd.func5.symm.trans hfn)).symm
  refine ⟨by kernel_rfl, fun j t ht => ?_⟩
  rw [Tryd.params5] at ht
  obtain rfl : t = 42 := by simpa using Array.mem_of_getElem? ht
  exact (show Tryd.prog.wantsStandIn 42 = false by kernel_rfl)
theorem FnExactFormatGuarded_proved : Rows.FnExactFormatGuardedCardSaid :=
  Claim7.holds_tied_plain_at .later [] _ _ _ _ FnExactFormatGuarded_said (fun _ h => by cases h) (by kernel_rfl) (fun _ h => by cases h) fnExactFormatGuarded_row_tie rfl ⟨rfl, rfl⟩ (by kernel_rfl) rfl FnExactFormatGuarded_plain (by kernel_rfl)
#print axioms FnExactFormatGuarded_proved
end Go.Proofs.YtlbfbeldhkcdiaaDoor
