/- What is proved: for whatever arguments, the law returns true, and what the arguments read as is the same behind the call. The tables of the library that it comes to start as the program lays them (the card ties them). -/
import Derived.Test.YtlbfbeldhkcdiaaDoorEk
import Derived.SevenTiedAt
import Derived.Test.YtlbfbeldhkcdiaaDoorT64
namespace Go.Proofs.YtlbfbeldhkcdiaaDoor
open Go.RowKit Go.ChangeShapes Go.WideShapes Go.ChangeAt
set_option linter.unusedVariables false
theorem FnExactFormatProof_tab {W : World} (h : laidMetH Tryd.prog Rows.fnExactFormatProofRow.laid W) : Lib.TabIs Tryd.prog W "internal/strconv.uint64pow10" .u64 Lib.pow10Tab := by
  have h' : laidMet Tryd.prog Rows.fnExactFormatProofRow.laid W := h
  exact Lib.tabIs_of_head (rest := []) (g := gPow) (t := 146) (e := 138) (n := 20) gPowIs (by kernel_rfl) Tryd.underlying146 Tryd.underlying138 (by kernel_rfl) (by kernel_rfl) (laidMet.tail (laidMet.tail h'))
set_option maxRecDepth 100000 in
theorem FnExactFormatProof_contract (H : Type) (enc : TypeId × Value → H) (W : World) (base : Nat) (args : Array Value) (ds gs : List (DataW H)) (before : List MemPlace)
    (hval0 : ∀ (j : Nat) t v, Tryd.f6.params[j]? = some t → args[j]? = some v → Value.okWide Tryd.prog W .any base t v)
    (hW : DataW.Whole enc Tryd.prog Tryd.f6.params.toList Rows.fnExactFormatProofSpec.vars false W args.toList ds gs before) (hL : laidMetH Tryd.prog Rows.fnExactFormatProofRow.laid W) :
    Calls Tryd.prog 6 args W fun e W' => ∃ v, e = .returned v ∧ Rows.fnExactFormatProofSpec.post enc Tryd.prog Tryd.f6 false true false false W args v W' := by
  have hval : ∀ (j : Nat) t v, Tryd.f6.params[j]? = some t → args[j]? = some v → Value.okWide Tryd.prog W .any base t v := hval0
  have hW' := hW
  obtain ⟨p, q, hA0, hV, rfl, hfz, hnd⟩ := hW
  have hA : DataW.TrodAll enc Tryd.prog W 0 (fun _ => true) true Tryd.f6.params.toList args.toList ds p := hA0
  rw [Tryd.params6] at hA hval
  obtain ⟨v0, vs0, d0, ds0, p0, q0, hargs, rfl, rfl, h0, r0⟩ := trodAll_cons hA
  obtain ⟨rfl, rfl, rfl⟩ := trodAll_nil r0
  obtain rfl : args = #[v0] := by cases args; simp_all
  obtain ⟨rfl, rfl⟩ := trodVars_none hV
  obtain ⟨cs0, x0, rfl, z0⟩ := arg_st op_lProof Tryd.underlying55 (hval 0 55 v0 rfl rfl) h0
  obtain ⟨a0_0, c0_0, rfl, z0_0⟩ := Ro.pProof z0
  refine (t_laws_FnExactFormatProof.2 W [] ⟨z0_0, roTab (FnExactFormatProof_tab hL)⟩ rfl List.nodup_nil).mono ?_
  rintro e W' ⟨_, _, rfl, L, _, _, hs⟩
  exact ⟨_, rfl, law_post lawLaid hW' rfl (by kernel_rfl) (by kernel_rfl) lawBool rfl rfl rfl hs.below⟩
theorem FnExactFormatProof_met (os : Os) : laidMet Tryd.prog Rows.fnExactFormatProofRow.laid ((tabWorld os).forCall (fun _ _ => 0) ⟨#[], #[.agg #[.slice none 0 0]], []⟩).memory :=
  laidMet_of_run' 100 (by kernel_rfl) (by kernel_rfl)
theorem FnExactFormatProof_reads (os : Os) {H : Type} (enc : TypeId × Value → H) : ∃ x, DataW.whole enc Tryd.prog ((tabWorld os).forCall (fun _ _ => 0) ⟨#[], #[.agg #[.slice none 0 0]], []⟩).memory Tryd.f6.params.toList Rows.fnExactFormatProofSpec.vars false (#[.agg #[.slice none 0 0]] : Array Value).toList 8 = some x :=
  Option.isSome_iff_exists.1 (by kernel_rfl)
set_option maxRecDepth 100000 in
theorem FnExactFormatProof_lifted (os : Os) (started : os.Started) (H : Type) (enc : TypeId × Value → H) (F : Stop.Interp) :
    ReturnsInHanded {} Tryd.checked os 6 .any ((OpenSpec.ofChange Rows.fnExactFormatProofSpec).preRow enc Tryd.prog Tryd.f6 Rows.fnExactFormatProofRow.domain false Rows.fnExactFormatProofRow.laid) (((OpenSpec.ofChange Rows.fnExactFormatProofSpec).at F).post enc Tryd.prog Tryd.f6 false true false false) := by
  obtain ⟨x, hx⟩ := FnExactFormatProof_reads os enc
  refine returnsInHanded_of_row (C := Tryd.checked) (s := OpenSpec.ofChange Rows.fnExactFormatProofSpec) lawOwn started (by kernel_rfl) Tryd.func6
    (witness_row_at (enc := enc) (C := Tryd.checked) false (tabWorld os) #[.agg #[.slice none 0 0]] rfl (by kernel_rfl) (by kernel_rfl) (by kernel_rfl)
      (OpenSpec.preRow_of_cond 8 hx rfl (fun k hk => by cases hk) (by kernel_rfl) (FnExactFormatProof_met os))) ?_
  intro W base args ds gs before hval hW _ _ _ hL _ _
  exact FnExactFormatProof_contract H enc W base args ds gs before hval hW hL
theorem FnExactFormatProof_said : Rows.FnExactFormatProofSaid :=
  OpenClaim.holds_of_cond 6 Tryd.f6 rfl rfl rfl rfl rfl rfl rfl ⟨rfl, rfl, rfl, rfl, rfl⟩ rfl rfl rfl rfl rfl (by kernel_rfl) Tryd.func6 (by kernel_rfl)
    (of_decide_eq_true (by kernel_rfl)) (by unfold Func.isWrapper; first | (rw [if_pos (by decide +kernel)]; kernel_rfl) | (rw [if_neg (by decide +kernel)]; exact ⟨rfl, rfl⟩))
    (fun os started H enc _ F => by rw [OpenClaim.pre_eq_preRow]; exact FnExactFormatProof_lifted os started H enc F)
theorem FnExactFormatProof_plain (f : FuncId) (fn : Func) (hf : Tryd.pinned.checked.prog.funcNamed "loop.example/g01989/laws.FnExactFormatProof" = some f) (hfn : Tryd.pinned.checked.prog.funcs[f]? = some fn) :
    false = Tryd.pinned.checked.prog.looks [] ∧ ∀ (j : Nat) t, fn.params[j]? = some t → Tryd.pinned.checked.prog.wantsStandIn t = false := by
  obtain rfl : f = 6 := Option.some.inj ((show Tryd.prog.funcNamed "loop.example/g01989/laws.FnExactFormatProof" = some 6 by kernel_rfl).symm.trans hf) |>.symm
  obtain rfl : fn = Tryd.f6 := (Option.some.inj (Tryd.func6.symm.trans hfn)).symm
  refine ⟨by kernel_rfl, fun j t ht => ?_⟩
  rw [Tryd.params6] at ht
  obtain rfl : t = 55 := by simpa using Array.mem_of_getElem? ht
  exact (show Tryd.prog.wantsStandIn 55 = false by kernel_rfl)
theorem FnExactFormatProof_proved : Rows.FnExactFormatProofCardSaid :=
  Claim7.holds_tied_plain_at .later [] _ _ _ _ FnExactFormatProof_said (fun _ h => by cases h) (by kernel_rfl) (fun _ h => by cases h) fnExactFormatProof_row_tie rfl ⟨rfl, rfl⟩ (by kernel_rfl) rfl FnExactFormatProof_plain (by kernel_rfl)
#print axioms FnExactFormatProof_proved
end Go.Proofs.YtlbfbeldhkcdiaaDoor
