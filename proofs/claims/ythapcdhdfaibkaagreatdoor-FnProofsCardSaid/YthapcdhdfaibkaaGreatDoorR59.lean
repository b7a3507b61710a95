import Derived.SevenTiedAt
import Derived.Test.YthapcdhdfaibkaaGreatDoorT138
namespace Go.Proofs.YthapcdhdfaibkaaGreatDoor
open Go.RowKit Go.ChangeShapes Go.WideShapes Go.ChangeAt
set_option linter.unusedVariables false
theorem FnProofs_tab {W : World} (h : laidMetH Tryz.prog Rows.fnProofsRow.laid W) : Lib.TabIs Tryz.prog W "internal/strconv.uint64pow10" .u64 Lib.pow10Tab := by
  have h' : laidMet Tryz.prog Rows.fnProofsRow.laid W := h
  exact Lib.tabIs_of_head (rest := []) (g := a9r) (t := 349) (e := 327) (n := 20) b7x (by kernel_rfl) Tryz.underlying349 Tryz.underlying327 (by kernel_rfl) (by kernel_rfl) (laidMet.tail (laidMet.tail h'))
set_option maxRecDepth 100000 in
theorem FnProofs_contract (H : Type) (enc : TypeId × Value → H) (W : World) (base : Nat) (args : Array Value) (ds gs : List (DataW H)) (before : List MemPlace)
    (hval0 : ∀ (j : Nat) t v, Tryz.f5.params[j]? = some t → args[j]? = some v → Value.okWide Tryz.prog W .any base t v)
    (hW : DataW.Whole enc Tryz.prog Tryz.f5.params.toList Rows.fnProofsSpec.vars false W args.toList ds gs before) (hL : laidMetH Tryz.prog Rows.fnProofsRow.laid W) :
    Calls Tryz.prog 5 args W fun e W' => ∃ v, e = .returned v ∧ Rows.fnProofsSpec.post enc Tryz.prog Tryz.f5 false true false false W args v W' := by
  have hval : ∀ (j : Nat) t v, Tryz.f5.params[j]? = some t → args[j]? = some v → Value.okWide Tryz.prog W .any base t v := hval0
  have hW' := hW
  obtain ⟨p, q, hA0, hV, rfl, hfz, hnd⟩ := hW
  have hA : DataW.TrodAll enc Tryz.prog W 0 (fun _ => true) true Tryz.f5.params.toList args.toList ds p := hA0
  rw [Tryz.params5] at hA hval
  obtain ⟨v0, vs0, d0, ds0, p0, q0, hargs, rfl, rfl, h0, r0⟩ := trodAll_cons hA
  obtain ⟨rfl, rfl, rfl⟩ := trodAll_nil r0
  obtain rfl : args = #[v0] := by cases args; simp_all
  obtain ⟨rfl, rfl⟩ := trodVars_none hV
  obtain ⟨a0, m0, c0, x0, rfl, z0⟩ := b7v op_U8s us_U8s (hval 0 22 v0 rfl rfl) h0
  refine (a8M.2 W [] ⟨z0, c0j (FnProofs_tab hL)⟩ rfl List.nodup_nil).mono ?_
  rintro e W' ⟨_, _, rfl, L, _, _, hs⟩
  exact ⟨_, rfl, b5G b6o hW' rfl (by kernel_rfl) (by kernel_rfl) b6V rfl rfl rfl hs.below⟩
theorem FnProofs_met (os : Os) : laidMet Tryz.prog Rows.fnProofsRow.laid ((tabWorld os).forCall (fun _ _ => 0) ⟨#[], #[.slice none 0 0], []⟩).memory :=
  laidMet_of_run' 100 (by kernel_rfl) (by kernel_rfl)
theorem FnProofs_reads (os : Os) {H : Type} (enc : TypeId × Value → H) : ∃ x, DataW.whole enc Tryz.prog ((tabWorld os).forCall (fun _ _ => 0) ⟨#[], #[.slice none 0 0], []⟩).memory Tryz.f5.params.toList Rows.fnProofsSpec.vars false (#[.slice none 0 0] : Array Value).toList 8 = some x :=
  Option.isSome_iff_exists.1 (by kernel_rfl)
set_option maxRecDepth 100000 in
theorem FnProofs_lifted (os : Os) (started : os.Started) (H : Type) (enc : TypeId × Value → H) (F : Stop.Interp) :
    ReturnsInHanded {} Tryz.checked os 5 .any ((OpenSpec.ofChange Rows.fnProofsSpec).preRow enc Tryz.prog Tryz.f5 Rows.fnProofsRow.domain false Rows.fnProofsRow.laid) (((OpenSpec.ofChange Rows.fnProofsSpec).at F).post enc Tryz.prog Tryz.f5 false true false false) := by
  obtain ⟨x, hx⟩ := FnProofs_reads os enc
  refine returnsInHanded_of_row (C := Tryz.checked) (s := OpenSpec.ofChange Rows.fnProofsSpec) b7U started (by kernel_rfl) Tryz.func5
    (witness_row_at (enc := enc) (C := Tryz.checked) false (tabWorld os) #[.slice none 0 0] rfl (by kernel_rfl) (by kernel_rfl) (by kernel_rfl)
      (OpenSpec.preRow_of_cond 8 hx rfl (fun k hk => by cases hk) (by kernel_rfl) (FnProofs_met os))) ?_
  intro W base args ds gs before hval hW _ _ _ hL _ _
  exact FnProofs_contract H enc W base args ds gs before hval hW hL
theorem FnProofs_in : Tryz.prog.inPlace 5 = Rows.fnProofsRow.inPlace := by kernel_rfl
theorem FnProofs_un : Tryz.prog.unfollowed 5 = true := by kernel_rfl
theorem FnProofs_re : Tryz.prog.recurses 5 = true := by kernel_rfl
theorem FnProofs_va : Tryz.prog.varsNamed 5 = Rows.fnProofsRow.named := by kernel_rfl
theorem FnProofs_closed : joinedFacts Tryz.prog 5 Tryz.f5 (OpenSpec.ofChange Rows.fnProofsSpec).bare Rows.fnProofsRow = true := by unfold joinedFacts; rw [FnProofs_in, FnProofs_un, FnProofs_re, FnProofs_va]; kernel_rfl
theorem FnProofs_said : Rows.FnProofsSaid :=
  OpenClaim.holds_of_cond 5 Tryz.f5 rfl rfl rfl rfl rfl rfl rfl ⟨rfl, rfl, rfl, rfl, rfl⟩ rfl rfl rfl rfl rfl (by kernel_rfl) Tryz.func5 FnProofs_closed
    (of_decide_eq_true (by kernel_rfl)) (by unfold Func.isWrapper; first | (rw [if_pos (by decide +kernel)]; kernel_rfl) | (rw [if_neg (by decide +kernel)]; exact ⟨rfl, rfl⟩))
    (fun os started H enc _ F => by rw [OpenClaim.pre_eq_preRow]; exact FnProofs_lifted os started H enc F)
theorem FnProofs_plain (f : FuncId) (fn : Func) (hf : Tryz.pinned.checked.prog.funcNamed "loop.example/g01989/laws.FnProofs" = some f) (hfn : Tryz.pinned.checked.prog.funcs[f]? = some fn) :
    false = Tryz.pinned.checked.prog.looks [] ∧ ∀ (j : Nat) t, fn.params[j]? = some t → Tryz.pinned.checked.prog.wantsStandIn t = false := by
  obtain rfl : f = 5 := Option.some.inj ((show Tryz.prog.funcNamed "loop.example/g01989/laws.FnProofs" = some 5 by kernel_rfl).symm.trans hf) |>.symm
  obtain rfl : fn = Tryz.f5 := (Option.some.inj (Tryz.func5.symm.trans hfn)).symm
  refine ⟨by kernel_rfl, fun j t ht => ?_⟩
  rw [Tryz.params5] at ht
  obtain rfl : t = 22 := by simpa using Array.mem_of_getElem? ht
  exact (show Tryz.prog.wantsStandIn 22 = false by kernel_rfl)
theorem FnProofs_proved : Rows.FnProofsCardSaid :=
  Claim7.holds_tied_plain_at .later [] _ _ _ _ FnProofs_said (fun _ h => by cases h) (by kernel_rfl) (fun _ h => by cases h) fnProofs_row_tie rfl ⟨rfl, rfl⟩ (by kernel_rfl) rfl FnProofs_plain (by kernel_rfl)
#print axioms FnProofs_proved
end Go.Proofs.YthapcdhdfaibkaaGreatDoor
