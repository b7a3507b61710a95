import Derived.SevenTiedAt
import Derived.Test.YthapcdhdfaibkaaGreatDoorT144
namespace Go.Proofs.YthapcdhdfaibkaaGreatDoor
open Go.RowKit Go.ChangeShapes Go.WideShapes Go.ChangeAt
set_option linter.all false
set_option maxRecDepth 100000 in
theorem FnUnions_contract (H : Type) (enc : TypeId × Value → H) (W : World) (base : Nat) (args : Array Value) (ds gs : List (DataW H)) (before : List MemPlace)
    (hval0 : ∀ (j : Nat) t v, Tryz.f4.params[j]? = some t → args[j]? = some v → Value.okWide Tryz.prog W .any base t v)
    (hW : DataW.Whole enc Tryz.prog Tryz.f4.params.toList Rows.fnUnionsSpec.vars false W args.toList ds gs before) :
    Calls Tryz.prog 4 args W fun e W' => ∃ v, e = .returned v ∧ Rows.fnUnionsSpec.post enc Tryz.prog Tryz.f4 false true false false W args v W' := by
  have hval : ∀ (j : Nat) t v, Tryz.f4.params[j]? = some t → args[j]? = some v → Value.okWide Tryz.prog W .any base t v := hval0
  have hW' := hW
  obtain ⟨p, q, hA0, hV, rfl, hfz, hnd⟩ := hW
  have hA : DataW.TrodAll enc Tryz.prog W 0 (fun _ => true) true Tryz.f4.params.toList args.toList ds p := hA0
  rw [Tryz.params4] at hA hval
  obtain ⟨v0, vs0, d0, ds0, p0, q0, hargs, rfl, rfl, h0, r0⟩ := trodAll_cons hA
  obtain ⟨rfl, rfl, rfl⟩ := trodAll_nil r0
  obtain rfl : args = #[v0] := by cases args; simp_all
  obtain ⟨rfl, rfl⟩ := trodVars_none hV
  obtain ⟨a0, m0, c0, x0, rfl, z0⟩ := c3c op_U8s us_U8s (hval 0 22 v0 rfl rfl) h0
  refine (b0J.2 W [] z0 rfl List.nodup_nil).mono ?_
  rintro e W' ⟨_, _, rfl, L, _, _, hs⟩
  exact ⟨_, rfl, b9I c2o hW' rfl (by kernel_rfl) (by kernel_rfl) c1C rfl rfl rfl hs.below⟩
theorem FnUnions_met (os : Os) : laidMet Tryz.prog Rows.fnUnionsRow.laid ((tabWorld os).forCall (fun _ _ => 0) ⟨#[], #[.slice none 0 0], []⟩).memory :=
  laidMet_of_run' 100 (by kernel_rfl) (by kernel_rfl)
theorem FnUnions_reads (os : Os) {H : Type} (enc : TypeId × Value → H) : ∃ x, DataW.whole enc Tryz.prog ((tabWorld os).forCall (fun _ _ => 0) ⟨#[], #[.slice none 0 0], []⟩).memory Tryz.f4.params.toList Rows.fnUnionsSpec.vars false (#[.slice none 0 0] : Array Value).toList 8 = some x :=
  Option.isSome_iff_exists.1 (by kernel_rfl)
set_option maxRecDepth 100000 in
theorem FnUnions_lifted (os : Os) (started : os.Started) (H : Type) (enc : TypeId × Value → H) (F : Stop.Interp) :
    ReturnsInHanded {} Tryz.checked os 4 .any ((OpenSpec.ofChange Rows.fnUnionsSpec).preRow enc Tryz.prog Tryz.f4 Rows.fnUnionsRow.domain false Rows.fnUnionsRow.laid) (((OpenSpec.ofChange Rows.fnUnionsSpec).at F).post enc Tryz.prog Tryz.f4 false true false false) := by
  obtain ⟨x, hx⟩ := FnUnions_reads os enc
  refine returnsInHanded_of_row (C := Tryz.checked) (s := OpenSpec.ofChange Rows.fnUnionsSpec) c3E started (by kernel_rfl) Tryz.func4
    (witness_row_at (enc := enc) (C := Tryz.checked) false (tabWorld os) #[.slice none 0 0] rfl (by kernel_rfl) (by kernel_rfl) (by kernel_rfl)
      (OpenSpec.preRow_of_cond 8 hx rfl (fun k hk => by cases hk) (by kernel_rfl) (FnUnions_met os))) ?_
  intro W base args ds gs before hval hW _ _ _ hL _ _
  exact FnUnions_contract H enc W base args ds gs before hval hW
theorem FnUnions_in : Tryz.prog.inPlace 4 = Rows.fnUnionsRow.inPlace := by kernel_rfl
theorem FnUnions_un : Tryz.prog.unfollowed 4 = true := by kernel_rfl
theorem FnUnions_re : Tryz.prog.recurses 4 = true := by kernel_rfl
theorem FnUnions_va : Tryz.prog.varsNamed 4 = Rows.fnUnionsRow.named := by kernel_rfl
theorem FnUnions_closed : joinedFacts Tryz.prog 4 Tryz.f4 (OpenSpec.ofChange Rows.fnUnionsSpec).bare Rows.fnUnionsRow = true := by unfold joinedFacts; rw [FnUnions_in, FnUnions_un, FnUnions_re, FnUnions_va]; kernel_rfl
theorem FnUnions_said : Rows.FnUnionsSaid :=
  OpenClaim.holds_of_cond 4 Tryz.f4 rfl rfl rfl rfl rfl rfl rfl ⟨rfl, rfl, rfl, rfl, rfl⟩ rfl rfl rfl rfl rfl (by kernel_rfl) Tryz.func4 FnUnions_closed
    (of_decide_eq_true (by kernel_rfl)) (by unfold Func.isWrapper; first | (rw [if_pos (by decide +kernel)]; kernel_rfl) | (rw [if_neg (by decide +kernel)]; exact ⟨rfl, rfl⟩))
    (fun os started H enc _ F => by rw [OpenClaim.pre_eq_preRow]; exact FnUnions_lifted os started H enc F)
theorem FnUnions_plain (f : FuncId) (fn : Func) (hf : Tryz.pinned.checked.prog.funcNamed "loop.example/g01989/laws.FnUnions" = some f) (hfn : Tryz.pinned.checked.prog.funcs[f]? = some fn) :
    false = Tryz.pinned.checked.prog.looks [] ∧ ∀ (j : Nat) t, fn.params[j]? = some t → Tryz.pinned.checked.prog.wantsStandIn t = false := by
  obtain rfl : f = 4 := Option.some.inj ((show Tryz.prog.funcNamed "loop.example/g01989/laws.FnUnions" = some 4 by kernel_rfl).symm.trans hf) |>.symm
  obtain rfl : fn = Tryz.f4 := (Option.some.inj (Tryz.func4.symm.trans hfn)).symm
  refine ⟨by kernel_rfl, fun j t ht => ?_⟩
  rw [Tryz.params4] at ht
  obtain rfl : t = 22 := by simpa using Array.mem_of_getElem? ht
  exact (show Tryz.prog.wantsStandIn 22 = false by kernel_rfl)
theorem FnUnions_proved : Rows.FnUnionsCardSaid :=
  Claim7.holds_tied_plain_at .later [] _ _ _ _ FnUnions_said (fun _ h => by cases h) (by kernel_rfl) (fun _ h => by cases h) fnUnions_row_tie rfl ⟨rfl, rfl⟩ (by kernel_rfl) rfl FnUnions_plain (by kernel_rfl)
#print axioms FnUnions_proved
end Go.Proofs.YthapcdhdfaibkaaGreatDoor
