import Derived.Test.YtfnbilpemdgkkaaGreatDoorGs
import Derived.SevenTiedAt
import Derived.Test.YtfnbilpemdgkkaaGreatDoorHh
import Derived.Test.YtfnbilpemdgkkaaGreatDoorT129
namespace Go.Proofs.YtfnbilpemdgkkaaGreatDoor
open Go.RowKit Go.ChangeShapes Go.WideShapes Go.ChangeAt
set_option linter.unusedVariables false
theorem FnRules_tab {W : World} (h : laidMetH Tryz.prog Rows.fnRulesRow.laid W) : RoPt W [] a0C a1V := by
  have h' : laidMet Tryz.prog Rows.fnRulesRow.laid W := h
  exact b4q (Lib.tabIs_of_head (g := a0C) (t := 222) (e := 207) (n := 20) a7c (by kernel_rfl) Tryz.underlying222 Tryz.underlying207 (by kernel_rfl) (by kernel_rfl) (laidMet.tail (laidMet.tail h')))
theorem FnRules_es {W : World} (h : laidMetH Tryz.prog Rows.fnRulesRow.laid W) : ∃ te pe, RoPt W [] gES [.iface te pe] := by
  have h' : laidMet Tryz.prog Rows.fnRulesRow.laid W := h
  exact b1Q (laidMet.tail (laidMet.tail (laidMet.tail (laidMet.tail (laidMet.tail h'))))) b1V (by kernel_rfl)
theorem FnRules_er {W : World} (h : laidMetH Tryz.prog Rows.fnRulesRow.laid W) : ∃ te pe, RoPt W [] gER [.iface te pe] := by
  have h' : laidMet Tryz.prog Rows.fnRulesRow.laid W := h
  exact b1Q (laidMet.tail (laidMet.tail (laidMet.tail (laidMet.tail h')))) b1Z (by kernel_rfl)
set_option maxRecDepth 100000 in
theorem FnRules_contract (H : Type) (enc : TypeId × Value → H) (W : World) (base : Nat) (args : Array Value) (ds gs : List (DataW H)) (before : List MemPlace)
    (hval : ∀ (j : Nat) t v, Tryz.f4.params[j]? = some t → args[j]? = some v → Value.okWide Tryz.prog W .any base t v)
    (hW : DataW.Whole enc Tryz.prog Tryz.f4.params.toList Rows.fnRulesSpec.vars false W args.toList ds gs before) (hL : laidMetH Tryz.prog Rows.fnRulesRow.laid W) (hsh : W.ShapedOpen Tryz.prog) :
    Calls Tryz.prog 4 args W fun e W' => ∃ v, e = .returned v ∧ Rows.fnRulesSpec.post enc Tryz.prog Tryz.f4 false true false false W args v W' := by
  have hW' := hW
  obtain ⟨p, q, hA0, hV, rfl, hfz, hnd⟩ := hW
  have hA : DataW.TrodAll enc Tryz.prog W 0 (fun _ => true) true Tryz.f4.params.toList args.toList ds p := hA0
  rw [Tryz.params4] at hA hval
  obtain ⟨v0, vs0, d0, ds0, p0, q0, hargs, rfl, rfl, h0, r0⟩ := trodAll_cons hA
  obtain ⟨rfl, rfl, rfl⟩ := trodAll_nil r0
  obtain rfl : args = #[v0] := by cases args; simp_all
  obtain ⟨rfl, rfl⟩ := trodVars_none hV
  obtain ⟨a0, m0, c0, x0, rfl, z0⟩ := b3C op_U8s us_U8s (hval 0 22 v0 rfl rfl) h0
  obtain ⟨_, _, yes⟩ := FnRules_es hL
  obtain ⟨_, _, yer⟩ := FnRules_er hL
  obtain ⟨_, ymx⟩ := b4L hsh
  refine (a4G.2 W [] ⟨z0, FnRules_tab hL, yes, yer, ymx⟩ rfl List.nodup_nil).mono ?_
  rintro e W' ⟨_, _, rfl, L, _, _, hs⟩
  exact ⟨_, rfl, b1r b2F hW' rfl (by kernel_rfl) (by kernel_rfl) b2A rfl rfl rfl hs.below⟩
theorem FnRules_met (os : Os) : laidMet Tryz.prog Rows.fnRulesRow.laid ((tabWorld os).forCall (fun _ _ => 0) ⟨#[], #[.slice none 0 0], []⟩).memory :=
  laidMet_of_run' 100 (by kernel_rfl) (by kernel_rfl)
theorem FnRules_reads (os : Os) {H : Type} (enc : TypeId × Value → H) : ∃ x, DataW.whole enc Tryz.prog ((tabWorld os).forCall (fun _ _ => 0) ⟨#[], #[.slice none 0 0], []⟩).memory Tryz.f4.params.toList Rows.fnRulesSpec.vars false (#[.slice none 0 0] : Array Value).toList 8 = some x :=
  Option.isSome_iff_exists.1 (by kernel_rfl)
set_option maxRecDepth 100000 in
theorem FnRules_lifted (os : Os) (started : os.Started) (H : Type) (enc : TypeId × Value → H) (F : Stop.Interp) :
    ReturnsInHanded {} Tryz.checked os 4 .any ((OpenSpec.ofChange Rows.fnRulesSpec).preRow enc Tryz.prog Tryz.f4 Rows.fnRulesRow.domain false Rows.fnRulesRow.laid) (((OpenSpec.ofChange Rows.fnRulesSpec).at F).post enc Tryz.prog Tryz.f4 false true false false) := by
  obtain ⟨x, hx⟩ := FnRules_reads os enc
  refine returnsInHanded_of_row (C := Tryz.checked) (s := OpenSpec.ofChange Rows.fnRulesSpec) b3K started (by kernel_rfl) Tryz.func4
    (witness_row_at (enc := enc) (C := Tryz.checked) false (tabWorld os) #[.slice none 0 0] rfl (by kernel_rfl) (by kernel_rfl) (by kernel_rfl)
      (OpenSpec.preRow_of_cond 8 hx rfl (fun k hk => by cases hk) (by kernel_rfl) (FnRules_met os))) ?_
  intro W base args ds gs before hval hW _ _ _ hL hsh _
  exact FnRules_contract H enc W base args ds gs before hval hW hL hsh
theorem FnRules_said : Rows.FnRulesSaid :=
  OpenClaim.holds_of_cond 4 Tryz.f4 rfl rfl rfl rfl rfl rfl rfl ⟨rfl, rfl, rfl, rfl, rfl⟩ rfl rfl rfl rfl rfl (by kernel_rfl) Tryz.func4 (by kernel_rfl)
    (of_decide_eq_true (by kernel_rfl)) (by unfold Func.isWrapper; first | (rw [if_pos (by decide +kernel)]; kernel_rfl) | (rw [if_neg (by decide +kernel)]; exact ⟨rfl, rfl⟩))
    (fun os started H enc _ F => by rw [OpenClaim.pre_eq_preRow]; exact FnRules_lifted os started H enc F)
theorem FnRules_plain (f : FuncId) (fn : Func) (hf : Tryz.pinned.checked.prog.funcNamed "loop.example/g01989/laws.FnRules" = some f) (hfn : Tryz.pinned.checked.prog.funcs[f]? = some fn) :
    true = Tryz.pinned.checked.prog.looks [] ∧ ∀ (j : Nat) t, fn.params[j]? = some t → Tryz.pinned.checked.prog.wantsStandIn t = false := by
  obtain rfl : f = 4 := Option.some.inj ((show Tryz.prog.funcNamed "loop.example/g01989/laws.FnRules" = some 4 by kernel_rfl).symm.trans hf) |>.symm
  obtain rfl : fn = Tryz.f4 := (Option.some.inj (Tryz.func4.symm.trans hfn)).symm
  refine ⟨by kernel_rfl, fun j t ht => ?_⟩
  rw [Tryz.params4] at ht
  have hm := Array.mem_of_getElem? ht
  simp only [List.mem_toArray, List.mem_cons, List.not_mem_nil, or_false] at hm
  rcases hm with rfl
  · exact (show Tryz.prog.wantsStandIn 22 = false by kernel_rfl)
theorem FnRules_proved : Rows.FnRulesCardSaid :=
  Claim7.holds_tied_plain_at .later [] _ _ _ _ FnRules_said (fun _ h => by cases h) (by kernel_rfl) (fun _ h => by cases h) fnRules_row_tie rfl ⟨rfl, rfl⟩ (by kernel_rfl) rfl FnRules_plain (by kernel_rfl)
#print axioms FnRules_proved
end Go.Proofs.YtfnbilpemdgkkaaGreatDoor
