/- What is proved: for whatever arguments, the law returns true, and what the arguments read as is the same behind the call. The tables and the errors of the library that it comes to start as the program lays them (the card ties them). -/
import Derived.Test.YtmogfmnamhhbnaaDoorGs
import Derived.SevenTiedAt
import Derived.Test.YtmogfmnamhhbnaaDoorT111
namespace Go.Proofs.YtmogfmnamhhbnaaDoor
open Go.RowKit Go.ChangeShapes Go.WideShapes Go.ChangeAt
set_option linter.unusedVariables false
theorem FnExactParseRule_tab {W : World} (h : laidMetH Tryd.prog Rows.fnExactParseRuleRow.laid W) : RoPt W [] gPow powC := by
  have h' : laidMet Tryd.prog Rows.fnExactParseRuleRow.laid W := h
  exact roTab (Lib.tabIs_of_head (g := gPow) (t := 110) (e := 80) (n := 20) gPowIs (by kernel_rfl) Tryd.underlying110 Tryd.underlying80 (by kernel_rfl) (by kernel_rfl) (laidMet.tail (laidMet.tail h')))
theorem FnExactParseRule_es {W : World} (h : laidMetH Tryd.prog Rows.fnExactParseRuleRow.laid W) : ∃ te pe, RoPt W [] gES [.iface te pe] := by
  have h' : laidMet Tryd.prog Rows.fnExactParseRuleRow.laid W := h
  exact roErr (laidMet.tail (laidMet.tail (laidMet.tail (laidMet.tail (laidMet.tail h'))))) gESIs (by kernel_rfl)
theorem FnExactParseRule_er {W : World} (h : laidMetH Tryd.prog Rows.fnExactParseRuleRow.laid W) : ∃ te pe, RoPt W [] gER [.iface te pe] := by
  have h' : laidMet Tryd.prog Rows.fnExactParseRuleRow.laid W := h
  exact roErr (laidMet.tail (laidMet.tail (laidMet.tail (laidMet.tail h')))) gERIs (by kernel_rfl)
set_option maxRecDepth 100000 in
theorem FnExactParseRule_contract (H : Type) (enc : TypeId × Value → H) (W : World) (base : Nat) (args : Array Value) (ds gs : List (DataW H)) (before : List MemPlace)
    (hval : ∀ (j : Nat) t v, Tryd.f3.params[j]? = some t → args[j]? = some v → Value.okWide Tryd.prog W .any base t v)
    (hW : DataW.Whole enc Tryd.prog Tryd.f3.params.toList Rows.fnExactParseRuleSpec.vars false W args.toList ds gs before) (hL : laidMetH Tryd.prog Rows.fnExactParseRuleRow.laid W) (hsh : W.ShapedOpen Tryd.prog) :
    Calls Tryd.prog 3 args W fun e W' => ∃ v, e = .returned v ∧ Rows.fnExactParseRuleSpec.post enc Tryd.prog Tryd.f3 false true false false W args v W' := by
  have hW' := hW
  obtain ⟨p, q, hA0, hV, rfl, hfz, hnd⟩ := hW
  have hA : DataW.TrodAll enc Tryd.prog W 0 (fun _ => true) true Tryd.f3.params.toList args.toList ds p := hA0
  rw [Tryd.params3] at hA hval
  obtain ⟨v0, vs0, d0, ds0, p0, q0, hargs, rfl, rfl, h0, r0⟩ := trodAll_cons hA
  obtain ⟨v1, vs1, d1, ds1, p1, q1, rfl, rfl, rfl, h1, r1⟩ := trodAll_cons r0
  obtain ⟨rfl, rfl, rfl⟩ := trodAll_nil r1
  obtain rfl : args = #[v0, v1] := by cases args; simp_all
  obtain ⟨rfl, rfl⟩ := trodVars_none hV
  obtain ⟨a0, m0, c0, x0, rfl, z0⟩ := arg_sl op_Is us_Is (hval 0 22 v0 rfl rfl) h0
  obtain ⟨⟨⟨x1⟩⟩, rfl⟩ := okWide_string Tryd.underlying9 (hval 1 9 v1 rfl rfl)
  obtain ⟨_, _, yes⟩ := FnExactParseRule_es hL
  obtain ⟨_, _, yer⟩ := FnExactParseRule_er hL
  obtain ⟨_, ymx⟩ := roMax hsh
  refine (t_laws_FnExactParseRule.2 W [] ⟨z0, FnExactParseRule_tab hL, yes, yer, ymx⟩ rfl List.nodup_nil).mono ?_
  rintro e W' ⟨_, _, rfl, L, _, _, hs⟩
  exact ⟨_, rfl, law_post lawLaid hW' rfl (by kernel_rfl) (by kernel_rfl) lawBool rfl rfl rfl hs.below⟩
theorem FnExactParseRule_met (os : Os) : laidMet Tryd.prog Rows.fnExactParseRuleRow.laid ((tabWorld os).forCall (fun _ _ => 0) ⟨#[], #[.slice none 0 0, .string ⟨#[]⟩], []⟩).memory :=
  laidMet_of_run' 100 (by kernel_rfl) (by kernel_rfl)
theorem FnExactParseRule_reads (os : Os) {H : Type} (enc : TypeId × Value → H) : ∃ x, DataW.whole enc Tryd.prog ((tabWorld os).forCall (fun _ _ => 0) ⟨#[], #[.slice none 0 0, .string ⟨#[]⟩], []⟩).memory Tryd.f3.params.toList Rows.fnExactParseRuleSpec.vars false (#[.slice none 0 0, .string ⟨#[]⟩] : Array Value).toList 8 = some x :=
  Option.isSome_iff_exists.1 (by kernel_rfl)
set_option maxRecDepth 100000 in
theorem FnExactParseRule_lifted (os : Os) (started : os.Started) (H : Type) (enc : TypeId × Value → H) (F : Stop.Interp) :
    ReturnsInHanded {} Tryd.checked os 3 .any ((OpenSpec.ofChange Rows.fnExactParseRuleSpec).preRow enc Tryd.prog Tryd.f3 Rows.fnExactParseRuleRow.domain false Rows.fnExactParseRuleRow.laid) (((OpenSpec.ofChange Rows.fnExactParseRuleSpec).at F).post enc Tryd.prog Tryd.f3 false true false false) := by
  obtain ⟨x, hx⟩ := FnExactParseRule_reads os enc
  refine returnsInHanded_of_row (C := Tryd.checked) (s := OpenSpec.ofChange Rows.fnExactParseRuleSpec) lawOwn started (by kernel_rfl) Tryd.func3
    (witness_row_at (enc := enc) (C := Tryd.checked) false (tabWorld os) #[.slice none 0 0, .string ⟨#[]⟩] rfl (by kernel_rfl) (by kernel_rfl) (by kernel_rfl)
      (OpenSpec.preRow_of_cond 8 hx rfl (fun k hk => by cases hk) (by kernel_rfl) (FnExactParseRule_met os))) ?_
  intro W base args ds gs before hval hW _ _ _ hL hsh _
  exact FnExactParseRule_contract H enc W base args ds gs before hval hW hL hsh
theorem FnExactParseRule_said : Rows.FnExactParseRuleSaid :=
  OpenClaim.holds_of_cond 3 Tryd.f3 rfl rfl rfl rfl rfl rfl rfl ⟨rfl, rfl, rfl, rfl, rfl⟩ rfl rfl rfl rfl rfl (by kernel_rfl) Tryd.func3 (by kernel_rfl)
    (of_decide_eq_true (by kernel_rfl)) (by unfold Func.isWrapper; first | (rw [if_pos (by decide +kernel)]; kernel_rfl) | (rw [if_neg (by decide +kernel)]; exact ⟨rfl, rfl⟩))
    (fun os started H enc _ F => by rw [OpenClaim.pre_eq_preRow]; exact FnExactParseRule_lifted os started H enc F)
theorem FnExactParseRule_plain (f : FuncId) (fn : Func) (hf : Tryd.pinned.checked.prog.funcNamed "loop.example/g01989/laws.FnExactParseRule" = some f) (hfn : Tryd.pinned.checked.prog.funcs[f]? = some fn) :
    true = Tryd.pinned.checked.prog.looks [] ∧ ∀ (j : Nat) t, fn.params[j]? = some t → Tryd.pinned.checked.prog.wantsStandIn t = false := by
  obtain rfl : f = 3 := Option.some.inj ((show Tryd.prog.funcNamed "loop.example/g01989/laws.FnExactParseRule" = some 3 by kernel_rfl).symm.trans hf) |>.symm
  obtain rfl : fn = Tryd.f3 := (Option.some.inj (Tryd.func3.symm.trans hfn)).symm
  refine ⟨by kernel_rfl, fun j t ht => ?_⟩
  rw [Tryd.params3] at ht
  have hm := Array.mem_of_getElem? ht
  simp only [List.mem_toArray, List.mem_cons, List.not_mem_nil, or_false] at hm
  rcases hm with rfl | rfl
  · exact (show Tryd.prog.wantsStandIn 22 = false by kernel_rfl)
  · exact (show Tryd.prog.wantsStandIn 9 = false by kernel_rfl)
theorem FnExactParseRule_proved : Rows.FnExactParseRuleCardSaid :=
  Claim7.holds_tied_plain_at .later [] _ _ _ _ FnExactParseRule_said (fun _ h => by cases h) (by kernel_rfl) (fun _ h => by cases h) fnExactParseRule_row_tie rfl ⟨rfl, rfl⟩ (by kernel_rfl) rfl FnExactParseRule_plain (by kernel_rfl)
#print axioms FnExactParseRule_proved
end Go.Proofs.YtmogfmnamhhbnaaDoor
