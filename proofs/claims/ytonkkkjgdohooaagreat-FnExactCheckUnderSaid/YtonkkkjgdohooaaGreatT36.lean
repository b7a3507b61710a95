import Derived.Test.YtonkkkjgdohooaaGreatBs
import Derived.Test.YtonkkkjgdohooaaGreatT13
import Derived.Test.YtonkkkjgdohooaaGreatT10
import Derived.Test.YtonkkkjgdohooaaGreatDx
namespace Go.Proofs.YtonkkkjgdohooaaGreat
open Go.RowKit
set_option linter.unusedVariables false
set_option linter.unusedSimpArgs false
set_option maxHeartbeats 2000000
attribute [local irreducible] Nop Yd Yp Ent Has Tr FnP FnP2 Src listsF opnF opn1 opnR chainB
theorem t_spec_l5Fits {m_Rel : Int} {a_m_Inputs : Option Addr} {m_m_Inputs c_m_Inputs : Nat} {m_Inputs : List Int} {m_Limit : Int} {m_Cost : Int} {m_Quota : Int} {a_values : Option Addr} {m_values c_values : Nat} {values : List Int} {f_Rel : Int} {a_f_Values : Option Addr} {m_f_Values c_f_Values : Nat} {f_Values : List Int} (hv : m_Inputs.length ≤ values.length) (hi : f_Rel = m_Rel → ∀ i ∈ m_Inputs, 0 ≤ i ∧ i < f_Values.length) : Tr Tryz.prog 273 [.agg #[.int .i64 m_Rel, .slice a_m_Inputs m_m_Inputs c_m_Inputs, .int .i64 m_Limit, .int .i64 m_Cost, .int .i64 m_Quota], .slice a_values m_values c_values, .agg #[.int .i64 f_Rel, .slice a_f_Values m_f_Values c_f_Values]] (fun w L => I64 m_Rel ∧ Ro w L eIs [.slice a_m_Inputs m_m_Inputs c_m_Inputs] m_Inputs ∧ I64 m_Limit ∧ I64 m_Cost ∧ I64 m_Quota ∧ Ro w L eIs [.slice a_values m_values c_values] values ∧ I64 f_Rel ∧ Ro w L eIs [.slice a_f_Values m_f_Values c_f_Values] f_Values) [] (κ := Unit) (fun k => True) (fun k => .bool (fitsF (m_Rel, m_Inputs, m_Limit, m_Cost, m_Quota) values (f_Rel, f_Values))) (fun k => []) := by
  refine Tr.intro Tryz.func273 rfl (n := 34) rfl (by decide +kernel) bl (fr := [(0, .agg #[.int .i64 m_Rel, .slice a_m_Inputs m_m_Inputs c_m_Inputs, .int .i64 m_Limit, .int .i64 m_Cost, .int .i64 m_Quota]), (1, .slice a_values m_values c_values), (2, .agg #[.int .i64 f_Rel, .slice a_f_Values m_f_Values c_f_Values])]) rfl fun w L hR => ?_
  obtain ⟨i6m_Rel, hm_Inputs, i6m_Limit, i6m_Cost, i6m_Quota, hvalues, i6f_Rel, hf_Values⟩ := hR
  obtain ⟨rfl, lm_Inputs⟩ := hm_Inputs.slen
  obtain ⟨rfl, lvalues⟩ := hvalues.slen
  obtain ⟨rfl, lf_Values⟩ := hf_Values.slen
  refine Ew Z3 (Est rfl (N.box (cs := [_, _, _, _, _]) rfl dc rfl) (fun b3 _ => (Est rfl (N.box (cs := [_, _]) rfl dc rfl) (fun b5 _ => (Eas rfl rfl (Eu (Eq_ (Ew Z5 (Ey rfl ((Y.fld fo_Fact_0 ty_I dc rfl).yd) (Ey rfl (Y.ld1 ty_I rfl ((Has.pt m0).sub (cs' := [_]) 0 rfl) rfl) (Ey rfl ((Y.fld fo_Method_0 ty_I dc rfl).yd) (Ey rfl (Y.ld1 ty_I rfl ((Has.pt (mS m0)).sub (cs' := [_]) 0 rfl) rfl) (Ey rfl ((Y.neq rfl rfl).yd) (Ent.d (fun q12 => ?_) (fun q12 => ?_)))))))))))))))
  · refine Eu (E.ct rfl (Ew Z1 (Eas rfl rfl ?_)))
    exact Eu (E.ret (E.thr (Fb rfl rfl (by grind [fitsF, zall_step, zall_end, fitP, at0_get, d1, d2, t1, t2]))))
  · refine Eu (E.cf rfl (E.skipc (Et (Eq_ (Ew Z1 (Eas rfl rfl (Eu (E.block (E.loop (κ := Nat) (fun g => g ≤ m_Inputs.length ∧ (m_Inputs.zip values).all (fitP f_Values) = ((m_Inputs.zip values).drop g).all (fitP f_Values)) (fun g => [(1, .slice a_values values.length c_values), (3, .pointer (some ⟨b3, 0, none⟩)), (5, .pointer (some ⟨b5, 0, none⟩)), (7, .int .i64 (g : Int))]) (fun g => [pt b5 132 [.int .i64 f_Rel, .slice a_f_Values f_Values.length c_f_Values], pt b3 130 [.int .i64 m_Rel, .slice a_m_Inputs m_Inputs.length c_m_Inputs, .int .i64 m_Limit, .int .i64 m_Cost, .int .i64 m_Quota]]) (fun g => m_Inputs.length - g) 0 ⟨Nat.zero_le _, by simp⟩ ⟨rfl, rfl, rfl, rfl, trivial⟩ (.refl _) (fun g pg => ?_))))))))))
    obtain ⟨pk, pa⟩ := pg
    refine Eq_ (Ew Z5 (Emv rfl rfl (Ey rfl ((Y.fld fo_Method_1 ty_Is dc rfl).yd) (Ey rfl (Y.ld1 ty_Is rfl ((Has.pt (mS m0)).sub (cs' := [_]) 1 rfl) rfl) (Ey rfl ((Y.len us_Is rfl).yd) (Ey rfl ((Y.lss rfl rfl).yd) (Ent.d (fun q17 => ?_) (fun q17 => ?_))))))))
    · have hi1 := hi om m_Inputs[g] (List.getElem_mem om)
      refine Eu (E.ct rfl (E.skipc (Et (Eq_ (E.block (Eq_ (D.region (fun j => true) mixed (Dyp 0 rfl (Y.fld fo_Fact_1 ty_Is dc rfl) (Dy 1 rfl (Y.ld1 ty_Is rfl ((Has.pt m0).sub (cs' := [_]) 1 rfl) rfl) (Dyp 2 rfl (Y.fld fo_Method_1 ty_Is dc rfl) (Dy 3 rfl (Y.ld1 ty_Is rfl ((Has.pt (mS m0)).sub (cs' := [_]) 1 rfl) rfl) (Dyp 4 rfl (Y.mv rfl) ?_))))))))))))
      obtain ⟨eb25, eo25, ea25, ei25, eh25⟩ := hm_Inputs.elemI g om
      refine Dyp 5 rfl (Y.ix us_Is ty_I rfl ea25 rfl g rfl om) (Dy 6 rfl (Y.ld1 ty_I rfl (eh25 _) rfl) ?_)
      obtain ⟨eb27, eo27, ea27, ei27, eh27⟩ := hf_Values.elemI m_Inputs[g].toNat om
      refine Dyp 7 rfl (Y.ix us_Is ty_I rfl ea27 rfl m_Inputs[g].toNat om om) (Dy 8 rfl (Y.ld1 ty_I rfl (eh27 _) rfl) (Dyp 9 rfl (Y.mv rfl) (Dyp 10 rfl (Y.mv rfl) ?_)))
      obtain ⟨eb31, eo31, ea31, ei31, eh31⟩ := hvalues.elemI g om
      refine Dyp 11 rfl (Y.ix us_Is ty_I rfl ea31 rfl g rfl om) (Dy 12 rfl (Y.ld1 ty_I rfl (eh31 _) rfl) (Dyp 13 rfl (Y.neq rfl rfl) (Ent.d (fun q33 => ?_) (fun q33 => ?_))))
      · refine D.done kr (Et (E.ct rfl (Ew Z1 (Eas rfl rfl ?_))))
        exact Eu (E.ret (E.blr (E.thr (E.thr (E.blr (E.thr (Fb rfl rfl (by grind [fitsF, zall_step, zall_end, fitP, at0_get, d1, d2, t1, t2]))))))))
      · refine D.done kr (Et (E.cf rfl (E.skipc (E.bln (Et (Ez Z3 (Emv rfl rfl (Ey rfl ((Y.add rfl rfl om om).yd) (Eas rfl rfl (Eu (Ent.p1 (Ent.p1 ?_))))))))))))
        exact E.again br (g + 1) ⟨rfl, rfl, rfl, rfl, trivial⟩ (.refl _) ⟨by omega, by grind [zall_step, fitP, at0_get, d1, d2, t1, t2]⟩ om
    · refine Eu (E.cf rfl (E.exit (E.the (E.the (E.blh (Et (Ew Z1 (Eas rfl rfl ?_))))))))
      exact Eu (E.ret (Fb rfl rfl (by grind [fitsF, zall_step, zall_end, fitP, at0_get, d1, d2, t1, t2])))
theorem t_impl_matches_1 {f_Rel : Int} {a_f_Values : Option Addr} {m_f_Values c_f_Values : Nat} {f_Values : List Int} {b_m : Nat} {m_Rel : Int} {a_m_Inputs : Option Addr} {m_m_Inputs c_m_Inputs : Nat} {m_Inputs : List Int} {m_Limit : Int} {m_Cost : Int} {m_Quota : Int} {b_a : Nat} {a_Method : Int} {a_a_Values : Option Addr} {m_a_Values c_a_Values : Nat} {a_Values : List Int} (hv : m_Inputs.length ≤ a_Values.length) (hi : f_Rel = m_Rel → ∀ i ∈ m_Inputs, 0 ≤ i ∧ i < f_Values.length) : Tr Tryz.prog 276 [.agg #[.int .i64 f_Rel, .slice a_f_Values m_f_Values c_f_Values], .pointer (some ⟨b_m, 0, none⟩), .pointer (some ⟨b_a, 0, none⟩)] (fun w L => (I64 f_Rel ∧ Ro w L eIs [.slice a_f_Values m_f_Values c_f_Values] f_Values) ∧ RoPt w L b_m [.int .i64 m_Rel, .slice a_m_Inputs m_m_Inputs c_m_Inputs, .int .i64 m_Limit, .int .i64 m_Cost, .int .i64 m_Quota] ∧ I64 m_Rel ∧ Ro w L eIs [.slice a_m_Inputs m_m_Inputs c_m_Inputs] m_Inputs ∧ I64 m_Limit ∧ I64 m_Cost ∧ I64 m_Quota ∧ RoPt w L b_a [.int .i64 a_Method, .slice a_a_Values m_a_Values c_a_Values] ∧ I64 a_Method ∧ Ro w L eIs [.slice a_a_Values m_a_Values c_a_Values] a_Values) [] (κ := Unit) (fun k => True) (fun k => .bool (!fitsF (m_Rel, m_Inputs, m_Limit, m_Cost, m_Quota) a_Values (f_Rel, f_Values))) (fun k => []) := by
  refine Tr.intro Tryz.func276 rfl (n := 32) rfl (by decide +kernel) bl (fr := [(0, .agg #[.int .i64 f_Rel, .slice a_f_Values m_f_Values c_f_Values]), (1, .pointer (some ⟨b_m, 0, none⟩)), (2, .pointer (some ⟨b_a, 0, none⟩))]) rfl fun w L hR => ?_
  obtain ⟨⟨i6f_Rel, hf_Values⟩, hb_m, i6m_Rel, hm_Inputs, i6m_Limit, i6m_Cost, i6m_Quota, hb_a, i6a_Method, ha_Values⟩ := hR
  obtain ⟨rfl, lf_Values⟩ := hf_Values.slen
  obtain ⟨rfl, lm_Inputs⟩ := hm_Inputs.slen
  obtain ⟨rfl, la_Values⟩ := ha_Values.slen
  refine Ew Z2 (Est rfl (N.box (cs := [_, _]) rfl dc rfl) (fun b3 _ => (Eas rfl rfl (Eu (Eq_ (Ew Z5 (Ey rfl ((Y.fld fo_Fact_0 ty_I dc rfl).yd) (Ey rfl (Y.ld1 ty_I rfl ((Has.pt m0).sub (cs' := [_]) 0 rfl) rfl) (Ey rfl ((Y.fld fo_Method_0 ty_I dc rfl).yd) (Ey rfl (Y.ld1 ty_I rfl ((hb_m.has).sub (cs' := [_]) 0 rfl) rfl) (Ey rfl ((Y.neq rfl rfl).yd) (Ent.d (fun q11 => ?_) (fun q11 => ?_)))))))))))))
  · refine Eu (E.ct rfl (Ew Z1 (Eas rfl rfl ?_)))
    exact Eu (E.ret (E.thr (Fb rfl rfl (by grind [fitsF, zall_step, zall_end, fitP, at0_get, d1, d2, t1, t2]))))
  · refine Eu (E.cf rfl (E.skipc (Et (Eq_ (Ew Z4 (Ey rfl ((Y.fld fo_Method_1 ty_Is dc rfl).yd) (Ey rfl (Y.ld1 ty_Is rfl ((hb_m.has).sub (cs' := [_]) 1 rfl) rfl) (Ey rfl ((Y.len us_Is rfl).yd) (Emv rfl rfl (Eu (E.block (E.loop (κ := Nat) (fun g => g ≤ m_Inputs.length ∧ (m_Inputs.zip a_Values).all (fitP f_Values) = ((m_Inputs.zip a_Values).drop g).all (fitP f_Values)) (fun g => [(2, .pointer (some ⟨b_a, 0, none⟩)), (3, .pointer (some ⟨b3, 0, none⟩)), (13, .slice a_m_Inputs m_Inputs.length c_m_Inputs), (14, .int .i64 (↑m_Inputs.length : Int)), (15, .int .i64 (g : Int))]) (fun g => [pt b3 132 [.int .i64 f_Rel, .slice a_f_Values f_Values.length c_f_Values]]) (fun g => m_Inputs.length - g) 0 ⟨Nat.zero_le _, by simp⟩ ⟨rfl, rfl, rfl, rfl, rfl, trivial⟩ (.refl _) (fun g pg => ?_)))))))))))))
    obtain ⟨pk, pa⟩ := pg
    refine Ew Z1 (Ey rfl ((Y.lss rfl rfl).yd) (Ent.d (fun q16 => ?_) (fun q16 => ?_)))
    · have hi1 := hi om m_Inputs[g] (List.getElem_mem om)
      refine Eu (Eq_ (E.ct rfl (E.skipc (Et (Eq_ (E.block (Ew Z5 (Emv rfl rfl ?_))))))))
      obtain ⟨eb18, eo18, ea18, ei18, eh18⟩ := hm_Inputs.elemI g om
      refine Ey rfl ((Y.ix us_Is ty_I rfl ea18 rfl g rfl om).yd) (Ey rfl (Y.ld1 ty_I rfl (eh18 _) rfl) (Eas rfl rfl (Eas rfl rfl (Eu (Eq_ (D.region (fun j => true) mixed (Dyp 0 rfl (Y.fld fo_Fact_1 ty_Is dc rfl) (Dy 1 rfl (Y.ld1 ty_Is rfl ((Has.pt m0).sub (cs' := [_]) 1 rfl) rfl) (Dyp 2 rfl (Y.mv rfl) ?_)))))))))
      obtain ⟨eb23, eo23, ea23, ei23, eh23⟩ := hf_Values.elemI m_Inputs[g].toNat om
      refine Dyp 3 rfl (Y.ix us_Is ty_I rfl ea23 rfl m_Inputs[g].toNat om om) (Dy 4 rfl (Y.ld1 ty_I rfl (eh23 _) rfl) (Dyp 5 rfl (Y.fld fo_Access_1 ty_Is dc rfl) (Dy 6 rfl (Y.ld1 ty_Is rfl ((hb_a.has).sub (cs' := [_]) 1 rfl) rfl) (Dyp 7 rfl (Y.mv rfl) ?_))))
      obtain ⟨eb28, eo28, ea28, ei28, eh28⟩ := ha_Values.elemI g om
      refine Dyp 8 rfl (Y.ix us_Is ty_I rfl ea28 rfl g rfl om) (Dy 9 rfl (Y.ld1 ty_I rfl (eh28 _) rfl) (Dyp 10 rfl (Y.neq rfl rfl) (Ent.d (fun q30 => ?_) (fun q30 => ?_))))
      · refine D.done kr (Et (E.ct rfl (Ew Z1 (Eas rfl rfl ?_))))
        exact Eu (E.ret (E.blr (E.thr (E.thr (E.blr (E.thr (Fb rfl rfl (by grind [fitsF, zall_step, zall_end, fitP, at0_get, d1, d2, t1, t2]))))))))
      · refine D.done kr (Et (E.cf rfl (E.skipc (E.bln (Et (Ez Z2 (Ey rfl ((Y.add rfl rfl om om).yd) (Emv rfl rfl ?_))))))))
        exact Eu (E.again br (g + 1) ⟨rfl, rfl, rfl, rfl, rfl, trivial⟩ (.refl _) ⟨by omega, by grind [zall_step, fitP, at0_get, d1, d2, t1, t2]⟩ om)
    · refine Eu (Eq_ (E.cf rfl (E.exit (E.the (E.the (E.blh (Et (Ew Z1 (Eas rfl rfl ?_)))))))))
      exact Eu (E.ret (Fb rfl rfl (by grind [fitsF, zall_step, zall_end, fitP, at0_get, d1, d2, t1, t2])))
theorem t_spec_l5Matches {m_Rel : Int} {a_m_Inputs : Option Addr} {m_m_Inputs c_m_Inputs : Nat} {m_Inputs : List Int} {m_Limit : Int} {m_Cost : Int} {m_Quota : Int} {a_values : Option Addr} {m_values c_values : Nat} {values : List Int} {a_facts : Option Addr} {m_facts c_facts : Nat} {facts : List (Int × List Int)} (hv : m_Inputs.length ≤ values.length) (hif : ∀ f ∈ facts, f.1 = m_Rel → ∀ i ∈ m_Inputs, 0 ≤ i ∧ i < f.2.length) (hfl : facts.length ≤ 1048576) (hfe : ∀ f ∈ facts, f.2.length ≤ 1048576) : Tr Tryz.prog 177 [.agg #[.int .i64 m_Rel, .slice a_m_Inputs m_m_Inputs c_m_Inputs, .int .i64 m_Limit, .int .i64 m_Cost, .int .i64 m_Quota], .slice a_values m_values c_values, .slice a_facts m_facts c_facts] (fun w L => I64 m_Rel ∧ Ro w L eIs [.slice a_m_Inputs m_m_Inputs c_m_Inputs] m_Inputs ∧ I64 m_Limit ∧ I64 m_Cost ∧ I64 m_Quota ∧ Ro w L eIs [.slice a_values m_values c_values] values ∧ Ro w L eFacts [.slice a_facts m_facts c_facts] facts) [] (κ := Option Addr × Nat × Nat) (fun k => True) (fun k => .slice k.1 k.2.1 k.2.2) (fun k => [ow eFacts [.slice k.1 k.2.1 k.2.2] (facts.filter (fitsF (m_Rel, m_Inputs, m_Limit, m_Cost, m_Quota) values))]) := by
  refine Tr.intro Tryz.func177 rfl (n := 38) rfl (by decide +kernel) bl (fr := [(0, .agg #[.int .i64 m_Rel, .slice a_m_Inputs m_m_Inputs c_m_Inputs, .int .i64 m_Limit, .int .i64 m_Cost, .int .i64 m_Quota]), (1, .slice a_values m_values c_values), (2, .slice a_facts m_facts c_facts)]) rfl fun w L hR => ?_
  obtain ⟨i6m_Rel, hm_Inputs, i6m_Limit, i6m_Cost, i6m_Quota, hvalues, hfacts⟩ := hR
  obtain ⟨rfl, lm_Inputs⟩ := hm_Inputs.slen
  obtain ⟨rfl, lvalues⟩ := hvalues.slen
  obtain ⟨rfl, lfacts⟩ := hfacts.slen
  refine Ew Z2 (Est rfl (N.box (cs := [_, _, _, _, _]) rfl dc rfl) (fun b3 _ => (Eas rfl rfl (Ev Z2 (Est rfl (N.bsl (pvs := []) (cs := []) us_Facts ty_Fact rfl dc dc (fillZ rfl rfl) rfl dc) (fun b9 _ => (Ent.drop (Eas rfl rfl (Eu (Eq_ (Ew Z1 (Eas rfl rfl (Eu (E.block (Ent.mkow (A := []) (Own.nil (E := eFact) (e := tFact) (a := (some ⟨b9, 0, none⟩))) rfl (Ent.cv (congrArg (ow eFacts [_]) (show [] = (facts.take 0).filter (fitsF (m_Rel, m_Inputs, m_Limit, m_Cost, m_Quota) values) from by first | rfl | (simp; done) | grind [d1, d2, t1, t2])) (E.loop (κ := Nat × Option Addr × Nat × Nat) (fun g => g.1 ≤ facts.length ∧ True) (fun g => [(1, .slice a_values values.length c_values), (2, .slice a_facts facts.length c_facts), (3, .pointer (some ⟨b3, 0, none⟩)), (7, .slice g.2.1 g.2.2.1 g.2.2.2), (8, .int .i64 (↑g.1 : Int))]) (fun g => [ow eFacts [.slice g.2.1 g.2.2.1 g.2.2.2] ((facts.take g.1).filter (fitsF (m_Rel, m_Inputs, m_Limit, m_Cost, m_Quota) values)), pt b3 130 [.int .i64 m_Rel, .slice a_m_Inputs m_Inputs.length c_m_Inputs, .int .i64 m_Limit, .int .i64 m_Cost, .int .i64 m_Quota]]) (fun g => facts.length - g.1) (0, (some ⟨b9, 0, none⟩), 0, 0) ⟨Nat.zero_le _, by simp⟩ ⟨rfl, rfl, rfl, rfl, rfl, trivial⟩ (.refl _) (fun g pg => ?_))))))))))))))))))
  obtain ⟨g, aA0_0, mA0_0, cA0_0⟩ := g
  try dsimp only at pg
  try dsimp only
  obtain ⟨pk, pa⟩ := pg
  have jf := List.length_filter_le (fitsF (m_Rel, m_Inputs, m_Limit, m_Cost, m_Quota) values) (facts.take g)
  have jt := List.length_take_le g facts
  refine Ent.lenow m0 fun eaA0_0 laA0_0 => ?_
  subst eaA0_0
  refine Eq_ (Ew Z4 (Emv rfl rfl (Emv rfl rfl (Ey rfl ((Y.len us_Facts rfl).yd) (Ey rfl ((Y.lss rfl rfl).yd) (Ent.d (fun q13 => ?_) (fun q13 => ?_)))))))
  · refine Eu (E.ct rfl (E.skipc (Et (Eq_ (E.block (Eq_ (D.region (fun j => true) mixed (Dy 0 rfl (Y.ldS (cs := [_, _, _, _, _]) ty_Method rfl (Has.pt (mS m0)) rfl) (Dyp 1 rfl (Y.mv rfl) (Dyp 2 rfl (Y.mv rfl) (Dyp 3 rfl (Y.mv rfl) ?_)))))))))))
    obtain ⟨eb20, eo20, ec20, ea20, er20, el20, eh20⟩ := hfacts.elem g om
    obtain ⟨xa20_0, xc20_0, rfl, ei20_0, xh20_0⟩ := Ro.pFact er20
    have := xh20_0.slen.2
    refine Dyp 4 rfl (Y.ix us_Facts ty_Fact rfl ea20 rfl g rfl om) (Dy 5 rfl (Y.ldS (cs := [_, _]) ty_Fact rfl (eh20 _) rfl) (D.st 6 rfl rfl kr (fun _ => rfl) (N.call0 (t_spec_l5Fits hv (hif _ (List.getElem_mem om))) rfl rfl rfl dc (fun w Lp hA => ⟨i6m_Rel, hA.ro hm_Inputs, i6m_Limit, i6m_Cost, i6m_Quota, hA.ro hvalues, ei20_0, hA.ro xh20_0⟩)) (fun _ _ => (Ent.b (fun q22 => ?_) (fun q22 => ?_)))))
    · refine D.done kr (Et (E.ct rfl (D.region (fun j => !(Nat.beq j 13)) mixed (Dyp 0 rfl (Y.mv rfl) (Dyp 1 rfl (Y.mv rfl) (Dyp 2 rfl (Y.mv rfl) (Dyp 3 rfl (Y.ix us_Facts ty_Fact rfl ea20 rfl g rfl om) (Dyp 4 rfl (Y.fld fo_Fact_0 ty_I dc rfl) (Dy 5 rfl (Y.ld1 ty_I rfl ((eh20 _).sub (cs' := [_]) 0 rfl) rfl) (Dyp 6 rfl (Y.mv rfl) (Dyp 7 rfl (Y.mv rfl) (Dyp 8 rfl (Y.ix us_Facts ty_Fact rfl ea20 rfl g rfl om) (Dyp 9 rfl (Y.fld fo_Fact_1 ty_Is dc rfl) (Dy 10 rfl (Y.ld1 ty_Is rfl ((eh20 _).sub (cs' := [_]) 1 rfl) rfl) (D.st 11 rfl rfl kr (fun _ => rfl) (N.call (t_spec_l2One (hfe _ (List.getElem_mem om))) rfl rfl rfl dc rfl (fun w Lp hA => ⟨ei20_0, hA.ro xh20_0⟩)) (fun k34 _ => ?_))))))))))))))))
      obtain ⟨a34, m34, c34⟩ := k34
      refine Ent.lenow m0 fun e34 l34 => ?_
      subst e34
      refine D.st 12 rfl rfl kr (fun _ => rfl) (N.bsl (pvs := [_]) (cs := [_, _]) us_Facts ty_Fact rfl dc dc (fillZ rfl rfl) rfl dc) (fun b35 _ => (Ent.p1 (Ent.p1 (Ent.p2 (D.st 13 rfl rfl kr (fun h => by cases h) (N.push (E := eFact) (ex := facts[g]) us_Facts ty_Fact rfl rfl rfl (Own.mkFact (x := facts[g]) ei20_0 Own.ow) rfl bn bn dc) (fun p36 _ => (Dyp 14 rfl (Y.as rfl) (D.done kr (E.bln (Et (Ez Z3 (Emv rfl rfl (Ey rfl ((Y.add rfl rfl om om).yd) (Eas rfl rfl (Eu (Ent.cv (congrArg (ow eFacts [_]) (show ((facts.take g).filter (fitsF (m_Rel, m_Inputs, m_Limit, m_Cost, m_Quota) values)) ++ [facts[g]] = (facts.take (g + 1)).filter (fitsF (m_Rel, m_Inputs, m_Limit, m_Cost, m_Quota) values) from by grind [d1, d2, t1, t2])) (Ent.p1 (Ent.p1 ?_))))))))))))))))))
      exact E.again br (g + 1, p36.1, (((facts.take g).filter (fitsF (m_Rel, m_Inputs, m_Limit, m_Cost, m_Quota) values)).length + 1), p36.2) ⟨rfl, rfl, rfl, rfl, rfl, trivial⟩ (.refl _) ⟨(show g + 1 ≤ facts.length from by omega), trivial⟩ (show facts.length - (g + 1) < facts.length - g from by omega)
    · refine D.done kr (Et (E.cf rfl (E.skipc (E.bln (Et (Ez Z3 (Emv rfl rfl (Ey rfl ((Y.add rfl rfl om om).yd) (Eas rfl rfl (Eu (Ent.cv (congrArg (ow eFacts [_]) (show (facts.take g).filter (fitsF (m_Rel, m_Inputs, m_Limit, m_Cost, m_Quota) values) = (facts.take (g + 1)).filter (fitsF (m_Rel, m_Inputs, m_Limit, m_Cost, m_Quota) values) from by grind [d1, d2, t1, t2])) (Ent.p1 (Ent.p1 ?_)))))))))))))
      exact E.again br (g + 1, aA0_0, ((facts.take g).filter (fitsF (m_Rel, m_Inputs, m_Limit, m_Cost, m_Quota) values)).length, cA0_0) ⟨rfl, rfl, rfl, rfl, rfl, trivial⟩ (.refl _) ⟨(show g + 1 ≤ facts.length from by omega), trivial⟩ (show facts.length - (g + 1) < facts.length - g from by omega)
  · refine Eu (E.cf rfl (E.exit (E.the (E.the (E.blh (Et (Ew Z2 (Emv rfl rfl (Eas rfl rfl (Eu (E.ret (Ent.cv (congrArg (ow eFacts [_]) (show _ = facts.filter (fitsF (m_Rel, m_Inputs, m_Limit, m_Cost, m_Quota) values) by grind [d1, d2, t1, t2])) ?_))))))))))))
    exact Fg rfl rfl (_, _, _) rfl rfl
end Go.Proofs.YtonkkkjgdohooaaGreat
