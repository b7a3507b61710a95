import Derived.Test.YtonkkkjgdohooaaGreatBs
import Derived.Test.YtonkkkjgdohooaaGreatT67
import Derived.Test.YtonkkkjgdohooaaGreatT1
import Derived.Test.YtonkkkjgdohooaaGreatBc
import Derived.Test.YtonkkkjgdohooaaGreatT5
namespace Go.Proofs.YtonkkkjgdohooaaGreat
open Go.RowKit
set_option linter.unusedVariables false
set_option linter.unusedSimpArgs false
set_option maxHeartbeats 2000000
attribute [local irreducible] Nop Yd Yp Ent Has Tr FnP FnP2 Src listsF opnF opn1 opnR chainB uFin
theorem t_laws_szCertificate {a_a_All : Option Addr} {m_a_All c_a_All : Nat} {a_All : List (Int × List Int)} {a_a_Some : Option Addr} {m_a_Some c_a_Some : Nat} {a_Some : List (Int × List Int)} {a_a_Tuple : Option Addr} {m_a_Tuple c_a_Tuple : Nat} {a_Tuple : List Int} {left : Int} : Tr Tryz.prog 66 [.agg #[.slice a_a_All m_a_All c_a_All, .slice a_a_Some m_a_Some c_a_Some, .slice a_a_Tuple m_a_Tuple c_a_Tuple], .int .i64 left] (fun w L => Ro w L eFacts [.slice a_a_All m_a_All c_a_All] a_All ∧ Ro w L eFacts [.slice a_a_Some m_a_Some c_a_Some] a_Some ∧ Ro w L eIs [.slice a_a_Tuple m_a_Tuple c_a_Tuple] a_Tuple ∧ 0 ≤ left ∧ left ≤ 1048576) [] (κ := Unit) (fun k => True) (fun k => .int .i64 (szR (totL (fun x => x.2.length) a_All + totL (fun x => x.2.length) a_Some + a_Tuple.length) left)) (fun k => []) := by
  refine Tr.intro Tryz.func66 rfl (n := 24) rfl (by decide +kernel) bl (fr := [(0, .agg #[.slice a_a_All m_a_All c_a_All, .slice a_a_Some m_a_Some c_a_Some, .slice a_a_Tuple m_a_Tuple c_a_Tuple]), (1, .int .i64 left)]) rfl fun w L hR => ?_
  obtain ⟨ha_All, ha_Some, ha_Tuple, as0, as1⟩ := hR
  obtain ⟨rfl, la_All⟩ := ha_All.slen
  obtain ⟨rfl, la_Some⟩ := ha_Some.slen
  obtain ⟨rfl, la_Tuple⟩ := ha_Tuple.slen
  refine Ew Z2 (Est rfl (N.box (cs := [_, _, _]) rfl dc rfl) (fun b2 _ => (Eas rfl rfl (Ev Z5 (Ey rfl ((Y.fld fo_lCertificate_0 ty_lFacts dc rfl).yd) (Ey rfl (Y.ld1 ty_lFacts rfl ((Has.pt m0).sub (cs' := [_]) 0 rfl) rfl) (Emv rfl rfl (Est rfl (N.call0 t_laws_szFactS rfl rfl rfl dc (fun w Lp hA => ⟨hA.ro ha_All, (by first | assumption | omega), (by first | assumption | omega)⟩)) (fun _ _ => (Eas rfl rfl (Eu (Eq_ (Ew Z2 (Emv rfl rfl (Ey rfl ((Y.lss rfl rfl).yd) (Ent.d (fun q10 => ?_) (fun q10 => ?_)))))))))))))))))
  · have z10 := szR_bad q10 om
    refine Eu (E.ct rfl (Ew Z1 (Eas rfl rfl ?_)))
    exact Eu (E.ret (E.thr (Fg rfl rfl () (congrArg (Value.int .i64) (by unfold szR; split <;> omega)) rfl)))
  · obtain ⟨z10, y10⟩ := szR_ok q10 om
    refine Eu (E.cf rfl (E.skipc (Et (Ew Z5 (Ey rfl ((Y.fld fo_lCertificate_1 ty_lFacts dc rfl).yd) (Ey rfl (Y.ld1 ty_lFacts rfl ((Has.pt m0).sub (cs' := [_]) 1 rfl) rfl) (Emv rfl rfl (Est rfl (N.call0 t_laws_szFactS rfl rfl rfl dc (fun w Lp hA => ⟨hA.ro ha_Some, (by first | assumption | omega), (by first | assumption | omega)⟩)) (fun _ _ => (Eas rfl rfl (Eu (Eq_ (Ew Z2 (Emv rfl rfl (Ey rfl ((Y.lss rfl rfl).yd) (Ent.d (fun q16 => ?_) (fun q16 => ?_)))))))))))))))))
    · have z16 := szR_bad q16 om
      refine Eu (E.ct rfl (Ew Z1 (Eas rfl rfl ?_)))
      exact Eu (E.ret (E.thr (Fg rfl rfl () (congrArg (Value.int .i64) (by unfold szR; split <;> omega)) rfl)))
    · obtain ⟨z16, y16⟩ := szR_ok q16 om
      refine Eu (E.cf rfl (E.skipc (Et (Ew Z5 (Ey rfl ((Y.fld fo_lCertificate_2 ty_Is dc rfl).yd) (Ey rfl (Y.ld1 ty_Is rfl ((Has.pt m0).sub (cs' := [_]) 2 rfl) rfl) (Emv rfl rfl (Est rfl (N.call0 t_laws_szIntS rfl rfl rfl dc (fun w Lp hA => ⟨hA.ro ha_Tuple, (by first | assumption | omega), (by first | assumption | omega)⟩)) (fun _ _ => (Eas rfl rfl (Eu (Eq_ (Ew Z2 (Emv rfl rfl (Ey rfl ((Y.lss rfl rfl).yd) (Ent.d (fun q22 => ?_) (fun q22 => ?_)))))))))))))))))
      · have z22 := szR_bad q22 om
        refine Eu (E.ct rfl (Ew Z1 (Eas rfl rfl ?_)))
        exact Eu (E.ret (E.thr (Fg rfl rfl () (congrArg (Value.int .i64) (by unfold szR; split <;> omega)) rfl)))
      · obtain ⟨z22, y22⟩ := szR_ok q22 om
        refine Eu (E.cf rfl (E.skipc (Et (Ew Z2 (Emv rfl rfl (Eas rfl rfl ?_))))))
        exact Eu (E.ret (Fg rfl rfl () (congrArg (Value.int .i64) (by have e : szR (totL (fun x => x.2.length) a_All + totL (fun x => x.2.length) a_Some + a_Tuple.length) left = left - ((totL (fun x => x.2.length) a_All + totL (fun x => x.2.length) a_Some + a_Tuple.length : Nat) : Int) := by { unfold szR; split <;> omega }; omega)) rfl))
theorem t_laws_toCertificate {a_a_All : Option Addr} {m_a_All c_a_All : Nat} {a_All : List (Int × List Int)} {a_a_Some : Option Addr} {m_a_Some c_a_Some : Nat} {a_Some : List (Int × List Int)} {a_a_Tuple : Option Addr} {m_a_Tuple c_a_Tuple : Nat} {a_Tuple : List Int} (h0 : totL (fun x => x.2.length) a_All ≤ 1048576) (h1 : totL (fun x => x.2.length) a_Some ≤ 1048576) (h2 : a_Tuple.length ≤ 1048576) : Tr Tryz.prog 69 [.agg #[.slice a_a_All m_a_All c_a_All, .slice a_a_Some m_a_Some c_a_Some, .slice a_a_Tuple m_a_Tuple c_a_Tuple]] (fun w L => Ro w L eFacts [.slice a_a_All m_a_All c_a_All] a_All ∧ Ro w L eFacts [.slice a_a_Some m_a_Some c_a_Some] a_Some ∧ Ro w L eIs [.slice a_a_Tuple m_a_Tuple c_a_Tuple] a_Tuple) [] (κ := (Option Addr × Nat × Nat) × (Option Addr × Nat × Nat) × (Option Addr × Nat × Nat)) (fun k => True) (fun k => .agg #[.slice k.1.1 k.1.2.1 k.1.2.2, .slice k.2.1.1 k.2.1.2.1 k.2.1.2.2, .slice k.2.2.1 k.2.2.2.1 k.2.2.2.2]) (fun k => [ow eFacts [.slice k.1.1 k.1.2.1 k.1.2.2] a_All, ow eFacts [.slice k.2.1.1 k.2.1.2.1 k.2.1.2.2] a_Some, ow eIs [.slice k.2.2.1 k.2.2.2.1 k.2.2.2.2] a_Tuple]) := by
  refine Tr.intro Tryz.func69 rfl (n := 17) rfl (by decide +kernel) bl (fr := [(0, .agg #[.slice a_a_All m_a_All c_a_All, .slice a_a_Some m_a_Some c_a_Some, .slice a_a_Tuple m_a_Tuple c_a_Tuple])]) rfl fun w L hR => ?_
  obtain ⟨ha_All, ha_Some, ha_Tuple⟩ := hR
  obtain ⟨rfl, la_All⟩ := ha_All.slen
  obtain ⟨rfl, la_Some⟩ := ha_Some.slen
  obtain ⟨rfl, la_Tuple⟩ := ha_Tuple.slen
  refine Ew Z2 (Est rfl (N.box (cs := [_, _, _]) rfl dc rfl) (fun b1 _ => (Est rfl (N.alloc ty_Certificate dc) (fun b2 _ => (Ev Z1 (Est rfl (N.alloc ty_Certificate dc) (fun b3 _ => (Ev Z5 (Ey rfl ((Y.fld fo_lCertificate_0 ty_lFacts dc rfl).yd) (Ey rfl (Y.ld1 ty_lFacts rfl ((Has.pt (mS (mS m0))).sub (cs' := [_]) 0 rfl) rfl) (Est rfl (N.call (t_laws_toFactS fc) rfl rfl rfl dc rfl (fun w Lp hA => hA.ro ha_All)) (fun k6 _ => ?_))))))))))))
  obtain ⟨a6, m6, c6⟩ := k6
  refine Ent.lenow m0 fun e6 l6 => ?_
  subst e6
  refine Ey rfl ((Y.fld fo_Certificate_0 ty_Facts dc rfl).yd) (Ent.p1 (Est rfl (N.sto (vs := [_]) (cs' := [_, _, _]) ty_Facts rfl rfl rfl rfl rfl bl rfl) (fun _ _ => (Ev Z5 (Ey rfl ((Y.fld fo_lCertificate_1 ty_lFacts dc rfl).yd) (Ey rfl (Y.ld1 ty_lFacts rfl ((Has.pt (mS (mS (mS m0)))).sub (cs' := [_]) 1 rfl) rfl) (Est rfl (N.call (t_laws_toFactS fc) rfl rfl rfl dc rfl (fun w Lp hA => hA.ro ha_Some)) (fun k10 _ => ?_))))))))
  obtain ⟨a10, m10, c10⟩ := k10
  refine Ent.lenow m0 fun e10 l10 => ?_
  subst e10
  refine Ey rfl ((Y.fld fo_Certificate_1 ty_Facts dc rfl).yd) (Ent.p1 (Est rfl (N.sto (vs := [_]) (cs' := [_, _, _]) ty_Facts rfl rfl rfl rfl rfl bl rfl) (fun _ _ => (Ev Z5 (Ey rfl ((Y.fld fo_lCertificate_2 ty_Is dc rfl).yd) (Ey rfl (Y.ld1 ty_Is rfl ((Has.pt (mS (mS (mS (mS m0))))).sub (cs' := [_]) 2 rfl) rfl) (Est rfl (N.call (t_laws_toIntS fc) rfl rfl rfl dc rfl (fun w Lp hA => hA.ro ha_Tuple)) (fun k14 _ => ?_))))))))
  obtain ⟨a14, m14, c14⟩ := k14
  refine Ent.lenow m0 fun e14 l14 => ?_
  subst e14
  refine Ey rfl ((Y.fld fo_Certificate_2 ty_Is dc rfl).yd) (Ent.p1 (Est rfl (N.sto (vs := [_]) (cs' := [_, _, _]) ty_Is rfl rfl rfl rfl rfl bl rfl) (fun _ _ => (Ev Z2 (Ey rfl (Y.ldS (cs := [_, _, _]) ty_Certificate rfl (Has.pt m0) rfl) (Ent.p4 (Est rfl (N.sto (vs := [_, _, _]) (cs' := [_, _, _]) ty_Certificate rfl rfl rfl rfl rfl bl rfl) (fun _ _ => (Eu (E.ret (Ent.p2 (Ent.p3 (Ent.p4 (Ent.p2 (Ent.p2 (Ent.p2 ?_))))))))))))))))
  exact F.c1 br rfl rfl (mS (mS (mS m0))) ty_Certificate rfl ((_, _, _), (_, _, _), (_, _, _)) trivial rfl (J := _) (.refl _) (.inl rfl)
theorem t_laws_eqCertificate {a_a_All : Option Addr} {m_a_All c_a_All : Nat} {a_All : List (Int × List Int)} {a_a_Some : Option Addr} {m_a_Some c_a_Some : Nat} {a_Some : List (Int × List Int)} {a_a_Tuple : Option Addr} {m_a_Tuple c_a_Tuple : Nat} {a_Tuple : List Int} {a_b_All : Option Addr} {m_b_All c_b_All : Nat} {b_All : List (Int × List Int)} {a_b_Some : Option Addr} {m_b_Some c_b_Some : Nat} {b_Some : List (Int × List Int)} {a_b_Tuple : Option Addr} {m_b_Tuple c_b_Tuple : Nat} {b_Tuple : List Int} : Tr Tryz.prog 72 [.agg #[.slice a_a_All m_a_All c_a_All, .slice a_a_Some m_a_Some c_a_Some, .slice a_a_Tuple m_a_Tuple c_a_Tuple], .agg #[.slice a_b_All m_b_All c_b_All, .slice a_b_Some m_b_Some c_b_Some, .slice a_b_Tuple m_b_Tuple c_b_Tuple]] (fun w L => Ro w L eFacts [.slice a_a_All m_a_All c_a_All] a_All ∧ Ro w L eFacts [.slice a_a_Some m_a_Some c_a_Some] a_Some ∧ Ro w L eIs [.slice a_a_Tuple m_a_Tuple c_a_Tuple] a_Tuple ∧ Ro w L eFacts [.slice a_b_All m_b_All c_b_All] b_All ∧ Ro w L eFacts [.slice a_b_Some m_b_Some c_b_Some] b_Some ∧ Ro w L eIs [.slice a_b_Tuple m_b_Tuple c_b_Tuple] b_Tuple) [] (κ := Unit) (fun k => True) (fun k => .bool (decide ((a_All, a_Some, a_Tuple) = (b_All, b_Some, b_Tuple)))) (fun k => []) := by
  refine Tr.intro Tryz.func72 rfl (n := 23) rfl (by decide +kernel) bl (fr := [(0, .agg #[.slice a_a_All m_a_All c_a_All, .slice a_a_Some m_a_Some c_a_Some, .slice a_a_Tuple m_a_Tuple c_a_Tuple]), (1, .agg #[.slice a_b_All m_b_All c_b_All, .slice a_b_Some m_b_Some c_b_Some, .slice a_b_Tuple m_b_Tuple c_b_Tuple])]) rfl fun w L hR => ?_
  obtain ⟨ha_All, ha_Some, ha_Tuple, hb_All, hb_Some, hb_Tuple⟩ := hR
  obtain ⟨rfl, la_All⟩ := ha_All.slen
  obtain ⟨rfl, la_Some⟩ := ha_Some.slen
  obtain ⟨rfl, la_Tuple⟩ := ha_Tuple.slen
  obtain ⟨rfl, lb_All⟩ := hb_All.slen
  obtain ⟨rfl, lb_Some⟩ := hb_Some.slen
  obtain ⟨rfl, lb_Tuple⟩ := hb_Tuple.slen
  refine Ew Z3 (Est rfl (N.box (cs := [_, _, _]) rfl dc rfl) (fun b2 _ => (Est rfl (N.box (cs := [_, _, _]) rfl dc rfl) (fun b3 _ => (Eas rfl rfl (Eu (Eq_ (Ew Z6 (Ey rfl ((Y.fld fo_Certificate_0 ty_Facts dc rfl).yd) (Ey rfl (Y.ld1 ty_Facts rfl ((Has.pt (mS m0)).sub (cs' := [_]) 0 rfl) rfl) (Ey rfl ((Y.fld fo_Certificate_0 ty_Facts dc rfl).yd) (Ey rfl (Y.ld1 ty_Facts rfl ((Has.pt m0).sub (cs' := [_]) 0 rfl) rfl) (Est rfl (N.call0 t_laws_eqFactS rfl rfl rfl dc (fun w Lp hA => ⟨hA.ro ha_All, hA.ro hb_All⟩)) (fun _ _ => (Ent.b (fun q9 => ?_) (fun q9 => ?_))))))))))))))))
  · refine Ey rfl ((Y.not (b := true) rfl).yd) (Eu (E.cf rfl (E.skipc (Et (Eq_ (Ew Z6 (Ey rfl ((Y.fld fo_Certificate_1 ty_Facts dc rfl).yd) (Ey rfl (Y.ld1 ty_Facts rfl ((Has.pt (mS m0)).sub (cs' := [_]) 1 rfl) rfl) (Ey rfl ((Y.fld fo_Certificate_1 ty_Facts dc rfl).yd) (Ey rfl (Y.ld1 ty_Facts rfl ((Has.pt m0).sub (cs' := [_]) 1 rfl) rfl) (Est rfl (N.call0 t_laws_eqFactS rfl rfl rfl dc (fun w Lp hA => ⟨hA.ro ha_Some, hA.ro hb_Some⟩)) (fun _ _ => (Ent.b (fun q15 => ?_) (fun q15 => ?_))))))))))))))
    · refine Ey rfl ((Y.not (b := true) rfl).yd) (Eu (E.cf rfl (E.skipc (Et (Eq_ (Ew Z6 (Ey rfl ((Y.fld fo_Certificate_2 ty_Is dc rfl).yd) (Ey rfl (Y.ld1 ty_Is rfl ((Has.pt (mS m0)).sub (cs' := [_]) 2 rfl) rfl) (Ey rfl ((Y.fld fo_Certificate_2 ty_Is dc rfl).yd) (Ey rfl (Y.ld1 ty_Is rfl ((Has.pt m0).sub (cs' := [_]) 2 rfl) rfl) (Est rfl (N.call0 t_laws_eqIntS rfl rfl rfl dc (fun w Lp hA => ⟨hA.ro ha_Tuple, hA.ro hb_Tuple⟩)) (fun _ _ => (Ent.b (fun q21 => ?_) (fun q21 => ?_))))))))))))))
      · refine Ey rfl ((Y.not (b := true) rfl).yd) (Eu (E.cf rfl (E.skipc (Et (Ew Z1 (Eas rfl rfl ?_))))))
        exact Eu (E.ret (Fb rfl rfl (by simp_all)))
      · refine Ey rfl ((Y.not (b := false) rfl).yd) (Eu (E.ct rfl (Ew Z1 (Eas rfl rfl ?_))))
        exact Eu (E.ret (E.thr (Fb rfl rfl (by simp_all))))
    · refine Ey rfl ((Y.not (b := false) rfl).yd) (Eu (E.ct rfl (Ew Z1 (Eas rfl rfl ?_))))
      exact Eu (E.ret (E.thr (Fb rfl rfl (by simp_all))))
  · refine Ey rfl ((Y.not (b := false) rfl).yd) (Eu (E.ct rfl (Ew Z1 (Eas rfl rfl ?_))))
    exact Eu (E.ret (E.thr (Fb rfl rfl (by simp_all))))
theorem t_laws_FnExactCheckUnder {a_aS : Option Addr} {m_aS c_aS : Nat} {aS : List Int} {a_aL : Option Addr} {m_aL c_aL : Nat} {aL : List (Int × List Int × Int × Int × Int)} {a_aRules : Option Addr} {m_aRules c_aRules : Nat} {aRules : List (Int × Int × List Int)} {a_aQ_Head : Option Addr} {m_aQ_Head c_aQ_Head : Nat} {aQ_Head : List Int} {a_aQ_Atoms : Option Addr} {m_aQ_Atoms c_aQ_Atoms : Nat} {aQ_Atoms : List (Int × List Int)} {a_aC_All : Option Addr} {m_aC_All c_aC_All : Nat} {aC_All : List (Int × List Int)} {a_aC_Some : Option Addr} {m_aC_Some c_aC_Some : Nat} {aC_Some : List (Int × List Int)} {a_aC_Tuple : Option Addr} {m_aC_Tuple c_aC_Tuple : Nat} {aC_Tuple : List Int} : Tr Tryz.prog 10 [.slice a_aS m_aS c_aS, .slice a_aL m_aL c_aL, .slice a_aRules m_aRules c_aRules, .agg #[.slice a_aQ_Head m_aQ_Head c_aQ_Head, .slice a_aQ_Atoms m_aQ_Atoms c_aQ_Atoms], .agg #[.slice a_aC_All m_aC_All c_aC_All, .slice a_aC_Some m_aC_Some c_aC_Some, .slice a_aC_Tuple m_aC_Tuple c_aC_Tuple]] (fun w L => Ro w L eIs [.slice a_aS m_aS c_aS] aS ∧ Ro w L eMethods [.slice a_aL m_aL c_aL] aL ∧ Ro w L eRules [.slice a_aRules m_aRules c_aRules] aRules ∧ Ro w L eIs [.slice a_aQ_Head m_aQ_Head c_aQ_Head] aQ_Head ∧ Ro w L eAtoms [.slice a_aQ_Atoms m_aQ_Atoms c_aQ_Atoms] aQ_Atoms ∧ Ro w L eFacts [.slice a_aC_All m_aC_All c_aC_All] aC_All ∧ Ro w L eFacts [.slice a_aC_Some m_aC_Some c_aC_Some] aC_Some ∧ Ro w L eIs [.slice a_aC_Tuple m_aC_Tuple c_aC_Tuple] aC_Tuple) [] (κ := Unit) (fun k => True) (fun k => .bool (true)) (fun k => []) := by
  refine Tr.intro Tryz.func10 rfl (n := 97) rfl (by decide +kernel) bl (fr := [(0, .slice a_aS m_aS c_aS), (1, .slice a_aL m_aL c_aL), (2, .slice a_aRules m_aRules c_aRules), (3, .agg #[.slice a_aQ_Head m_aQ_Head c_aQ_Head, .slice a_aQ_Atoms m_aQ_Atoms c_aQ_Atoms]), (4, .agg #[.slice a_aC_All m_aC_All c_aC_All, .slice a_aC_Some m_aC_Some c_aC_Some, .slice a_aC_Tuple m_aC_Tuple c_aC_Tuple])]) rfl fun w L hR => ?_
  obtain ⟨haS, haL, haRules, haQ_Head, haQ_Atoms, haC_All, haC_Some, haC_Tuple⟩ := hR
  obtain ⟨rfl, laS⟩ := haS.slen
  obtain ⟨rfl, laL⟩ := haL.slen
  obtain ⟨rfl, laRules⟩ := haRules.slen
  obtain ⟨rfl, laQ_Head⟩ := haQ_Head.slen
  obtain ⟨rfl, laQ_Atoms⟩ := haQ_Atoms.slen
  obtain ⟨rfl, laC_All⟩ := haC_All.slen
  obtain ⟨rfl, laC_Some⟩ := haC_Some.slen
  obtain ⟨rfl, laC_Tuple⟩ := haC_Tuple.slen
  have jb_aS := totS_I (l := aS)
  have jb_aL := totS_lin (c := cE_Method) (t := (fun x => x.2.1.length)) (n := 4) (fun x => by simp only [cE_Method, totS_I]; omega) (l := aL)
  have jc_aL : totL (fun x => x.2.1.length) aL = aL.length + totS (fun x => x.2.1.length) aL := rfl
  have jb_aRules := totS_lin (c := cE_Rule) (t := (fun x => x.2.2.length)) (n := 2) (fun x => by simp only [cE_Rule, totS_I]; omega) (l := aRules)
  have jc_aRules : totL (fun x => x.2.2.length) aRules = aRules.length + totS (fun x => x.2.2.length) aRules := rfl
  have jb_aQ_Head := totS_I (l := aQ_Head)
  have jb_aQ_Atoms := totS_lin (c := cE_Atom) (t := (fun x => x.2.length)) (n := 1) (fun x => by simp only [cE_Atom, totS_I]; omega) (l := aQ_Atoms)
  have jc_aQ_Atoms : totL (fun x => x.2.length) aQ_Atoms = aQ_Atoms.length + totS (fun x => x.2.length) aQ_Atoms := rfl
  have jb_aC_All := totS_lin (c := cE_Fact) (t := (fun x => x.2.length)) (n := 1) (fun x => by simp only [cE_Fact, totS_I]; omega) (l := aC_All)
  have jc_aC_All : totL (fun x => x.2.length) aC_All = aC_All.length + totS (fun x => x.2.length) aC_All := rfl
  have jb_aC_Some := totS_lin (c := cE_Fact) (t := (fun x => x.2.length)) (n := 1) (fun x => by simp only [cE_Fact, totS_I]; omega) (l := aC_Some)
  have jc_aC_Some : totL (fun x => x.2.length) aC_Some = aC_Some.length + totS (fun x => x.2.length) aC_Some := rfl
  have jb_aC_Tuple := totS_I (l := aC_Tuple)
  refine Ew Z3 (Est rfl (N.box (cs := [_, _]) rfl dc rfl) (fun b8 _ => (Est rfl (N.box (cs := [_, _, _]) rfl dc rfl) (fun b9 _ => (Eas rfl rfl (Eu (Eq_ (Ew Z3 (Emv rfl rfl (Ey rfl ((Y.len us_Is rfl).yd) (Ey rfl ((Y.gtr rfl rfl).yd) (Ent.d (fun q21 => ?_) (fun q21 => ?_)))))))))))))
  · refine Eu (E.ct rfl (Ew Z1 (Eas rfl rfl ?_)))
    exact Eu (E.ret (E.thr (Fg rfl rfl () rfl rfl)))
  · refine Eu (E.cf rfl (E.skipc (Et (Ew Z1 (Eas rfl rfl (Ev Z4 (Emv rfl rfl (Emv rfl rfl (Est rfl (N.call0 t_laws_szMethodS rfl rfl rfl dc (fun w Lp hA => ⟨hA.ro haL, (by first | assumption | omega), (by first | assumption | omega)⟩)) (fun _ _ => (Eas rfl rfl (Eu (Eq_ (Ew Z2 (Emv rfl rfl (Ey rfl ((Y.lss rfl rfl).yd) (Ent.d (fun q26 => ?_) (fun q26 => ?_))))))))))))))))))
    · have z26 := szR_bad q26 om
      refine Eu (E.ct rfl (Ew Z1 (Eas rfl rfl ?_)))
      exact Eu (E.ret (E.thr (Fg rfl rfl () rfl rfl)))
    · obtain ⟨z26, y26⟩ := szR_ok q26 om
      refine Eu (E.cf rfl (E.skipc (Et (Ew Z4 (Emv rfl rfl (Emv rfl rfl (Est rfl (N.call0 t_laws_szRuleS rfl rfl rfl dc (fun w Lp hA => ⟨hA.ro haRules, (by first | assumption | omega), (by first | assumption | omega)⟩)) (fun _ _ => (Eas rfl rfl (Eu (Eq_ (Ew Z2 (Emv rfl rfl (Ey rfl ((Y.lss rfl rfl).yd) (Ent.d (fun q31 => ?_) (fun q31 => ?_))))))))))))))))
      · have z31 := szR_bad q31 om
        refine Eu (E.ct rfl (Ew Z1 (Eas rfl rfl ?_)))
        exact Eu (E.ret (E.thr (Fg rfl rfl () rfl rfl)))
      · obtain ⟨z31, y31⟩ := szR_ok q31 om
        refine Eu (E.cf rfl (E.skipc (Et (Ew Z4 (Ey rfl (Y.ldS (cs := [_, _]) ty_lQuery rfl (Has.pt (mS m0)) rfl) (Emv rfl rfl (Est rfl (N.call0 t_laws_szQuery rfl rfl rfl dc (fun w Lp hA => ⟨hA.ro haQ_Head, hA.ro haQ_Atoms, (by first | assumption | omega), (by first | assumption | omega)⟩)) (fun _ _ => (Eas rfl rfl (Eu (Eq_ (Ew Z2 (Emv rfl rfl (Ey rfl ((Y.lss rfl rfl).yd) (Ent.d (fun q36 => ?_) (fun q36 => ?_))))))))))))))))
        · have z36 := szR_bad q36 om
          refine Eu (E.ct rfl (Ew Z1 (Eas rfl rfl ?_)))
          exact Eu (E.ret (E.thr (Fg rfl rfl () rfl rfl)))
        · obtain ⟨z36, y36⟩ := szR_ok q36 om
          refine Eu (E.cf rfl (E.skipc (Et (Ew Z4 (Ey rfl (Y.ldS (cs := [_, _, _]) ty_lCertificate rfl (Has.pt m0) rfl) (Emv rfl rfl (Est rfl (N.call0 t_laws_szCertificate rfl rfl rfl dc (fun w Lp hA => ⟨hA.ro haC_All, hA.ro haC_Some, hA.ro haC_Tuple, (by first | assumption | omega), (by first | assumption | omega)⟩)) (fun _ _ => (Eas rfl rfl (Eu (Eq_ (Ew Z2 (Emv rfl rfl (Ey rfl ((Y.lss rfl rfl).yd) (Ent.d (fun q41 => ?_) (fun q41 => ?_))))))))))))))))
          · have z41 := szR_bad q41 om
            refine Eu (E.ct rfl (Ew Z1 (Eas rfl rfl ?_)))
            exact Eu (E.ret (E.thr (Fg rfl rfl () rfl rfl)))
          · obtain ⟨z41, y41⟩ := szR_ok q41 om
            refine Eu (E.cf rfl (E.skipc (Et (Eq_ (D.region (fun j => true) mixed (Dyp 0 rfl (Y.mv rfl) (Dyp 2 rfl (Y.mv rfl) (Dyp 4 rfl (Y.mv rfl) (Dy 6 rfl (Y.ldS (cs := [_, _]) ty_lQuery rfl (Has.pt (mS m0)) rfl) (Dy 8 rfl (Y.ldS (cs := [_, _, _]) ty_lCertificate rfl (Has.pt m0) rfl) (D.st 1 rfl rfl kr (fun _ => rfl) (N.call (t_laws_toIntS fc) rfl rfl rfl dc rfl (fun w Lp hA => hA.ro haS)) (fun k43 _ => ?_))))))))))))
            obtain ⟨a43, m43, c43⟩ := k43
            refine Ent.lenow m0 fun e43 l43 => ?_
            subst e43
            refine D.st 3 rfl rfl kr (fun _ => rfl) (N.call (t_laws_toMethodS fc) rfl rfl rfl dc rfl (fun w Lp hA => hA.ro haL)) (fun k45 _ => ?_)
            obtain ⟨a45, m45, c45⟩ := k45
            refine Ent.lenow m0 fun e45 l45 => ?_
            subst e45
            refine D.st 5 rfl rfl kr (fun _ => rfl) (N.call (t_laws_toRuleS fc) rfl rfl rfl dc rfl (fun w Lp hA => hA.ro haRules)) (fun k47 _ => ?_)
            obtain ⟨a47, m47, c47⟩ := k47
            refine Ent.lenow m0 fun e47 l47 => ?_
            subst e47
            refine D.st 7 rfl rfl kr (fun _ => rfl) (N.call (t_laws_toQuery fc fc) rfl rfl rfl dc rfl (fun w Lp hA => ⟨hA.ro haQ_Head, hA.ro haQ_Atoms⟩)) (fun k49 _ => ?_)
            obtain ⟨⟨a49_0, m49_0, c49_0⟩, ⟨a49_1, m49_1, c49_1⟩⟩ := k49
            refine Ent.lenow m0 fun e49_0 l49_0 => ?_
            subst e49_0
            refine Ent.lenow (mS m0) fun e49_1 l49_1 => ?_
            subst e49_1
            refine D.st 9 rfl rfl kr (fun _ => rfl) (N.call (t_laws_toCertificate fc fc fc) rfl rfl rfl dc rfl (fun w Lp hA => ⟨hA.ro haC_All, hA.ro haC_Some, hA.ro haC_Tuple⟩)) (fun k51 _ => ?_)
            obtain ⟨⟨a51_0, m51_0, c51_0⟩, ⟨a51_1, m51_1, c51_1⟩, ⟨a51_2, m51_2, c51_2⟩⟩ := k51
            refine Ent.lenow m0 fun e51_0 l51_0 => ?_
            subst e51_0
            refine Ent.lenow (mS m0) fun e51_1 l51_1 => ?_
            subst e51_1
            refine Ent.lenow (mS (mS m0)) fun e51_2 l51_2 => ?_
            subst e51_2
            refine D.st 10 rfl rfl kr (fun _ => rfl) (N.call0 (t_spec_CheckUnder fc) rfl rfl rfl dc (fun w Lp hA => ⟨hA.ow (mS (mS (mS (mS (mS (mS (mS m0))))))), hA.ow (mS (mS (mS (mS (mS (mS m0)))))), hA.ow (mS (mS (mS (mS (mS m0))))), hA.ow (mS (mS (mS m0))), hA.ow (mS (mS (mS (mS m0)))), hA.ow m0, hA.ow (mS m0), hA.ow (mS (mS m0))⟩)) (fun _ _ => (Dyp 11 rfl (Y.as rfl) (D.done kr (Et (Ew Z3 (Emv rfl rfl (Est rfl (N.call (t_laws_toIntS fc) rfl rfl rfl dc rfl (fun w Lp hA => hA.ro haS)) (fun k54 _ => ?_))))))))
            obtain ⟨a54, m54, c54⟩ := k54
            refine Ent.lenow m0 fun e54 l54 => ?_
            subst e54
            refine Eas rfl rfl (Ev Z3 (Emv rfl rfl (Est rfl (N.call (t_laws_toMethodS fc) rfl rfl rfl dc rfl (fun w Lp hA => hA.ro haL)) (fun k56 _ => ?_))))
            obtain ⟨a56, m56, c56⟩ := k56
            refine Ent.lenow m0 fun e56 l56 => ?_
            subst e56
            refine Eas rfl rfl (Ev Z3 (Emv rfl rfl (Est rfl (N.call (t_laws_toRuleS fc) rfl rfl rfl dc rfl (fun w Lp hA => hA.ro haRules)) (fun k58 _ => ?_))))
            obtain ⟨a58, m58, c58⟩ := k58
            refine Ent.lenow m0 fun e58 l58 => ?_
            subst e58
            refine Eas rfl rfl (Ev Z4 (Ey rfl (Y.ldS (cs := [_, _]) ty_lQuery rfl (Has.pt (mS (mS (mS (mS (mS (mS (mS (mS (mS (mS (mS (mS m0))))))))))))) rfl) (Est rfl (N.call (t_laws_toQuery fc fc) rfl rfl rfl dc rfl (fun w Lp hA => ⟨hA.ro haQ_Head, hA.ro haQ_Atoms⟩)) (fun k60 _ => ?_))))
            obtain ⟨⟨a60_0, m60_0, c60_0⟩, ⟨a60_1, m60_1, c60_1⟩⟩ := k60
            refine Ent.lenow m0 fun e60_0 l60_0 => ?_
            subst e60_0
            refine Ent.lenow (mS m0) fun e60_1 l60_1 => ?_
            subst e60_1
            refine Est rfl (N.alloc ty_Query dc) (fun b16 _ => (Est rfl (N.sto (vs := [_, _]) (cs' := [_, _]) ty_Query rfl rfl rfl rfl rfl bl rfl) (fun _ _ => (Ev Z4 (Ey rfl (Y.ldS (cs := [_, _, _]) ty_lCertificate rfl (Has.pt (mS (mS (mS (mS (mS (mS (mS (mS (mS (mS (mS (mS (mS (mS m0))))))))))))))) rfl) (Est rfl (N.call (t_laws_toCertificate fc fc fc) rfl rfl rfl dc rfl (fun w Lp hA => ⟨hA.ro haC_All, hA.ro haC_Some, hA.ro haC_Tuple⟩)) (fun k62 _ => ?_)))))))
            obtain ⟨⟨a62_0, m62_0, c62_0⟩, ⟨a62_1, m62_1, c62_1⟩, ⟨a62_2, m62_2, c62_2⟩⟩ := k62
            refine Ent.lenow m0 fun e62_0 l62_0 => ?_
            subst e62_0
            refine Ent.lenow (mS m0) fun e62_1 l62_1 => ?_
            subst e62_1
            refine Ent.lenow (mS (mS m0)) fun e62_2 l62_2 => ?_
            subst e62_2
            refine Est rfl (N.alloc ty_Certificate dc) (fun b17 _ => (Est rfl (N.sto (vs := [_, _, _]) (cs' := [_, _, _]) ty_Certificate rfl rfl rfl rfl rfl bl rfl) (fun _ _ => (Ev Z7 (Emv rfl rfl (Emv rfl rfl (Emv rfl rfl (Ey rfl (Y.ldS (cs := [_, _]) ty_Query rfl (Has.pt (mS (mS (mS (mS m0))))) rfl) (Ey rfl (Y.ldS (cs := [_, _, _]) ty_Certificate rfl (Has.pt m0) rfl) (Est rfl (N.call0 (t_impl_CheckUnder fc) rfl rfl rfl dc (fun w Lp hA => ⟨hA.ow (mS (mS (mS (mS (mS (mS (mS (mS (mS m0))))))))), hA.ow (mS (mS (mS (mS (mS (mS (mS (mS m0)))))))), hA.ow (mS (mS (mS (mS (mS (mS (mS m0))))))), hA.ow (mS (mS (mS (mS (mS m0))))), hA.ow (mS (mS (mS (mS (mS (mS m0)))))), hA.ow (mS m0), hA.ow (mS (mS m0)), hA.ow (mS (mS (mS m0)))⟩)) (fun _ _ => (Eas rfl rfl (Eu (Eq_ (Ew Z3 (Emv rfl rfl (Emv rfl rfl (Ey rfl ((Y.neqB kr rfl rfl).yd) (Ent.d (fun q71 => ?_) (fun q71 => ?_))))))))))))))))))))
            · exact absurd rfl q71
            · refine Eu (E.cf rfl (E.skipc (Et (Eq_ (Ew Z5 (Emv rfl rfl (Emv rfl rfl (Est rfl (N.call (t_laws_toIntS fc) rfl rfl rfl dc rfl (fun w Lp hA => hA.ro haS)) (fun k74 _ => ?_)))))))))
              obtain ⟨a74, m74, c74⟩ := k74
              refine Ent.lenow m0 fun e74 l74 => ?_
              subst e74
              refine Est rfl (N.call0 t_laws_eqIntS rfl rfl rfl dc (fun w Lp hA => ⟨hA.ow (mS (mS (mS (mS (mS (mS (mS (mS (mS (mS m0)))))))))), hA.ow m0⟩)) (fun _ _ => (Ent.b (fun q75 => ?_) (fun q75 => ?_)))
              · refine Ey rfl ((Y.not (b := true) rfl).yd) (Eu (E.cf rfl (E.skipc (Et (Eq_ (Ew Z5 (Emv rfl rfl (Emv rfl rfl (Est rfl (N.call (t_laws_toMethodS fc) rfl rfl rfl dc rfl (fun w Lp hA => hA.ro haL)) (fun k79 _ => ?_))))))))))
                obtain ⟨a79, m79, c79⟩ := k79
                refine Ent.lenow m0 fun e79 l79 => ?_
                subst e79
                refine Est rfl (N.call0 t_laws_eqMethodS rfl rfl rfl dc (fun w Lp hA => ⟨hA.ow (mS (mS (mS (mS (mS (mS (mS (mS (mS (mS m0)))))))))), hA.ow m0⟩)) (fun _ _ => (Ent.b (fun q80 => ?_) (fun q80 => ?_)))
                · refine Ey rfl ((Y.not (b := true) rfl).yd) (Eu (E.cf rfl (E.skipc (Et (Eq_ (Ew Z5 (Emv rfl rfl (Emv rfl rfl (Est rfl (N.call (t_laws_toRuleS fc) rfl rfl rfl dc rfl (fun w Lp hA => hA.ro haRules)) (fun k84 _ => ?_))))))))))
                  obtain ⟨a84, m84, c84⟩ := k84
                  refine Ent.lenow m0 fun e84 l84 => ?_
                  subst e84
                  refine Est rfl (N.call0 t_laws_eqRuleS rfl rfl rfl dc (fun w Lp hA => ⟨hA.ow (mS (mS (mS (mS (mS (mS (mS (mS (mS (mS m0)))))))))), hA.ow m0⟩)) (fun _ _ => (Ent.b (fun q85 => ?_) (fun q85 => ?_)))
                  · refine Ey rfl ((Y.not (b := true) rfl).yd) (Eu (E.cf rfl (E.skipc (Et (Eq_ (Eq_ (D.region (fun j => true) mixed (Dy 0 rfl (Y.ldS (cs := [_, _]) ty_Query rfl (Has.pt (mS (mS (mS (mS (mS (mS (mS m0)))))))) rfl) (Dy 1 rfl (Y.ldS (cs := [_, _]) ty_lQuery rfl (Has.pt (mS (mS (mS (mS (mS (mS (mS (mS (mS (mS (mS (mS (mS (mS (mS (mS (mS (mS (mS (mS (mS (mS m0))))))))))))))))))))))) rfl) (D.st 2 rfl rfl kr (fun _ => rfl) (N.call (t_laws_toQuery fc fc) rfl rfl rfl dc rfl (fun w Lp hA => ⟨hA.ro haQ_Head, hA.ro haQ_Atoms⟩)) (fun k89 _ => ?_)))))))))))
                    obtain ⟨⟨a89_0, m89_0, c89_0⟩, ⟨a89_1, m89_1, c89_1⟩⟩ := k89
                    refine Ent.lenow m0 fun e89_0 l89_0 => ?_
                    subst e89_0
                    refine Ent.lenow (mS m0) fun e89_1 l89_1 => ?_
                    subst e89_1
                    refine D.st 3 rfl rfl kr (fun _ => rfl) (N.call0 t_laws_eqQuery rfl rfl rfl dc (fun w Lp hA => ⟨hA.ow (mS (mS (mS (mS (mS (mS (mS (mS (mS (mS m0)))))))))), hA.ow (mS (mS (mS (mS (mS (mS (mS (mS (mS (mS (mS m0))))))))))), hA.ow m0, hA.ow (mS m0)⟩)) (fun _ _ => (Ent.b (fun q90 => ?_) (fun q90 => ?_)))
                    · refine Dyp 4 rfl (Y.not (b := true) rfl) (D.done kr (Et (E.cf rfl (E.skipc (Et (Eq_ (Eq_ (D.region (fun j => true) mixed (Dy 0 rfl (Y.ldS (cs := [_, _, _]) ty_Certificate rfl (Has.pt (mS (mS (mS (mS (mS m0)))))) rfl) (Dy 1 rfl (Y.ldS (cs := [_, _, _]) ty_lCertificate rfl (Has.pt (mS (mS (mS (mS (mS (mS (mS (mS (mS (mS (mS (mS (mS (mS (mS (mS (mS (mS (mS (mS (mS (mS (mS m0)))))))))))))))))))))))) rfl) (D.st 2 rfl rfl kr (fun _ => rfl) (N.call (t_laws_toCertificate fc fc fc) rfl rfl rfl dc rfl (fun w Lp hA => ⟨hA.ro haC_All, hA.ro haC_Some, hA.ro haC_Tuple⟩)) (fun k94 _ => ?_))))))))))))
                      obtain ⟨⟨a94_0, m94_0, c94_0⟩, ⟨a94_1, m94_1, c94_1⟩, ⟨a94_2, m94_2, c94_2⟩⟩ := k94
                      refine Ent.lenow m0 fun e94_0 l94_0 => ?_
                      subst e94_0
                      refine Ent.lenow (mS m0) fun e94_1 l94_1 => ?_
                      subst e94_1
                      refine Ent.lenow (mS (mS m0)) fun e94_2 l94_2 => ?_
                      subst e94_2
                      refine D.st 3 rfl rfl kr (fun _ => rfl) (N.call0 t_laws_eqCertificate rfl rfl rfl dc (fun w Lp hA => ⟨hA.ow (mS (mS (mS (mS (mS (mS (mS (mS (mS m0))))))))), hA.ow (mS (mS (mS (mS (mS (mS (mS (mS (mS (mS m0)))))))))), hA.ow (mS (mS (mS (mS (mS (mS (mS (mS (mS (mS (mS m0))))))))))), hA.ow m0, hA.ow (mS m0), hA.ow (mS (mS m0))⟩)) (fun _ _ => (Ent.b (fun q95 => ?_) (fun q95 => ?_)))
                      · refine Dyp 4 rfl (Y.not (b := true) rfl) (D.done kr (Et (E.cf rfl (E.skipc (Et (Ew Z1 (Eas rfl rfl ?_)))))))
                        exact Eu (E.ret (Fg rfl rfl () rfl rfl))
                      · refine Dyp 4 rfl (Y.not (b := false) rfl) (D.done kr (Et (E.ct rfl (Ew Z1 (Eas rfl rfl ?_)))))
                        exact Eu (E.ret (E.thr (Fb rfl rfl (by simp_all))))
                    · refine Dyp 4 rfl (Y.not (b := false) rfl) (D.done kr (Et (E.ct rfl (Ew Z1 (Eas rfl rfl ?_)))))
                      exact Eu (E.ret (E.thr (Fb rfl rfl (by simp_all))))
                  · refine Ey rfl ((Y.not (b := false) rfl).yd) (Eu (E.ct rfl (Ew Z1 (Eas rfl rfl ?_))))
                    exact Eu (E.ret (E.thr (Fb rfl rfl (by simp_all))))
                · refine Ey rfl ((Y.not (b := false) rfl).yd) (Eu (E.ct rfl (Ew Z1 (Eas rfl rfl ?_))))
                  exact Eu (E.ret (E.thr (Fb rfl rfl (by simp_all))))
              · refine Ey rfl ((Y.not (b := false) rfl).yd) (Eu (E.ct rfl (Ew Z1 (Eas rfl rfl ?_))))
                exact Eu (E.ret (E.thr (Fb rfl rfl (by simp_all))))
end Go.Proofs.YtonkkkjgdohooaaGreat
