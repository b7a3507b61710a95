import Derived.Test.YtfnagmokplpnjaaGreatBs
import Derived.Test.YtfnagmokplpnjaaGreatT52
import Derived.Test.YtfnagmokplpnjaaGreatT16
namespace Go.Proofs.YtfnagmokplpnjaaGreat
open Go.RowKit
set_option linter.unusedVariables false
set_option linter.unusedSimpArgs false
set_option maxHeartbeats 2000000
attribute [local irreducible] Nop Yd Yp Ent Has Tr FnP FnP2 Src listsF opnF opn1 opnR chainB uFin
theorem t_laws_FnExactAnswersUnder {a_aS : Option Addr} {m_aS c_aS : Nat} {aS : List Int} {a_aL : Option Addr} {m_aL c_aL : Nat} {aL : List (Int × List Int × Int × Int × Int)} {a_aRules : Option Addr} {m_aRules c_aRules : Nat} {aRules : List (Int × Int × List Int)} {a_aQ_Head : Option Addr} {m_aQ_Head c_aQ_Head : Nat} {aQ_Head : List Int} {a_aQ_Atoms : Option Addr} {m_aQ_Atoms c_aQ_Atoms : Nat} {aQ_Atoms : List (Int × List Int)} {a_aFacts : Option Addr} {m_aFacts c_aFacts : Nat} {aFacts : List (Int × List Int)} : Tr Tryz.prog 9 [.slice a_aS m_aS c_aS, .slice a_aL m_aL c_aL, .slice a_aRules m_aRules c_aRules, .agg #[.slice a_aQ_Head m_aQ_Head c_aQ_Head, .slice a_aQ_Atoms m_aQ_Atoms c_aQ_Atoms], .slice a_aFacts m_aFacts c_aFacts] (fun w L => Ro w L eIs [.slice a_aS m_aS c_aS] aS ∧ Ro w L eMethods [.slice a_aL m_aL c_aL] aL ∧ Ro w L eRules [.slice a_aRules m_aRules c_aRules] aRules ∧ Ro w L eIs [.slice a_aQ_Head m_aQ_Head c_aQ_Head] aQ_Head ∧ Ro w L eAtoms [.slice a_aQ_Atoms m_aQ_Atoms c_aQ_Atoms] aQ_Atoms ∧ Ro w L eFacts [.slice a_aFacts m_aFacts c_aFacts] aFacts) [] (κ := Unit) (fun k => True) (fun k => .bool (true)) (fun k => []) := by
  refine Tr.intro Tryz.func9 rfl (n := 159) rfl (by decide +kernel) bl (fr := [(0, .slice a_aS m_aS c_aS), (1, .slice a_aL m_aL c_aL), (2, .slice a_aRules m_aRules c_aRules), (3, .agg #[.slice a_aQ_Head m_aQ_Head c_aQ_Head, .slice a_aQ_Atoms m_aQ_Atoms c_aQ_Atoms]), (4, .slice a_aFacts m_aFacts c_aFacts)]) rfl fun w L hR => ?_
  obtain ⟨haS, haL, haRules, haQ_Head, haQ_Atoms, haFacts⟩ := hR
  obtain ⟨rfl, laS⟩ := haS.slen
  obtain ⟨rfl, laL⟩ := haL.slen
  obtain ⟨rfl, laRules⟩ := haRules.slen
  obtain ⟨rfl, laQ_Head⟩ := haQ_Head.slen
  obtain ⟨rfl, laQ_Atoms⟩ := haQ_Atoms.slen
  obtain ⟨rfl, laFacts⟩ := haFacts.slen
  have jb_aS := totS_I (l := aS)
  have jb_aL := totS_lin (c := cE_Method) (t := (fun x => x.2.1.length)) (n := 4) (fun x => by simp only [cE_Method, totS_I]; omega) (l := aL)
  have jc_aL : totL (fun x => x.2.1.length) aL = aL.length + totS (fun x => x.2.1.length) aL := rfl
  have jb_aRules := totS_lin (c := cE_Rule) (t := (fun x => x.2.2.length)) (n := 2) (fun x => by simp only [cE_Rule, totS_I]; omega) (l := aRules)
  have jc_aRules : totL (fun x => x.2.2.length) aRules = aRules.length + totS (fun x => x.2.2.length) aRules := rfl
  have jb_aQ_Head := totS_I (l := aQ_Head)
  have jb_aQ_Atoms := totS_lin (c := cE_Atom) (t := (fun x => x.2.length)) (n := 1) (fun x => by simp only [cE_Atom, totS_I]; omega) (l := aQ_Atoms)
  have jc_aQ_Atoms : totL (fun x => x.2.length) aQ_Atoms = aQ_Atoms.length + totS (fun x => x.2.length) aQ_Atoms := rfl
  have jb_aFacts := totS_lin (c := cE_Fact) (t := (fun x => x.2.length)) (n := 1) (fun x => by simp only [cE_Fact, totS_I]; omega) (l := aFacts)
  have jc_aFacts : totL (fun x => x.2.length) aFacts = aFacts.length + totS (fun x => x.2.length) aFacts := rfl
  have r1 := ansU_tot (s := aS) (l := aL) (rules := aRules) (q := (aQ_Head, aQ_Atoms)) (facts := aFacts)
  refine Eq_ (Er (l := [0, 1]) rfl (Est rfl (N.box (cs := [_, _]) rfl dc rfl) (fun b8 _ => (Eas rfl rfl (En (Et (Eq_ (Eq_ (Er (l := [0, 1, 2]) rfl (Emv rfl rfl (Ey rfl ((Y.len us_Is rfl).yd) (Ey rfl ((Y.gtr rfl rfl).yd) (Ent.d (fun q25 => ?_) (fun q25 => ?_))))))))))))))
  · refine En (Et (E.ct rfl (Eq_ (Er (l := [0]) rfl (Eas rfl rfl ?_)))))
    exact En (Et (E.ret (E.thr (F.r1 br rfl rfl () trivial rfl (J := _) (.refl _) (.inl rfl)))))
  · refine En (Et (E.cf rfl (E.skipc (Et (Eq_ (Er (l := [0]) rfl (Eas rfl rfl (En (Et (Eq_ (Er (l := [0, 1, 2, 3]) rfl (Emv rfl rfl (Emv rfl rfl (Est rfl (N.call0 t_laws_szMethodS rfl rfl rfl dc (fun w Lp hA => ⟨hA.ro haL, (by first | assumption | omega), (by first | assumption | omega)⟩)) (fun _ _ => (Eas rfl rfl (En (Et (Eq_ (Eq_ (Er (l := [0, 1]) rfl (Emv rfl rfl (Ey rfl ((Y.lss rfl rfl).yd) (Ent.d (fun q30 => ?_) (fun q30 => ?_)))))))))))))))))))))))))
    · have z30 := szR_bad q30 om
      refine En (Et (E.ct rfl (Eq_ (Er (l := [0]) rfl (Eas rfl rfl ?_)))))
      exact En (Et (E.ret (E.thr (F.r1 br rfl rfl () trivial rfl (J := _) (.refl _) (.inl rfl)))))
    · obtain ⟨z30, y30⟩ := szR_ok q30 om
      refine En (Et (E.cf rfl (E.skipc (Et (Eq_ (Er (l := [0, 1, 2, 3]) rfl (Emv rfl rfl (Emv rfl rfl (Est rfl (N.call0 t_laws_szRuleS rfl rfl rfl dc (fun w Lp hA => ⟨hA.ro haRules, (by first | assumption | omega), (by first | assumption | omega)⟩)) (fun _ _ => (Eas rfl rfl (En (Et (Eq_ (Eq_ (Er (l := [0, 1]) rfl (Emv rfl rfl (Ey rfl ((Y.lss rfl rfl).yd) (Ent.d (fun q35 => ?_) (fun q35 => ?_))))))))))))))))))))
      · have z35 := szR_bad q35 om
        refine En (Et (E.ct rfl (Eq_ (Er (l := [0]) rfl (Eas rfl rfl ?_)))))
        exact En (Et (E.ret (E.thr (F.r1 br rfl rfl () trivial rfl (J := _) (.refl _) (.inl rfl)))))
      · obtain ⟨z35, y35⟩ := szR_ok q35 om
        refine En (Et (E.cf rfl (E.skipc (Et (Eq_ (Er (l := [0, 1, 2, 3]) rfl (Ey rfl (Y.ldS (cs := [_, _]) ty_lQuery rfl (Has.pt m0) rfl) (Emv rfl rfl (Est rfl (N.call0 t_laws_szQuery rfl rfl rfl dc (fun w Lp hA => ⟨hA.ro haQ_Head, hA.ro haQ_Atoms, (by first | assumption | omega), (by first | assumption | omega)⟩)) (fun _ _ => (Eas rfl rfl (En (Et (Eq_ (Eq_ (Er (l := [0, 1]) rfl (Emv rfl rfl (Ey rfl ((Y.lss rfl rfl).yd) (Ent.d (fun q40 => ?_) (fun q40 => ?_))))))))))))))))))))
        · have z40 := szR_bad q40 om
          refine En (Et (E.ct rfl (Eq_ (Er (l := [0]) rfl (Eas rfl rfl ?_)))))
          exact En (Et (E.ret (E.thr (F.r1 br rfl rfl () trivial rfl (J := _) (.refl _) (.inl rfl)))))
        · obtain ⟨z40, y40⟩ := szR_ok q40 om
          refine En (Et (E.cf rfl (E.skipc (Et (Eq_ (Er (l := [0, 1, 2, 3]) rfl (Emv rfl rfl (Emv rfl rfl (Est rfl (N.call0 t_laws_szFactS rfl rfl rfl dc (fun w Lp hA => ⟨hA.ro haFacts, (by first | assumption | omega), (by first | assumption | omega)⟩)) (fun _ _ => (Eas rfl rfl (En (Et (Eq_ (Eq_ (Er (l := [0, 1]) rfl (Emv rfl rfl (Ey rfl ((Y.lss rfl rfl).yd) (Ent.d (fun q45 => ?_) (fun q45 => ?_))))))))))))))))))))
          · have z45 := szR_bad q45 om
            refine En (Et (E.ct rfl (Eq_ (Er (l := [0]) rfl (Eas rfl rfl ?_)))))
            exact En (Et (E.ret (E.thr (F.r1 br rfl rfl () trivial rfl (J := _) (.refl _) (.inl rfl)))))
          · obtain ⟨z45, y45⟩ := szR_ok q45 om
            refine En (Et (E.cf rfl (E.skipc (Et (Eq_ (D.region (fun j => true) mixed (Dyp 0 rfl (Y.mv rfl) (Dyp 2 rfl (Y.mv rfl) (Dyp 4 rfl (Y.mv rfl) (Dy 6 rfl (Y.ldS (cs := [_, _]) ty_lQuery rfl (Has.pt m0) rfl) (Dyp 8 rfl (Y.mv rfl) (D.st 1 rfl rfl kr (fun _ => rfl) (N.call (t_laws_toIntS fc) rfl rfl rfl dc rfl (fun w Lp hA => hA.ro haS)) (fun k47 _ => ?_)))))))))))))
            obtain ⟨a47, m47, c47⟩ := k47
            refine Ent.lenow m0 fun e47 l47 => ?_
            subst e47
            refine D.st 3 rfl rfl kr (fun _ => rfl) (N.call (t_laws_toMethodS fc) rfl rfl rfl dc rfl (fun w Lp hA => hA.ro haL)) (fun k49 _ => ?_)
            obtain ⟨a49, m49, c49⟩ := k49
            refine Ent.lenow m0 fun e49 l49 => ?_
            subst e49
            refine D.st 5 rfl rfl kr (fun _ => rfl) (N.call (t_laws_toRuleS fc) rfl rfl rfl dc rfl (fun w Lp hA => hA.ro haRules)) (fun k51 _ => ?_)
            obtain ⟨a51, m51, c51⟩ := k51
            refine Ent.lenow m0 fun e51 l51 => ?_
            subst e51
            refine D.st 7 rfl rfl kr (fun _ => rfl) (N.call (t_laws_toQuery fc fc) rfl rfl rfl dc rfl (fun w Lp hA => ⟨hA.ro haQ_Head, hA.ro haQ_Atoms⟩)) (fun k53 _ => ?_)
            obtain ⟨⟨a53_0, m53_0, c53_0⟩, ⟨a53_1, m53_1, c53_1⟩⟩ := k53
            refine Ent.lenow m0 fun e53_0 l53_0 => ?_
            subst e53_0
            refine Ent.lenow (mS m0) fun e53_1 l53_1 => ?_
            subst e53_1
            refine D.st 9 rfl rfl kr (fun _ => rfl) (N.call (t_laws_toFactS fc) rfl rfl rfl dc rfl (fun w Lp hA => hA.ro haFacts)) (fun k55 _ => ?_)
            obtain ⟨a55, m55, c55⟩ := k55
            refine Ent.lenow m0 fun e55 l55 => ?_
            subst e55
            refine D.st 10 rfl rfl kr (fun _ => rfl) (N.call (t_spec_AnswersUnder fc) rfl rfl rfl dc rfl (fun w Lp hA => ⟨hA.ow (mS (mS (mS (mS (mS m0))))), hA.ow (mS (mS (mS (mS m0)))), hA.ow (mS (mS (mS m0))), hA.ow (mS m0), hA.ow (mS (mS m0)), hA.ow m0⟩)) (fun k56 _ => ?_)
            obtain ⟨a56, m56, c56⟩ := k56
            refine Ent.lenow m0 fun e56 l56 => ?_
            subst e56
            refine Dyp 11 rfl (Y.as rfl) (D.done kr (Et (Eq_ (Er (l := [0, 1, 2]) rfl (Emv rfl rfl (Est rfl (N.call (t_laws_toIntS fc) rfl rfl rfl dc rfl (fun w Lp hA => hA.ro haS)) (fun k58 _ => ?_)))))))
            obtain ⟨a58, m58, c58⟩ := k58
            refine Ent.lenow m0 fun e58 l58 => ?_
            subst e58
            refine Eas rfl rfl (En (Et (Eq_ (Er (l := [0, 1, 2]) rfl (Emv rfl rfl (Est rfl (N.call (t_laws_toMethodS fc) rfl rfl rfl dc rfl (fun w Lp hA => hA.ro haL)) (fun k60 _ => ?_)))))))
            obtain ⟨a60, m60, c60⟩ := k60
            refine Ent.lenow m0 fun e60 l60 => ?_
            subst e60
            refine Eas rfl rfl (En (Et (Eq_ (Er (l := [0, 1, 2]) rfl (Emv rfl rfl (Est rfl (N.call (t_laws_toRuleS fc) rfl rfl rfl dc rfl (fun w Lp hA => hA.ro haRules)) (fun k62 _ => ?_)))))))
            obtain ⟨a62, m62, c62⟩ := k62
            refine Ent.lenow m0 fun e62 l62 => ?_
            subst e62
            refine Eas rfl rfl (En (Et (Eq_ (Er (l := [0, 1, 2, 3]) rfl (Ey rfl (Y.ldS (cs := [_, _]) ty_lQuery rfl (Has.pt (mS (mS (mS (mS (mS (mS (mS (mS (mS (mS m0))))))))))) rfl) (Est rfl (N.call (t_laws_toQuery fc fc) rfl rfl rfl dc rfl (fun w Lp hA => ⟨hA.ro haQ_Head, hA.ro haQ_Atoms⟩)) (fun k64 _ => ?_)))))))
            obtain ⟨⟨a64_0, m64_0, c64_0⟩, ⟨a64_1, m64_1, c64_1⟩⟩ := k64
            refine Ent.lenow m0 fun e64_0 l64_0 => ?_
            subst e64_0
            refine Ent.lenow (mS m0) fun e64_1 l64_1 => ?_
            subst e64_1
            refine Est rfl (N.alloc ty_Query dc) (fun b16 _ => (Est rfl (N.sto (vs := [_, _]) (cs' := [_, _]) ty_Query rfl rfl rfl rfl rfl bl rfl) (fun _ _ => (En (Et (Eq_ (Er (l := [0, 1, 2]) rfl (Emv rfl rfl (Est rfl (N.call (t_laws_toFactS fc) rfl rfl rfl dc rfl (fun w Lp hA => hA.ro haFacts)) (fun k66 _ => ?_))))))))))
            obtain ⟨a66, m66, c66⟩ := k66
            refine Ent.lenow m0 fun e66 l66 => ?_
            subst e66
            refine Eas rfl rfl (En (Et (Eq_ (Er (l := [0, 1, 2, 3, 4, 5, 6]) rfl (Emv rfl rfl (Emv rfl rfl (Emv rfl rfl (Ey rfl (Y.ldS (cs := [_, _]) ty_Query rfl (Has.pt (mS m0)) rfl) (Emv rfl rfl (Est rfl (N.call (t_impl_AnswersUnder fc) rfl rfl rfl dc rfl (fun w Lp hA => ⟨hA.ow (mS (mS (mS (mS (mS (mS m0)))))), hA.ow (mS (mS (mS (mS (mS m0))))), hA.ow (mS (mS (mS (mS m0)))), hA.ow (mS (mS m0)), hA.ow (mS (mS (mS m0))), hA.ow m0⟩)) (fun k72 _ => ?_)))))))))))
            obtain ⟨a72, m72, c72⟩ := k72
            refine Ent.lenow m0 fun e72 l72 => ?_
            subst e72
            refine Eas rfl rfl (En (Et (Eq_ (Eq_ (Er (l := [0, 1, 2, 3]) rfl (Emv rfl rfl (Emv rfl rfl (Est rfl (N.call0 t_laws_eqIntSS rfl rfl rfl dc (fun w Lp hA => ⟨hA.ow m0, hA.ow (mS (mS (mS (mS (mS (mS (mS (mS m0))))))))⟩)) (fun _ _ => (Ent.b (fun q75 => ?_) (fun q75 => ?_)))))))))))
            · refine Ey rfl ((Y.not (b := true) rfl).yd) (En (Et (E.cf rfl (E.skipc (Et (Eq_ (Eq_ (Er (l := [0, 1, 2, 3, 4]) rfl (Emv rfl rfl (Emv rfl rfl (Est rfl (N.call (t_laws_toIntS fc) rfl rfl rfl dc rfl (fun w Lp hA => hA.ro haS)) (fun k79 _ => ?_))))))))))))
              obtain ⟨a79, m79, c79⟩ := k79
              refine Ent.lenow m0 fun e79 l79 => ?_
              subst e79
              refine Est rfl (N.call0 t_laws_eqIntS rfl rfl rfl dc (fun w Lp hA => ⟨hA.ow (mS (mS (mS (mS (mS (mS (mS (mS m0)))))))), hA.ow m0⟩)) (fun _ _ => (Ent.b (fun q80 => ?_) (fun q80 => ?_)))
              · refine Ey rfl ((Y.not (b := true) rfl).yd) (En (Et (E.cf rfl (E.skipc (Et (Eq_ (Eq_ (Er (l := [0, 1, 2, 3, 4]) rfl (Emv rfl rfl (Emv rfl rfl (Est rfl (N.call (t_laws_toMethodS fc) rfl rfl rfl dc rfl (fun w Lp hA => hA.ro haL)) (fun k84 _ => ?_))))))))))))
                obtain ⟨a84, m84, c84⟩ := k84
                refine Ent.lenow m0 fun e84 l84 => ?_
                subst e84
                refine Est rfl (N.call0 t_laws_eqMethodS rfl rfl rfl dc (fun w Lp hA => ⟨hA.ow (mS (mS (mS (mS (mS (mS (mS (mS m0)))))))), hA.ow m0⟩)) (fun _ _ => (Ent.b (fun q85 => ?_) (fun q85 => ?_)))
                · refine Ey rfl ((Y.not (b := true) rfl).yd) (En (Et (E.cf rfl (E.skipc (Et (Eq_ (Eq_ (Er (l := [0, 1, 2, 3, 4]) rfl (Emv rfl rfl (Emv rfl rfl (Est rfl (N.call (t_laws_toRuleS fc) rfl rfl rfl dc rfl (fun w Lp hA => hA.ro haRules)) (fun k89 _ => ?_))))))))))))
                  obtain ⟨a89, m89, c89⟩ := k89
                  refine Ent.lenow m0 fun e89 l89 => ?_
                  subst e89
                  refine Est rfl (N.call0 t_laws_eqRuleS rfl rfl rfl dc (fun w Lp hA => ⟨hA.ow (mS (mS (mS (mS (mS (mS (mS (mS m0)))))))), hA.ow m0⟩)) (fun _ _ => (Ent.b (fun q90 => ?_) (fun q90 => ?_)))
                  · refine Ey rfl ((Y.not (b := true) rfl).yd) (En (Et (E.cf rfl (E.skipc (Et (Eq_ (Eq_ (D.region (fun j => true) mixed (Dy 0 rfl (Y.ldS (cs := [_, _]) ty_Query rfl (Has.pt (mS (mS (mS (mS (mS m0)))))) rfl) (Dy 1 rfl (Y.ldS (cs := [_, _]) ty_lQuery rfl (Has.pt (mS (mS (mS (mS (mS (mS (mS (mS (mS (mS (mS (mS (mS (mS (mS (mS (mS (mS m0))))))))))))))))))) rfl) (D.st 2 rfl rfl kr (fun _ => rfl) (N.call (t_laws_toQuery fc fc) rfl rfl rfl dc rfl (fun w Lp hA => ⟨hA.ro haQ_Head, hA.ro haQ_Atoms⟩)) (fun k94 _ => ?_))))))))))))
                    obtain ⟨⟨a94_0, m94_0, c94_0⟩, ⟨a94_1, m94_1, c94_1⟩⟩ := k94
                    refine Ent.lenow m0 fun e94_0 l94_0 => ?_
                    subst e94_0
                    refine Ent.lenow (mS m0) fun e94_1 l94_1 => ?_
                    subst e94_1
                    refine D.st 3 rfl rfl kr (fun _ => rfl) (N.call0 t_laws_eqQuery rfl rfl rfl dc (fun w Lp hA => ⟨hA.ow (mS (mS (mS (mS (mS (mS (mS (mS m0)))))))), hA.ow (mS (mS (mS (mS (mS (mS (mS (mS (mS m0))))))))), hA.ow m0, hA.ow (mS m0)⟩)) (fun _ _ => (Ent.b (fun q95 => ?_) (fun q95 => ?_)))
                    · refine Dyp 4 rfl (Y.not (b := true) rfl) (D.done kr (Et (E.cf rfl (E.skipc (Et (Eq_ (Eq_ (Er (l := [0, 1, 2, 3, 4]) rfl (Emv rfl rfl (Emv rfl rfl (Est rfl (N.call (t_laws_toFactS fc) rfl rfl rfl dc rfl (fun w Lp hA => hA.ro haFacts)) (fun k99 _ => ?_))))))))))))
                      obtain ⟨a99, m99, c99⟩ := k99
                      refine Ent.lenow m0 fun e99 l99 => ?_
                      subst e99
                      refine Est rfl (N.call0 t_laws_eqFactS rfl rfl rfl dc (fun w Lp hA => ⟨hA.ow (mS (mS (mS (mS (mS (mS (mS m0))))))), hA.ow m0⟩)) (fun _ _ => (Ent.b (fun q100 => ?_) (fun q100 => ?_)))
                      · refine Ey rfl ((Y.not (b := true) rfl).yd) (En (Et (E.cf rfl (E.skipc (Et (Eq_ (Er (l := [0]) rfl (Eas rfl rfl (En (Et (Eq_ (Er (l := [0, 1, 2, 3]) rfl (Emv rfl rfl (Emv rfl rfl (Ent.p13 (Est rfl (N.call (pre := [_]) t_laws_markIntS rfl rfl rfl dc rfl (fun w Lp hA => ⟨(by first | assumption | omega), (by first | assumption | omega)⟩)) (fun _ _ => (Eas rfl rfl (En (Et (Eq_ (Er (l := [0, 1, 2, 3]) rfl (Emv rfl rfl (Emv rfl rfl (Ent.p13 (Est rfl (N.call (pre := [_]) t_laws_markMethodS rfl rfl rfl dc rfl (fun w Lp hA => ⟨(by first | assumption | omega), (by first | assumption | omega)⟩)) (fun _ _ => (Eas rfl rfl (En (Et (Eq_ (Er (l := [0, 1, 2, 3]) rfl (Emv rfl rfl (Emv rfl rfl (Ent.p13 (Est rfl (N.call (pre := [_]) t_laws_markRuleS rfl rfl rfl dc rfl (fun w Lp hA => ⟨(by first | assumption | omega), (by first | assumption | omega)⟩)) (fun _ _ => (Eas rfl rfl (En (Et (Eq_ (Er (l := [0, 1, 2, 3]) rfl (Ey rfl (Y.ldS (cs := [_, _]) ty_Query rfl (Has.pt (mS (mS (mS (mS (mS (mS (mS (mS (mS (mS (mS m0)))))))))))) rfl) (Emv rfl rfl (Ent.p13 (Ent.p13 (Est rfl (N.call (pre := [_, _]) t_laws_markQuery rfl rfl rfl dc rfl (fun w Lp hA => ⟨(by first | assumption | omega), (by first | assumption | omega)⟩)) (fun _ _ => (Eas rfl rfl (En (Et (Eq_ (Er (l := [0, 1, 2, 3]) rfl (Emv rfl rfl (Emv rfl rfl (Ent.p12 (Est rfl (N.call (pre := [_]) t_laws_markFactS rfl rfl rfl dc rfl (fun w Lp hA => ⟨(by first | assumption | omega), (by first | assumption | omega)⟩)) (fun _ _ => (Eas rfl rfl (En (Et (Eq_ (Eq_ (Er (l := [0, 1, 2, 3, 4, 5, 6, 7]) rfl (Emv rfl rfl (Ey rfl ((Y.lss rfl rfl).yd) (Ent.d (fun q118 => ?_) (fun q118 => ?_))))))))))))))))))))))))))))))))))))))))))))))))))))))))))))))))))))
                        · exact absurd q118 om
                        · refine Emv rfl rfl (Emv rfl rfl (Emv rfl rfl (Est rfl (N.call0 t_laws_eqIntSS rfl rfl rfl dc (fun w Lp hA => ⟨hA.ow (mS (mS (mS (mS (mS (mS (mS (mS (mS (mS (mS (mS m0)))))))))))), hA.ow (mS (mS (mS (mS (mS (mS (mS (mS (mS (mS (mS (mS (mS (mS m0))))))))))))))⟩)) (fun _ _ => (Ent.b (fun q122 => ?_) (fun q122 => ?_))))))
                          · refine Ey rfl ((Y.not (b := true) rfl).yd) (Ey rfl ((Y.pkf rfl rfl).yd) (En (Et (E.cf rfl (E.skipc (Et (Eq_ (Er (l := [0]) rfl (Eas rfl rfl (En (Et (Eq_ (Er (l := [0, 1, 2, 3]) rfl (Emv rfl rfl (Emv rfl rfl (Ent.p12 (Est rfl (N.call (pre := [_]) t_laws_markIntSS rfl rfl rfl dc rfl (fun w Lp hA => ⟨(by first | assumption | omega), (by first | assumption | omega)⟩)) (fun _ _ => (Eas rfl rfl (En (Et (Eq_ (Er (l := [0]) rfl (Eas rfl rfl (En (Et (Eq_ (Er (l := [0, 1, 2, 3]) rfl (Emv rfl rfl (Emv rfl rfl (Est rfl (N.call0 (t_laws_heldIntSS (mkL_mk cm_Is mm_Is)) rfl rfl rfl dc (fun w Lp hA => ⟨hA.ow m0, (by (try simp only [mkL_c cm_I, mkL_c cm_Is, mkL_c cm_Fact, mkL_c cm_Facts, mkL_c cm_Atom, mkL_c cm_Atoms, mkL_c cm_Access, mkL_c cm_Accesss, mkL_c cm_Step, mkL_c cm_Steps, mkL_c cm_Query, mkL_c cm_Querys, mkL_c cm_Binding, mkL_c cm_Bindings, mkL_c cm_Method, mkL_c cm_Methods, mkL_c cm_Rule, mkL_c cm_Rules, mkL_c cm_Line, mkL_c cm_Lines]); omega), (by (try simp only [mkL_c cm_I, mkL_c cm_Is, mkL_c cm_Fact, mkL_c cm_Facts, mkL_c cm_Atom, mkL_c cm_Atoms, mkL_c cm_Access, mkL_c cm_Accesss, mkL_c cm_Step, mkL_c cm_Steps, mkL_c cm_Query, mkL_c cm_Querys, mkL_c cm_Binding, mkL_c cm_Bindings, mkL_c cm_Method, mkL_c cm_Methods, mkL_c cm_Rule, mkL_c cm_Rules, mkL_c cm_Line, mkL_c cm_Lines]); omega)⟩)) (fun _ _ => (Eas rfl rfl (En (Et (Eq_ (Eq_ (Er (l := [0, 1]) rfl (Emv rfl rfl (Ey rfl ((Y.lss rfl rfl).yd) (Ent.d (fun q132 => ?_) (fun q132 => ?_))))))))))))))))))))))))))))))))))))))))))
                            · exact absurd q132 om
                            · refine En (Et (E.cf rfl (E.skipc (Et (Eq_ (Eq_ (Er (l := [0, 1, 2]) rfl (Emv rfl rfl (Emv rfl rfl (Ey rfl ((Y.neq rfl rfl).yd) (Ent.d (fun q135 => ?_) (fun q135 => ?_))))))))))))
                              · exact absurd (by simp only [mkL_c cm_I, mkL_c cm_Is, mkL_c cm_Fact, mkL_c cm_Facts, mkL_c cm_Atom, mkL_c cm_Atoms, mkL_c cm_Access, mkL_c cm_Accesss, mkL_c cm_Step, mkL_c cm_Steps, mkL_c cm_Query, mkL_c cm_Querys, mkL_c cm_Binding, mkL_c cm_Bindings, mkL_c cm_Method, mkL_c cm_Methods, mkL_c cm_Rule, mkL_c cm_Rules, mkL_c cm_Line, mkL_c cm_Lines]) q135
                              · refine En (Et (E.cf rfl (E.skipc (Et (Eq_ (D.region (fun j => true) mixed (Dyp 0 rfl (Y.mv rfl) (Dyp 2 rfl (Y.mv rfl) (Dyp 4 rfl (Y.mv rfl) (Dy 6 rfl (Y.ldS (cs := [_, _]) ty_lQuery rfl (Has.pt (mS (mS (mS (mS (mS (mS (mS (mS (mS (mS (mS (mS (mS (mS (mS (mS (mS (mS (mS (mS (mS m0)))))))))))))))))))))) rfl) (Dyp 8 rfl (Y.mv rfl) (D.st 1 rfl rfl kr (fun _ => rfl) (N.call (t_laws_toIntS fc) rfl rfl rfl dc rfl (fun w Lp hA => hA.ro haS)) (fun k137 _ => ?_)))))))))))))
                                obtain ⟨a137, m137, c137⟩ := k137
                                refine Ent.lenow m0 fun e137 l137 => ?_
                                subst e137
                                refine D.st 3 rfl rfl kr (fun _ => rfl) (N.call (t_laws_toMethodS fc) rfl rfl rfl dc rfl (fun w Lp hA => hA.ro haL)) (fun k139 _ => ?_)
                                obtain ⟨a139, m139, c139⟩ := k139
                                refine Ent.lenow m0 fun e139 l139 => ?_
                                subst e139
                                refine D.st 5 rfl rfl kr (fun _ => rfl) (N.call (t_laws_toRuleS fc) rfl rfl rfl dc rfl (fun w Lp hA => hA.ro haRules)) (fun k141 _ => ?_)
                                obtain ⟨a141, m141, c141⟩ := k141
                                refine Ent.lenow m0 fun e141 l141 => ?_
                                subst e141
                                refine D.st 7 rfl rfl kr (fun _ => rfl) (N.call (t_laws_toQuery fc fc) rfl rfl rfl dc rfl (fun w Lp hA => ⟨hA.ro haQ_Head, hA.ro haQ_Atoms⟩)) (fun k143 _ => ?_)
                                obtain ⟨⟨a143_0, m143_0, c143_0⟩, ⟨a143_1, m143_1, c143_1⟩⟩ := k143
                                refine Ent.lenow m0 fun e143_0 l143_0 => ?_
                                subst e143_0
                                refine Ent.lenow (mS m0) fun e143_1 l143_1 => ?_
                                subst e143_1
                                refine D.st 9 rfl rfl kr (fun _ => rfl) (N.call (t_laws_toFactS fc) rfl rfl rfl dc rfl (fun w Lp hA => hA.ro haFacts)) (fun k145 _ => ?_)
                                obtain ⟨a145, m145, c145⟩ := k145
                                refine Ent.lenow m0 fun e145 l145 => ?_
                                subst e145
                                refine D.st 10 rfl rfl kr (fun _ => rfl) (N.call (t_impl_AnswersUnder fc) rfl rfl rfl dc rfl (fun w Lp hA => ⟨hA.ow (mS (mS (mS (mS (mS m0))))), hA.ow (mS (mS (mS (mS m0)))), hA.ow (mS (mS (mS m0))), hA.ow (mS m0), hA.ow (mS (mS m0)), hA.ow m0⟩)) (fun k146 _ => ?_)
                                obtain ⟨a146, m146, c146⟩ := k146
                                refine Ent.lenow m0 fun e146 l146 => ?_
                                subst e146
                                refine Dyp 11 rfl (Y.as rfl) (D.done kr (Et (Eq_ (Eq_ (Er (l := [0, 1, 2, 3]) rfl (Emv rfl rfl (Emv rfl rfl (Est rfl (N.call0 t_laws_eqIntSS rfl rfl rfl dc (fun w Lp hA => ⟨hA.ow m0, hA.ow (mS (mS (mS (mS (mS (mS (mS (mS (mS (mS (mS (mS (mS (mS (mS (mS (mS (mS (mS (mS (mS m0)))))))))))))))))))))⟩)) (fun _ _ => (Ent.b (fun q149 => ?_) (fun q149 => ?_)))))))))))
                                · refine Ey rfl ((Y.not (b := true) rfl).yd) (En (Et (E.cf rfl (E.skipc (Et (Eq_ (Er (l := [0]) rfl (Eas rfl rfl (En (Et (Eq_ (Er (l := [0, 1, 2, 3]) rfl (Emv rfl rfl (Emv rfl rfl (Est rfl (N.call0 (t_laws_heldIntSS (mkL_mk cm_Is mm_Is)) rfl rfl rfl dc (fun w Lp hA => ⟨hA.ow (mS (mS (mS (mS (mS (mS (mS m0))))))), (by (try simp only [mkL_c cm_I, mkL_c cm_Is, mkL_c cm_Fact, mkL_c cm_Facts, mkL_c cm_Atom, mkL_c cm_Atoms, mkL_c cm_Access, mkL_c cm_Accesss, mkL_c cm_Step, mkL_c cm_Steps, mkL_c cm_Query, mkL_c cm_Querys, mkL_c cm_Binding, mkL_c cm_Bindings, mkL_c cm_Method, mkL_c cm_Methods, mkL_c cm_Rule, mkL_c cm_Rules, mkL_c cm_Line, mkL_c cm_Lines]); omega), (by (try simp only [mkL_c cm_I, mkL_c cm_Is, mkL_c cm_Fact, mkL_c cm_Facts, mkL_c cm_Atom, mkL_c cm_Atoms, mkL_c cm_Access, mkL_c cm_Accesss, mkL_c cm_Step, mkL_c cm_Steps, mkL_c cm_Query, mkL_c cm_Querys, mkL_c cm_Binding, mkL_c cm_Bindings, mkL_c cm_Method, mkL_c cm_Methods, mkL_c cm_Rule, mkL_c cm_Rules, mkL_c cm_Line, mkL_c cm_Lines]); omega)⟩)) (fun _ _ => (Eas rfl rfl (En (Et (Eq_ (Eq_ (Er (l := [0, 1]) rfl (Emv rfl rfl (Ey rfl ((Y.lss rfl rfl).yd) (Ent.d (fun q155 => ?_) (fun q155 => ?_))))))))))))))))))))))))))
                                  · exact absurd q155 om
                                  · refine En (Et (E.cf rfl (E.skipc (Et (Eq_ (Eq_ (Er (l := [0, 1, 2]) rfl (Emv rfl rfl (Emv rfl rfl (Ey rfl ((Y.neq rfl rfl).yd) (Ent.d (fun q158 => ?_) (fun q158 => ?_))))))))))))
                                    · exact absurd (by simp only [mkL_c cm_I, mkL_c cm_Is, mkL_c cm_Fact, mkL_c cm_Facts, mkL_c cm_Atom, mkL_c cm_Atoms, mkL_c cm_Access, mkL_c cm_Accesss, mkL_c cm_Step, mkL_c cm_Steps, mkL_c cm_Query, mkL_c cm_Querys, mkL_c cm_Binding, mkL_c cm_Bindings, mkL_c cm_Method, mkL_c cm_Methods, mkL_c cm_Rule, mkL_c cm_Rules, mkL_c cm_Line, mkL_c cm_Lines]) q158
                                    · refine En (Et (E.cf rfl (E.skipc (Et (Eq_ (Er (l := [0]) rfl (Eas rfl rfl ?_)))))))
                                      exact En (Et (E.ret (F.r1 br rfl rfl () trivial rfl (J := _) (.refl _) (.inl rfl))))
                                · refine Ey rfl ((Y.not (b := false) rfl).yd) (En (Et (E.ct rfl (Eq_ (Er (l := [0]) rfl (Eas rfl rfl ?_))))))
                                  exact En (Et (E.ret (E.thr (F.r1 br rfl rfl () trivial (congrArg Value.bool (by simp_all)) (J := _) (.refl _) (.inl rfl)))))
                          · refine Ey rfl ((Y.not (b := false) rfl).yd) (Ey rfl ((Y.pkf rfl rfl).yd) (En (Et (E.ct rfl (Eq_ (Er (l := [0]) rfl (Eas rfl rfl ?_)))))))
                            exact En (Et (E.ret (E.thr (F.r1 br rfl rfl () trivial (congrArg Value.bool (by simp_all)) (J := _) (.refl _) (.inl rfl)))))
                      · refine Ey rfl ((Y.not (b := false) rfl).yd) (En (Et (E.ct rfl (Eq_ (Er (l := [0]) rfl (Eas rfl rfl ?_))))))
                        exact En (Et (E.ret (E.thr (F.r1 br rfl rfl () trivial (congrArg Value.bool (by simp_all)) (J := _) (.refl _) (.inl rfl)))))
                    · refine Dyp 4 rfl (Y.not (b := false) rfl) (D.done kr (Et (E.ct rfl (Eq_ (Er (l := [0]) rfl (Eas rfl rfl ?_))))))
                      exact En (Et (E.ret (E.thr (F.r1 br rfl rfl () trivial (congrArg Value.bool (by simp_all)) (J := _) (.refl _) (.inl rfl)))))
                  · refine Ey rfl ((Y.not (b := false) rfl).yd) (En (Et (E.ct rfl (Eq_ (Er (l := [0]) rfl (Eas rfl rfl ?_))))))
                    exact En (Et (E.ret (E.thr (F.r1 br rfl rfl () trivial (congrArg Value.bool (by simp_all)) (J := _) (.refl _) (.inl rfl)))))
                · refine Ey rfl ((Y.not (b := false) rfl).yd) (En (Et (E.ct rfl (Eq_ (Er (l := [0]) rfl (Eas rfl rfl ?_))))))
                  exact En (Et (E.ret (E.thr (F.r1 br rfl rfl () trivial (congrArg Value.bool (by simp_all)) (J := _) (.refl _) (.inl rfl)))))
              · refine Ey rfl ((Y.not (b := false) rfl).yd) (En (Et (E.ct rfl (Eq_ (Er (l := [0]) rfl (Eas rfl rfl ?_))))))
                exact En (Et (E.ret (E.thr (F.r1 br rfl rfl () trivial (congrArg Value.bool (by simp_all)) (J := _) (.refl _) (.inl rfl)))))
            · refine Ey rfl ((Y.not (b := false) rfl).yd) (En (Et (E.ct rfl (Eq_ (Er (l := [0]) rfl (Eas rfl rfl ?_))))))
              exact En (Et (E.ret (E.thr (F.r1 br rfl rfl () trivial (congrArg Value.bool (by simp_all)) (J := _) (.refl _) (.inl rfl)))))
end Go.Proofs.YtfnagmokplpnjaaGreat
