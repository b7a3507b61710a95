import Derived.Test.YtfnagmokplpnjaaGreatBs
import Derived.Test.YtfnagmokplpnjaaGreatT65
import Derived.Test.YtfnagmokplpnjaaGreatT1
import Derived.Test.YtfnagmokplpnjaaGreatBc
import Derived.Test.YtfnagmokplpnjaaGreatT5
namespace Go.Proofs.YtfnagmokplpnjaaGreat
open Go.RowKit
set_option linter.unusedVariables false
set_option linter.unusedSimpArgs false
set_option maxHeartbeats 2000000
attribute [local irreducible] Nop Yd Yp Ent Has Tr FnP FnP2 Src listsF opnF opn1 opnR chainB uFin closeF closeIt fzF fzV fzX fzB termsF bindsF findV hitB valO
theorem t_laws_FnExactIsFeasibleUnder {a_aS : Option Addr} {m_aS c_aS : Nat} {aS : List Int} {a_aL : Option Addr} {m_aL c_aL : Nat} {aL : List (Int × List Int × Int × Int × Int)} {a_aRules : Option Addr} {m_aRules c_aRules : Nat} {aRules : List (Int × Int × List Int)} {a_aQ_Head : Option Addr} {m_aQ_Head c_aQ_Head : Nat} {aQ_Head : List Int} {a_aQ_Atoms : Option Addr} {m_aQ_Atoms c_aQ_Atoms : Nat} {aQ_Atoms : List (Int × List Int)} : Tr Tryz.prog 8 [.slice a_aS m_aS c_aS, .slice a_aL m_aL c_aL, .slice a_aRules m_aRules c_aRules, .agg #[.slice a_aQ_Head m_aQ_Head c_aQ_Head, .slice a_aQ_Atoms m_aQ_Atoms c_aQ_Atoms]] (fun w L => Ro w L eIs [.slice a_aS m_aS c_aS] aS ∧ Ro w L eMethods [.slice a_aL m_aL c_aL] aL ∧ Ro w L eRules [.slice a_aRules m_aRules c_aRules] aRules ∧ Ro w L eIs [.slice a_aQ_Head m_aQ_Head c_aQ_Head] aQ_Head ∧ Ro w L eAtoms [.slice a_aQ_Atoms m_aQ_Atoms c_aQ_Atoms] aQ_Atoms) [] (κ := Unit) (fun k => True) (fun k => .bool (true)) (fun k => []) := by
  refine Tr.intro Tryz.func8 rfl (n := 79) rfl (by decide +kernel) bl (fr := [(0, .slice a_aS m_aS c_aS), (1, .slice a_aL m_aL c_aL), (2, .slice a_aRules m_aRules c_aRules), (3, .agg #[.slice a_aQ_Head m_aQ_Head c_aQ_Head, .slice a_aQ_Atoms m_aQ_Atoms c_aQ_Atoms])]) rfl fun w L hR => ?_
  obtain ⟨haS, haL, haRules, haQ_Head, haQ_Atoms⟩ := hR
  obtain ⟨rfl, laS⟩ := haS.slen
  obtain ⟨rfl, laL⟩ := haL.slen
  obtain ⟨rfl, laRules⟩ := haRules.slen
  obtain ⟨rfl, laQ_Head⟩ := haQ_Head.slen
  obtain ⟨rfl, laQ_Atoms⟩ := haQ_Atoms.slen
  refine Eq_ (Er (l := [0, 1]) rfl (Est rfl (N.box (cs := [_, _]) rfl dc rfl) (fun b7 _ => (Eas rfl rfl (En (Et (Eq_ (Eq_ (Er (l := [0, 1, 2]) rfl (Emv rfl rfl (Ey rfl ((Y.len us_Is rfl).yd) (Ey rfl ((Y.gtr rfl rfl).yd) (Ent.d (fun q18 => ?_) (fun q18 => ?_))))))))))))))
  · refine En (Et (E.ct rfl (Eq_ (Er (l := [0]) rfl (Eas rfl rfl ?_)))))
    exact En (Et (E.ret (E.thr (F.r1 br rfl rfl () trivial rfl (J := _) (.refl _) (.inl rfl)))))
  · refine En (Et (E.cf rfl (E.skipc (Et (Eq_ (Er (l := [0]) rfl (Eas rfl rfl (En (Et (Eq_ (Er (l := [0, 1, 2, 3]) rfl (Emv rfl rfl (Emv rfl rfl (Est rfl (N.call0 t_laws_szMethodS rfl rfl rfl dc (fun w Lp hA => ⟨hA.ro haL, (by first | assumption | omega), (by first | assumption | omega)⟩)) (fun _ _ => (Eas rfl rfl (En (Et (Eq_ (Eq_ (Er (l := [0, 1]) rfl (Emv rfl rfl (Ey rfl ((Y.lss rfl rfl).yd) (Ent.d (fun q23 => ?_) (fun q23 => ?_)))))))))))))))))))))))))
    · have z23 := szR_bad q23 om
      refine En (Et (E.ct rfl (Eq_ (Er (l := [0]) rfl (Eas rfl rfl ?_)))))
      exact En (Et (E.ret (E.thr (F.r1 br rfl rfl () trivial rfl (J := _) (.refl _) (.inl rfl)))))
    · obtain ⟨z23, y23⟩ := szR_ok q23 om
      refine En (Et (E.cf rfl (E.skipc (Et (Eq_ (Er (l := [0, 1, 2, 3]) rfl (Emv rfl rfl (Emv rfl rfl (Est rfl (N.call0 t_laws_szRuleS rfl rfl rfl dc (fun w Lp hA => ⟨hA.ro haRules, (by first | assumption | omega), (by first | assumption | omega)⟩)) (fun _ _ => (Eas rfl rfl (En (Et (Eq_ (Eq_ (Er (l := [0, 1]) rfl (Emv rfl rfl (Ey rfl ((Y.lss rfl rfl).yd) (Ent.d (fun q28 => ?_) (fun q28 => ?_))))))))))))))))))))
      · have z28 := szR_bad q28 om
        refine En (Et (E.ct rfl (Eq_ (Er (l := [0]) rfl (Eas rfl rfl ?_)))))
        exact En (Et (E.ret (E.thr (F.r1 br rfl rfl () trivial rfl (J := _) (.refl _) (.inl rfl)))))
      · obtain ⟨z28, y28⟩ := szR_ok q28 om
        refine En (Et (E.cf rfl (E.skipc (Et (Eq_ (Er (l := [0, 1, 2, 3]) rfl (Ey rfl (Y.ldS (cs := [_, _]) ty_lQuery rfl (Has.pt m0) rfl) (Emv rfl rfl (Est rfl (N.call0 t_laws_szQuery rfl rfl rfl dc (fun w Lp hA => ⟨hA.ro haQ_Head, hA.ro haQ_Atoms, (by first | assumption | omega), (by first | assumption | omega)⟩)) (fun _ _ => (Eas rfl rfl (En (Et (Eq_ (Eq_ (Er (l := [0, 1]) rfl (Emv rfl rfl (Ey rfl ((Y.lss rfl rfl).yd) (Ent.d (fun q33 => ?_) (fun q33 => ?_))))))))))))))))))))
        · have z33 := szR_bad q33 om
          refine En (Et (E.ct rfl (Eq_ (Er (l := [0]) rfl (Eas rfl rfl ?_)))))
          exact En (Et (E.ret (E.thr (F.r1 br rfl rfl () trivial rfl (J := _) (.refl _) (.inl rfl)))))
        · obtain ⟨z33, y33⟩ := szR_ok q33 om
          refine En (Et (E.cf rfl (E.skipc (Et (Eq_ (D.region (fun j => true) mixed (Dyp 0 rfl (Y.mv rfl) (Dyp 2 rfl (Y.mv rfl) (Dyp 4 rfl (Y.mv rfl) (Dy 6 rfl (Y.ldS (cs := [_, _]) ty_lQuery rfl (Has.pt m0) rfl) (D.st 1 rfl rfl kr (fun _ => rfl) (N.call (t_laws_toIntS fc) rfl rfl rfl dc rfl (fun w Lp hA => hA.ro haS)) (fun k35 _ => ?_))))))))))))
          obtain ⟨a35, m35, c35⟩ := k35
          refine Ent.lenow m0 fun e35 l35 => ?_
          subst e35
          refine D.st 3 rfl rfl kr (fun _ => rfl) (N.call (t_laws_toMethodS fc) rfl rfl rfl dc rfl (fun w Lp hA => hA.ro haL)) (fun k37 _ => ?_)
          obtain ⟨a37, m37, c37⟩ := k37
          refine Ent.lenow m0 fun e37 l37 => ?_
          subst e37
          refine D.st 5 rfl rfl kr (fun _ => rfl) (N.call (t_laws_toRuleS fc) rfl rfl rfl dc rfl (fun w Lp hA => hA.ro haRules)) (fun k39 _ => ?_)
          obtain ⟨a39, m39, c39⟩ := k39
          refine Ent.lenow m0 fun e39 l39 => ?_
          subst e39
          refine D.st 7 rfl rfl kr (fun _ => rfl) (N.call (t_laws_toQuery fc fc) rfl rfl rfl dc rfl (fun w Lp hA => ⟨hA.ro haQ_Head, hA.ro haQ_Atoms⟩)) (fun k41 _ => ?_)
          obtain ⟨⟨a41_0, m41_0, c41_0⟩, ⟨a41_1, m41_1, c41_1⟩⟩ := k41
          refine Ent.lenow m0 fun e41_0 l41_0 => ?_
          subst e41_0
          refine Ent.lenow (mS m0) fun e41_1 l41_1 => ?_
          subst e41_1
          refine D.st 8 rfl rfl kr (fun _ => rfl) (N.call0 (t_spec_IsFeasibleUnder fc) rfl rfl rfl dc (fun w Lp hA => ⟨hA.ow (mS (mS (mS (mS m0)))), hA.ow (mS (mS (mS m0))), hA.ow (mS (mS m0)), hA.ow m0, hA.ow (mS m0)⟩)) (fun _ _ => (Dyp 9 rfl (Y.as rfl) (D.done kr (Et (Eq_ (Er (l := [0, 1, 2]) rfl (Emv rfl rfl (Est rfl (N.call (t_laws_toIntS fc) rfl rfl rfl dc rfl (fun w Lp hA => hA.ro haS)) (fun k44 _ => ?_)))))))))
          obtain ⟨a44, m44, c44⟩ := k44
          refine Ent.lenow m0 fun e44 l44 => ?_
          subst e44
          refine Eas rfl rfl (En (Et (Eq_ (Er (l := [0, 1, 2]) rfl (Emv rfl rfl (Est rfl (N.call (t_laws_toMethodS fc) rfl rfl rfl dc rfl (fun w Lp hA => hA.ro haL)) (fun k46 _ => ?_)))))))
          obtain ⟨a46, m46, c46⟩ := k46
          refine Ent.lenow m0 fun e46 l46 => ?_
          subst e46
          refine Eas rfl rfl (En (Et (Eq_ (Er (l := [0, 1, 2]) rfl (Emv rfl rfl (Est rfl (N.call (t_laws_toRuleS fc) rfl rfl rfl dc rfl (fun w Lp hA => hA.ro haRules)) (fun k48 _ => ?_)))))))
          obtain ⟨a48, m48, c48⟩ := k48
          refine Ent.lenow m0 fun e48 l48 => ?_
          subst e48
          refine Eas rfl rfl (En (Et (Eq_ (Er (l := [0, 1, 2, 3]) rfl (Ey rfl (Y.ldS (cs := [_, _]) ty_lQuery rfl (Has.pt (mS (mS (mS (mS (mS (mS (mS (mS m0))))))))) rfl) (Est rfl (N.call (t_laws_toQuery fc fc) rfl rfl rfl dc rfl (fun w Lp hA => ⟨hA.ro haQ_Head, hA.ro haQ_Atoms⟩)) (fun k50 _ => ?_)))))))
          obtain ⟨⟨a50_0, m50_0, c50_0⟩, ⟨a50_1, m50_1, c50_1⟩⟩ := k50
          refine Ent.lenow m0 fun e50_0 l50_0 => ?_
          subst e50_0
          refine Ent.lenow (mS m0) fun e50_1 l50_1 => ?_
          subst e50_1
          refine Est rfl (N.alloc ty_Query dc) (fun b14 _ => (Est rfl (N.sto (vs := [_, _]) (cs' := [_, _]) ty_Query rfl rfl rfl rfl rfl bl rfl) (fun _ _ => (En (Et (Eq_ (Er (l := [0, 1, 2, 3, 4, 5]) rfl (Emv rfl rfl (Emv rfl rfl (Emv rfl rfl (Ey rfl (Y.ldS (cs := [_, _]) ty_Query rfl (Has.pt m0) rfl) (Est rfl (N.call0 (t_impl_IsFeasibleUnder fc) rfl rfl rfl dc (fun w Lp hA => ⟨hA.ow (mS (mS (mS (mS (mS m0))))), hA.ow (mS (mS (mS (mS m0)))), hA.ow (mS (mS (mS m0))), hA.ow (mS m0), hA.ow (mS (mS m0))⟩)) (fun _ _ => (Eas rfl rfl (En (Et (Eq_ (Eq_ (Er (l := [0, 1, 2]) rfl (Emv rfl rfl (Emv rfl rfl (Ey rfl ((Y.neqB kr rfl rfl).yd) (Ent.d (fun q58 => ?_) (fun q58 => ?_))))))))))))))))))))))))
          · exact absurd rfl q58
          · refine En (Et (E.cf rfl (E.skipc (Et (Eq_ (Eq_ (Er (l := [0, 1, 2, 3, 4]) rfl (Emv rfl rfl (Emv rfl rfl (Est rfl (N.call (t_laws_toIntS fc) rfl rfl rfl dc rfl (fun w Lp hA => hA.ro haS)) (fun k61 _ => ?_)))))))))))
            obtain ⟨a61, m61, c61⟩ := k61
            refine Ent.lenow m0 fun e61 l61 => ?_
            subst e61
            refine Est rfl (N.call0 t_laws_eqIntS rfl rfl rfl dc (fun w Lp hA => ⟨hA.ow (mS (mS (mS (mS (mS (mS m0)))))), hA.ow m0⟩)) (fun _ _ => (Ent.b (fun q62 => ?_) (fun q62 => ?_)))
            · refine Ey rfl ((Y.not (b := true) rfl).yd) (En (Et (E.cf rfl (E.skipc (Et (Eq_ (Eq_ (Er (l := [0, 1, 2, 3, 4]) rfl (Emv rfl rfl (Emv rfl rfl (Est rfl (N.call (t_laws_toMethodS fc) rfl rfl rfl dc rfl (fun w Lp hA => hA.ro haL)) (fun k66 _ => ?_))))))))))))
              obtain ⟨a66, m66, c66⟩ := k66
              refine Ent.lenow m0 fun e66 l66 => ?_
              subst e66
              refine Est rfl (N.call0 t_laws_eqMethodS rfl rfl rfl dc (fun w Lp hA => ⟨hA.ow (mS (mS (mS (mS (mS (mS m0)))))), hA.ow m0⟩)) (fun _ _ => (Ent.b (fun q67 => ?_) (fun q67 => ?_)))
              · refine Ey rfl ((Y.not (b := true) rfl).yd) (En (Et (E.cf rfl (E.skipc (Et (Eq_ (Eq_ (Er (l := [0, 1, 2, 3, 4]) rfl (Emv rfl rfl (Emv rfl rfl (Est rfl (N.call (t_laws_toRuleS fc) rfl rfl rfl dc rfl (fun w Lp hA => hA.ro haRules)) (fun k71 _ => ?_))))))))))))
                obtain ⟨a71, m71, c71⟩ := k71
                refine Ent.lenow m0 fun e71 l71 => ?_
                subst e71
                refine Est rfl (N.call0 t_laws_eqRuleS rfl rfl rfl dc (fun w Lp hA => ⟨hA.ow (mS (mS (mS (mS (mS (mS m0)))))), hA.ow m0⟩)) (fun _ _ => (Ent.b (fun q72 => ?_) (fun q72 => ?_)))
                · refine Ey rfl ((Y.not (b := true) rfl).yd) (En (Et (E.cf rfl (E.skipc (Et (Eq_ (Eq_ (D.region (fun j => true) mixed (Dy 0 rfl (Y.ldS (cs := [_, _]) ty_Query rfl (Has.pt (mS (mS (mS m0)))) rfl) (Dy 1 rfl (Y.ldS (cs := [_, _]) ty_lQuery rfl (Has.pt (mS (mS (mS (mS (mS (mS (mS (mS (mS (mS (mS (mS (mS (mS m0))))))))))))))) rfl) (D.st 2 rfl rfl kr (fun _ => rfl) (N.call (t_laws_toQuery fc fc) rfl rfl rfl dc rfl (fun w Lp hA => ⟨hA.ro haQ_Head, hA.ro haQ_Atoms⟩)) (fun k76 _ => ?_))))))))))))
                  obtain ⟨⟨a76_0, m76_0, c76_0⟩, ⟨a76_1, m76_1, c76_1⟩⟩ := k76
                  refine Ent.lenow m0 fun e76_0 l76_0 => ?_
                  subst e76_0
                  refine Ent.lenow (mS m0) fun e76_1 l76_1 => ?_
                  subst e76_1
                  refine D.st 3 rfl rfl kr (fun _ => rfl) (N.call0 t_laws_eqQuery rfl rfl rfl dc (fun w Lp hA => ⟨hA.ow (mS (mS (mS (mS (mS (mS m0)))))), hA.ow (mS (mS (mS (mS (mS (mS (mS m0))))))), hA.ow m0, hA.ow (mS m0)⟩)) (fun _ _ => (Ent.b (fun q77 => ?_) (fun q77 => ?_)))
                  · refine Dyp 4 rfl (Y.not (b := true) rfl) (D.done kr (Et (E.cf rfl (E.skipc (Et (Eq_ (Er (l := [0]) rfl (Eas rfl rfl ?_))))))))
                    exact En (Et (E.ret (F.r1 br rfl rfl () trivial rfl (J := _) (.refl _) (.inl rfl))))
                  · refine Dyp 4 rfl (Y.not (b := false) rfl) (D.done kr (Et (E.ct rfl (Eq_ (Er (l := [0]) rfl (Eas rfl rfl ?_))))))
                    exact En (Et (E.ret (E.thr (F.r1 br rfl rfl () trivial (congrArg Value.bool (by simp_all)) (J := _) (.refl _) (.inl rfl)))))
                · refine Ey rfl ((Y.not (b := false) rfl).yd) (En (Et (E.ct rfl (Eq_ (Er (l := [0]) rfl (Eas rfl rfl ?_))))))
                  exact En (Et (E.ret (E.thr (F.r1 br rfl rfl () trivial (congrArg Value.bool (by simp_all)) (J := _) (.refl _) (.inl rfl)))))
              · refine Ey rfl ((Y.not (b := false) rfl).yd) (En (Et (E.ct rfl (Eq_ (Er (l := [0]) rfl (Eas rfl rfl ?_))))))
                exact En (Et (E.ret (E.thr (F.r1 br rfl rfl () trivial (congrArg Value.bool (by simp_all)) (J := _) (.refl _) (.inl rfl)))))
            · refine Ey rfl ((Y.not (b := false) rfl).yd) (En (Et (E.ct rfl (Eq_ (Er (l := [0]) rfl (Eas rfl rfl ?_))))))
              exact En (Et (E.ret (E.thr (F.r1 br rfl rfl () trivial (congrArg Value.bool (by simp_all)) (J := _) (.refl _) (.inl rfl)))))
end Go.Proofs.YtfnagmokplpnjaaGreat
