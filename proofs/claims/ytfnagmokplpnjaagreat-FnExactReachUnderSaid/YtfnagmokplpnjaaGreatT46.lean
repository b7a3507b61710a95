import Derived.Test.YtfnagmokplpnjaaGreatT45
import Derived.Test.YtfnagmokplpnjaaGreatT16
namespace Go.Proofs.YtfnagmokplpnjaaGreat
open Go.RowKit
set_option linter.unusedVariables false
set_option linter.unusedSimpArgs false
set_option maxHeartbeats 2000000
attribute [local irreducible] Nop Yd Yp Ent Has Tr FnP FnP2 Src listsF opnF opn1 opnR chainB uFin
theorem t_laws_FnExactReachUnder {a_aS : Option Addr} {m_aS c_aS : Nat} {aS : List Int} {a_aL : Option Addr} {m_aL c_aL : Nat} {aL : List (Int × List Int × Int × Int × Int)} {a_aRules : Option Addr} {m_aRules c_aRules : Nat} {aRules : List (Int × Int × List Int)} {a_aFacts : Option Addr} {m_aFacts c_aFacts : Nat} {aFacts : List (Int × List Int)} {a_aSeeds : Option Addr} {m_aSeeds c_aSeeds : Nat} {aSeeds : List Int} : Tr Tryz.prog 6 [.slice a_aS m_aS c_aS, .slice a_aL m_aL c_aL, .slice a_aRules m_aRules c_aRules, .slice a_aFacts m_aFacts c_aFacts, .slice a_aSeeds m_aSeeds c_aSeeds] (fun w L => Ro w L eIs [.slice a_aS m_aS c_aS] aS ∧ Ro w L eMethods [.slice a_aL m_aL c_aL] aL ∧ Ro w L eRules [.slice a_aRules m_aRules c_aRules] aRules ∧ Ro w L eFacts [.slice a_aFacts m_aFacts c_aFacts] aFacts ∧ Ro w L eIs [.slice a_aSeeds m_aSeeds c_aSeeds] aSeeds) [] (κ := Unit) (fun k => True) (fun k => .bool (true)) (fun k => []) := by
  refine Tr.intro Tryz.func6 rfl (n := 157) rfl (by decide +kernel) (Nat.le_of_ble_eq_true rfl) (fr := [(0, .slice a_aS m_aS c_aS), (1, .slice a_aL m_aL c_aL), (2, .slice a_aRules m_aRules c_aRules), (3, .slice a_aFacts m_aFacts c_aFacts), (4, .slice a_aSeeds m_aSeeds c_aSeeds)]) rfl fun w L hR => ?_
  obtain ⟨haS, haL, haRules, haFacts, haSeeds⟩ := hR
  obtain ⟨rfl, laS⟩ := haS.slen
  obtain ⟨rfl, laL⟩ := haL.slen
  obtain ⟨rfl, laRules⟩ := haRules.slen
  obtain ⟨rfl, laFacts⟩ := haFacts.slen
  obtain ⟨rfl, laSeeds⟩ := haSeeds.slen
  have jb_aS := totS_I (l := aS)
  have jb_aL := totS_lin (c := cE_Method) (t := (fun x => x.2.1.length)) (n := 4) (fun x => by simp only [cE_Method, totS_I]; omega) (l := aL)
  have jc_aL : totL (fun x => x.2.1.length) aL = aL.length + totS (fun x => x.2.1.length) aL := rfl
  have jb_aRules := totS_lin (c := cE_Rule) (t := (fun x => x.2.2.length)) (n := 2) (fun x => by simp only [cE_Rule, totS_I]; omega) (l := aRules)
  have jc_aRules : totL (fun x => x.2.2.length) aRules = aRules.length + totS (fun x => x.2.2.length) aRules := rfl
  have jb_aFacts := totS_lin (c := cE_Fact) (t := (fun x => x.2.length)) (n := 1) (fun x => by simp only [cE_Fact, totS_I]; omega) (l := aFacts)
  have jc_aFacts : totL (fun x => x.2.length) aFacts = aFacts.length + totS (fun x => x.2.length) aFacts := rfl
  have jb_aSeeds := totS_I (l := aSeeds)
  have r1 := reachU_tot (s := aS) (l := aL) (rules := aRules) (facts := aFacts) (seeds := aSeeds)
  refine E.seq (E.region (l := [0]) rfl (E.y rfl rfl (by decide) ((Y.as rfl).yd) (E.nil (E.thn (E.seq (E.seq (E.region (l := [0, 1, 2]) rfl (E.y rfl rfl (by decide) ((Y.mv rfl).yd) (E.y rfl rfl (by decide) ((Y.len us_Is rfl).yd) (E.y rfl rfl (by decide) ((Y.gtr rfl rfl).yd) (Ent.d (fun q25 => ?_) (fun q25 => ?_))))))))))))
  · refine E.nil (E.thn (E.ct rfl (E.seq (E.region (l := [0]) rfl (E.y rfl rfl (by decide) ((Y.as rfl).yd) ?_)))))
    exact E.nil (E.thn (E.ret (E.thr (F.r1 (Back.refl _ _) rfl rfl () trivial rfl (J := _) (.refl _) (.inl rfl)))))
  · refine E.nil (E.thn (E.cf rfl (E.skipc (E.thn (E.seq (E.seq (E.region (l := [0, 1, 2]) rfl (E.y rfl rfl (by decide) ((Y.mv rfl).yd) (E.y rfl rfl (by decide) ((Y.len us_Is rfl).yd) (E.y rfl rfl (by decide) ((Y.gtr rfl rfl).yd) (Ent.d (fun q28 => ?_) (fun q28 => ?_))))))))))))
    · refine E.nil (E.thn (E.ct rfl (E.seq (E.region (l := [0]) rfl (E.y rfl rfl (by decide) ((Y.as rfl).yd) ?_)))))
      exact E.nil (E.thn (E.ret (E.thr (F.r1 (Back.refl _ _) rfl rfl () trivial rfl (J := _) (.refl _) (.inl rfl)))))
    · refine E.nil (E.thn (E.cf rfl (E.skipc (E.thn (E.seq (E.region (l := [0]) rfl (E.y rfl rfl (by decide) ((Y.as rfl).yd) (E.nil (E.thn (E.seq (E.region (l := [0, 1, 2, 3]) rfl (E.y rfl rfl (by decide) ((Y.mv rfl).yd) (E.y rfl rfl (by decide) ((Y.mv rfl).yd) (E.st rfl rfl (N.call0 t_laws_szMethodS rfl rfl rfl (by decide) (fun w Lp hA => ⟨hA.ro haL, (by first | assumption | omega), (by first | assumption | omega)⟩)) (fun _ _ => (E.y rfl rfl (by decide) ((Y.as rfl).yd) (E.nil (E.thn (E.seq (E.seq (E.region (l := [0, 1]) rfl (E.y rfl rfl (by decide) ((Y.mv rfl).yd) (E.y rfl rfl (by decide) ((Y.lss rfl rfl).yd) (Ent.d (fun q33 => ?_) (fun q33 => ?_)))))))))))))))))))))))))
      · have z33 := szR_bad q33 (by omega)
        refine E.nil (E.thn (E.ct rfl (E.seq (E.region (l := [0]) rfl (E.y rfl rfl (by decide) ((Y.as rfl).yd) ?_)))))
        exact E.nil (E.thn (E.ret (E.thr (F.r1 (Back.refl _ _) rfl rfl () trivial rfl (J := _) (.refl _) (.inl rfl)))))
      · obtain ⟨z33, y33⟩ := szR_ok q33 (by omega)
        refine E.nil (E.thn (E.cf rfl (E.skipc (E.thn (E.seq (E.region (l := [0, 1, 2, 3]) rfl (E.y rfl rfl (by decide) ((Y.mv rfl).yd) (E.y rfl rfl (by decide) ((Y.mv rfl).yd) (E.st rfl rfl (N.call0 t_laws_szRuleS rfl rfl rfl (by decide) (fun w Lp hA => ⟨hA.ro haRules, (by first | assumption | omega), (by first | assumption | omega)⟩)) (fun _ _ => (E.y rfl rfl (by decide) ((Y.as rfl).yd) (E.nil (E.thn (E.seq (E.seq (E.region (l := [0, 1]) rfl (E.y rfl rfl (by decide) ((Y.mv rfl).yd) (E.y rfl rfl (by decide) ((Y.lss rfl rfl).yd) (Ent.d (fun q38 => ?_) (fun q38 => ?_))))))))))))))))))))
        · have z38 := szR_bad q38 (by omega)
          refine E.nil (E.thn (E.ct rfl (E.seq (E.region (l := [0]) rfl (E.y rfl rfl (by decide) ((Y.as rfl).yd) ?_)))))
          exact E.nil (E.thn (E.ret (E.thr (F.r1 (Back.refl _ _) rfl rfl () trivial rfl (J := _) (.refl _) (.inl rfl)))))
        · obtain ⟨z38, y38⟩ := szR_ok q38 (by omega)
          refine E.nil (E.thn (E.cf rfl (E.skipc (E.thn (E.seq (E.region (l := [0, 1, 2, 3]) rfl (E.y rfl rfl (by decide) ((Y.mv rfl).yd) (E.y rfl rfl (by decide) ((Y.mv rfl).yd) (E.st rfl rfl (N.call0 t_laws_szFactS rfl rfl rfl (by decide) (fun w Lp hA => ⟨hA.ro haFacts, (by first | assumption | omega), (by first | assumption | omega)⟩)) (fun _ _ => (E.y rfl rfl (by decide) ((Y.as rfl).yd) (E.nil (E.thn (E.seq (E.seq (E.region (l := [0, 1]) rfl (E.y rfl rfl (by decide) ((Y.mv rfl).yd) (E.y rfl rfl (by decide) ((Y.lss rfl rfl).yd) (Ent.d (fun q43 => ?_) (fun q43 => ?_))))))))))))))))))))
          · have z43 := szR_bad q43 (by omega)
            refine E.nil (E.thn (E.ct rfl (E.seq (E.region (l := [0]) rfl (E.y rfl rfl (by decide) ((Y.as rfl).yd) ?_)))))
            exact E.nil (E.thn (E.ret (E.thr (F.r1 (Back.refl _ _) rfl rfl () trivial rfl (J := _) (.refl _) (.inl rfl)))))
          · obtain ⟨z43, y43⟩ := szR_ok q43 (by omega)
            refine E.nil (E.thn (E.cf rfl (E.skipc (E.thn (E.seq (E.region (l := [0, 1, 2, 3, 4, 5, 6, 7, 8, 9, 10, 11]) rfl (E.y rfl rfl (by decide) ((Y.mv rfl).yd) (E.st rfl rfl (N.call (t_laws_toIntS (by first | omega | assumption | (constructor <;> omega))) rfl rfl rfl (by decide) rfl (fun w Lp hA => hA.ro haS)) (fun k45 _ => ?_)))))))))
            obtain ⟨a45, m45, c45⟩ := k45
            refine Ent.lenow m0 fun e45 l45 => ?_
            subst e45
            refine E.y rfl rfl (by decide) ((Y.mv rfl).yd) (E.st rfl rfl (N.call (t_laws_toMethodS (by first | omega | assumption | (constructor <;> omega))) rfl rfl rfl (by decide) rfl (fun w Lp hA => hA.ro haL)) (fun k47 _ => ?_))
            obtain ⟨a47, m47, c47⟩ := k47
            refine Ent.lenow m0 fun e47 l47 => ?_
            subst e47
            refine E.y rfl rfl (by decide) ((Y.mv rfl).yd) (E.st rfl rfl (N.call (t_laws_toRuleS (by first | omega | assumption | (constructor <;> omega))) rfl rfl rfl (by decide) rfl (fun w Lp hA => hA.ro haRules)) (fun k49 _ => ?_))
            obtain ⟨a49, m49, c49⟩ := k49
            refine Ent.lenow m0 fun e49 l49 => ?_
            subst e49
            refine E.y rfl rfl (by decide) ((Y.mv rfl).yd) (E.st rfl rfl (N.call (t_laws_toFactS (by first | omega | assumption | (constructor <;> omega))) rfl rfl rfl (by decide) rfl (fun w Lp hA => hA.ro haFacts)) (fun k51 _ => ?_))
            obtain ⟨a51, m51, c51⟩ := k51
            refine Ent.lenow m0 fun e51 l51 => ?_
            subst e51
            refine E.y rfl rfl (by decide) ((Y.mv rfl).yd) (E.st rfl rfl (N.call (t_laws_toIntS (by first | omega | assumption | (constructor <;> omega))) rfl rfl rfl (by decide) rfl (fun w Lp hA => hA.ro haSeeds)) (fun k53 _ => ?_))
            obtain ⟨a53, m53, c53⟩ := k53
            refine Ent.lenow m0 fun e53 l53 => ?_
            subst e53
            refine E.st rfl rfl (N.call (t_spec_ReachUnder (by first | omega | assumption | (constructor <;> omega))) rfl rfl rfl (by decide) rfl (fun w Lp hA => ⟨hA.ow (mS (mS (mS (mS m0)))), hA.ow (mS (mS (mS m0))), hA.ow (mS (mS m0)), hA.ow (mS m0), hA.ow m0⟩)) (fun k54 _ => ?_)
            obtain ⟨a54, m54, c54⟩ := k54
            refine Ent.lenow m0 fun e54 l54 => ?_
            subst e54
            refine E.y rfl rfl (by decide) ((Y.as rfl).yd) (E.nil (E.thn (E.seq (E.region (l := [0, 1, 2]) rfl (E.y rfl rfl (by decide) ((Y.mv rfl).yd) (E.st rfl rfl (N.call (t_laws_toIntS (by first | omega | assumption | (constructor <;> omega))) rfl rfl rfl (by decide) rfl (fun w Lp hA => hA.ro haS)) (fun k56 _ => ?_)))))))
            obtain ⟨a56, m56, c56⟩ := k56
            refine Ent.lenow m0 fun e56 l56 => ?_
            subst e56
            refine E.y rfl rfl (by decide) ((Y.as rfl).yd) (E.nil (E.thn (E.seq (E.region (l := [0, 1, 2]) rfl (E.y rfl rfl (by decide) ((Y.mv rfl).yd) (E.st rfl rfl (N.call (t_laws_toMethodS (by first | omega | assumption | (constructor <;> omega))) rfl rfl rfl (by decide) rfl (fun w Lp hA => hA.ro haL)) (fun k58 _ => ?_)))))))
            obtain ⟨a58, m58, c58⟩ := k58
            refine Ent.lenow m0 fun e58 l58 => ?_
            subst e58
            refine E.y rfl rfl (by decide) ((Y.as rfl).yd) (E.nil (E.thn (E.seq (E.region (l := [0, 1, 2]) rfl (E.y rfl rfl (by decide) ((Y.mv rfl).yd) (E.st rfl rfl (N.call (t_laws_toRuleS (by first | omega | assumption | (constructor <;> omega))) rfl rfl rfl (by decide) rfl (fun w Lp hA => hA.ro haRules)) (fun k60 _ => ?_)))))))
            obtain ⟨a60, m60, c60⟩ := k60
            refine Ent.lenow m0 fun e60 l60 => ?_
            subst e60
            refine E.y rfl rfl (by decide) ((Y.as rfl).yd) (E.nil (E.thn (E.seq (E.region (l := [0, 1, 2]) rfl (E.y rfl rfl (by decide) ((Y.mv rfl).yd) (E.st rfl rfl (N.call (t_laws_toFactS (by first | omega | assumption | (constructor <;> omega))) rfl rfl rfl (by decide) rfl (fun w Lp hA => hA.ro haFacts)) (fun k62 _ => ?_)))))))
            obtain ⟨a62, m62, c62⟩ := k62
            refine Ent.lenow m0 fun e62 l62 => ?_
            subst e62
            refine E.y rfl rfl (by decide) ((Y.as rfl).yd) (E.nil (E.thn (E.seq (E.region (l := [0, 1, 2]) rfl (E.y rfl rfl (by decide) ((Y.mv rfl).yd) (E.st rfl rfl (N.call (t_laws_toIntS (by first | omega | assumption | (constructor <;> omega))) rfl rfl rfl (by decide) rfl (fun w Lp hA => hA.ro haSeeds)) (fun k64 _ => ?_)))))))
            obtain ⟨a64, m64, c64⟩ := k64
            refine Ent.lenow m0 fun e64 l64 => ?_
            subst e64
            refine E.y rfl rfl (by decide) ((Y.as rfl).yd) (E.nil (E.thn (E.seq (E.region (l := [0, 1, 2, 3, 4, 5, 6]) rfl (E.y rfl rfl (by decide) ((Y.mv rfl).yd) (E.y rfl rfl (by decide) ((Y.mv rfl).yd) (E.y rfl rfl (by decide) ((Y.mv rfl).yd) (E.y rfl rfl (by decide) ((Y.mv rfl).yd) (E.y rfl rfl (by decide) ((Y.mv rfl).yd) (E.st rfl rfl (N.call (t_impl_ReachUnder (by first | omega | assumption | (constructor <;> omega))) rfl rfl rfl (by decide) rfl (fun w Lp hA => ⟨hA.ow (mS (mS (mS (mS m0)))), hA.ow (mS (mS (mS m0))), hA.ow (mS (mS m0)), hA.ow (mS m0), hA.ow m0⟩)) (fun k70 _ => ?_)))))))))))
            obtain ⟨a70, m70, c70⟩ := k70
            refine Ent.lenow m0 fun e70 l70 => ?_
            subst e70
            refine E.y rfl rfl (by decide) ((Y.as rfl).yd) (E.nil (E.thn (E.seq (E.seq (E.region (l := [0, 1, 2, 3]) rfl (E.y rfl rfl (by decide) ((Y.mv rfl).yd) (E.y rfl rfl (by decide) ((Y.mv rfl).yd) (E.st rfl rfl (N.call0 t_laws_eqFactS rfl rfl rfl (by decide) (fun w Lp hA => ⟨hA.ow m0, hA.ow (mS (mS (mS (mS (mS (mS m0))))))⟩)) (fun _ _ => (Ent.b (fun q73 => ?_) (fun q73 => ?_)))))))))))
            · refine E.y rfl rfl (by decide) ((Y.not (b := true) rfl).yd) (E.nil (E.thn (E.cf rfl (E.skipc (E.thn (E.seq (E.seq (E.region (l := [0, 1, 2, 3, 4]) rfl (E.y rfl rfl (by decide) ((Y.mv rfl).yd) (E.y rfl rfl (by decide) ((Y.mv rfl).yd) (E.st rfl rfl (N.call (t_laws_toIntS (by first | omega | assumption | (constructor <;> omega))) rfl rfl rfl (by decide) rfl (fun w Lp hA => hA.ro haS)) (fun k77 _ => ?_))))))))))))
              obtain ⟨a77, m77, c77⟩ := k77
              refine Ent.lenow m0 fun e77 l77 => ?_
              subst e77
              refine E.st rfl rfl (N.call0 t_laws_eqIntS rfl rfl rfl (by decide) (fun w Lp hA => ⟨hA.ow (mS (mS (mS (mS (mS (mS m0)))))), hA.ow m0⟩)) (fun _ _ => (Ent.b (fun q78 => ?_) (fun q78 => ?_)))
              · refine E.y rfl rfl (by decide) ((Y.not (b := true) rfl).yd) (E.nil (E.thn (E.cf rfl (E.skipc (E.thn (E.seq (E.seq (E.region (l := [0, 1, 2, 3, 4]) rfl (E.y rfl rfl (by decide) ((Y.mv rfl).yd) (E.y rfl rfl (by decide) ((Y.mv rfl).yd) (E.st rfl rfl (N.call (t_laws_toMethodS (by first | omega | assumption | (constructor <;> omega))) rfl rfl rfl (by decide) rfl (fun w Lp hA => hA.ro haL)) (fun k82 _ => ?_))))))))))))
                obtain ⟨a82, m82, c82⟩ := k82
                refine Ent.lenow m0 fun e82 l82 => ?_
                subst e82
                refine E.st rfl rfl (N.call0 t_laws_eqMethodS rfl rfl rfl (by decide) (fun w Lp hA => ⟨hA.ow (mS (mS (mS (mS (mS (mS m0)))))), hA.ow m0⟩)) (fun _ _ => (Ent.b (fun q83 => ?_) (fun q83 => ?_)))
                · refine E.y rfl rfl (by decide) ((Y.not (b := true) rfl).yd) (E.nil (E.thn (E.cf rfl (E.skipc (E.thn (E.seq (E.seq (E.region (l := [0, 1, 2, 3, 4]) rfl (E.y rfl rfl (by decide) ((Y.mv rfl).yd) (E.y rfl rfl (by decide) ((Y.mv rfl).yd) (E.st rfl rfl (N.call (t_laws_toRuleS (by first | omega | assumption | (constructor <;> omega))) rfl rfl rfl (by decide) rfl (fun w Lp hA => hA.ro haRules)) (fun k87 _ => ?_))))))))))))
                  obtain ⟨a87, m87, c87⟩ := k87
                  refine Ent.lenow m0 fun e87 l87 => ?_
                  subst e87
                  refine E.st rfl rfl (N.call0 t_laws_eqRuleS rfl rfl rfl (by decide) (fun w Lp hA => ⟨hA.ow (mS (mS (mS (mS (mS (mS m0)))))), hA.ow m0⟩)) (fun _ _ => (Ent.b (fun q88 => ?_) (fun q88 => ?_)))
                  · refine E.y rfl rfl (by decide) ((Y.not (b := true) rfl).yd) (E.nil (E.thn (E.cf rfl (E.skipc (E.thn (E.seq (E.seq (E.region (l := [0, 1, 2, 3, 4]) rfl (E.y rfl rfl (by decide) ((Y.mv rfl).yd) (E.y rfl rfl (by decide) ((Y.mv rfl).yd) (E.st rfl rfl (N.call (t_laws_toFactS (by first | omega | assumption | (constructor <;> omega))) rfl rfl rfl (by decide) rfl (fun w Lp hA => hA.ro haFacts)) (fun k92 _ => ?_))))))))))))
                    obtain ⟨a92, m92, c92⟩ := k92
                    refine Ent.lenow m0 fun e92 l92 => ?_
                    subst e92
                    refine E.st rfl rfl (N.call0 t_laws_eqFactS rfl rfl rfl (by decide) (fun w Lp hA => ⟨hA.ow (mS (mS (mS (mS (mS (mS m0)))))), hA.ow m0⟩)) (fun _ _ => (Ent.b (fun q93 => ?_) (fun q93 => ?_)))
                    · refine E.y rfl rfl (by decide) ((Y.not (b := true) rfl).yd) (E.nil (E.thn (E.cf rfl (E.skipc (E.thn (E.seq (E.seq (E.region (l := [0, 1, 2, 3, 4]) rfl (E.y rfl rfl (by decide) ((Y.mv rfl).yd) (E.y rfl rfl (by decide) ((Y.mv rfl).yd) (E.st rfl rfl (N.call (t_laws_toIntS (by first | omega | assumption | (constructor <;> omega))) rfl rfl rfl (by decide) rfl (fun w Lp hA => hA.ro haSeeds)) (fun k97 _ => ?_))))))))))))
                      obtain ⟨a97, m97, c97⟩ := k97
                      refine Ent.lenow m0 fun e97 l97 => ?_
                      subst e97
                      refine E.st rfl rfl (N.call0 t_laws_eqIntS rfl rfl rfl (by decide) (fun w Lp hA => ⟨hA.ow (mS (mS (mS (mS (mS (mS m0)))))), hA.ow m0⟩)) (fun _ _ => (Ent.b (fun q98 => ?_) (fun q98 => ?_)))
                      · refine E.y rfl rfl (by decide) ((Y.not (b := true) rfl).yd) (E.nil (E.thn (E.cf rfl (E.skipc (E.thn (E.seq (E.region (l := [0]) rfl (E.y rfl rfl (by decide) ((Y.as rfl).yd) (E.nil (E.thn (E.seq (E.region (l := [0, 1, 2, 3]) rfl (E.y rfl rfl (by decide) ((Y.mv rfl).yd) (E.y rfl rfl (by decide) ((Y.mv rfl).yd) (Ent.p10 (E.st rfl rfl (N.call (pre := [_]) t_laws_markIntS rfl rfl rfl (by decide) rfl (fun w Lp hA => ⟨(by first | assumption | omega), (by first | assumption | omega)⟩)) (fun _ _ => (E.y rfl rfl (by decide) ((Y.as rfl).yd) (E.nil (E.thn (E.seq (E.region (l := [0, 1, 2, 3]) rfl (E.y rfl rfl (by decide) ((Y.mv rfl).yd) (E.y rfl rfl (by decide) ((Y.mv rfl).yd) (Ent.p10 (E.st rfl rfl (N.call (pre := [_]) t_laws_markMethodS rfl rfl rfl (by decide) rfl (fun w Lp hA => ⟨(by first | assumption | omega), (by first | assumption | omega)⟩)) (fun _ _ => (E.y rfl rfl (by decide) ((Y.as rfl).yd) (E.nil (E.thn (E.seq (E.region (l := [0, 1, 2, 3]) rfl (E.y rfl rfl (by decide) ((Y.mv rfl).yd) (E.y rfl rfl (by decide) ((Y.mv rfl).yd) (Ent.p10 ?_)))))))))))))))))))))))))))))))))))
                        refine E.st rfl rfl (N.call (pre := [_]) t_laws_markRuleS rfl rfl rfl (by decide) rfl (fun w Lp hA => ⟨(by first | assumption | omega), (by first | assumption | omega)⟩)) (fun _ _ => (E.y rfl rfl (by decide) ((Y.as rfl).yd) (E.nil (E.thn (E.seq (E.region (l := [0, 1, 2, 3]) rfl (E.y rfl rfl (by decide) ((Y.mv rfl).yd) (E.y rfl rfl (by decide) ((Y.mv rfl).yd) (Ent.p10 (E.st rfl rfl (N.call (pre := [_]) t_laws_markFactS rfl rfl rfl (by decide) rfl (fun w Lp hA => ⟨(by first | assumption | omega), (by first | assumption | omega)⟩)) (fun _ _ => (E.y rfl rfl (by decide) ((Y.as rfl).yd) (E.nil (E.thn (E.seq (E.region (l := [0, 1, 2, 3]) rfl (E.y rfl rfl (by decide) ((Y.mv rfl).yd) (E.y rfl rfl (by decide) ((Y.mv rfl).yd) (Ent.p10 (E.st rfl rfl (N.call (pre := [_]) t_laws_markIntS rfl rfl rfl (by decide) rfl (fun w Lp hA => ⟨(by first | assumption | omega), (by first | assumption | omega)⟩)) (fun _ _ => (E.y rfl rfl (by decide) ((Y.as rfl).yd) (E.nil (E.thn (E.seq (E.seq (E.region (l := [0, 1, 2, 3, 4, 5, 6, 7]) rfl (E.y rfl rfl (by decide) ((Y.mv rfl).yd) (E.y rfl rfl (by decide) ((Y.lss rfl rfl).yd) (Ent.d (fun q116 => ?_) (fun q116 => ?_)))))))))))))))))))))))))))))))
                        · exact absurd q116 (by omega)
                        · refine E.y rfl rfl (by decide) ((Y.mv rfl).yd) (E.y rfl rfl (by decide) ((Y.mv rfl).yd) (E.y rfl rfl (by decide) ((Y.mv rfl).yd) (E.st rfl rfl (N.call0 t_laws_eqFactS rfl rfl rfl (by decide) (fun w Lp hA => ⟨hA.ow (mS (mS (mS (mS (mS (mS (mS (mS (mS (mS m0)))))))))), hA.ow (mS (mS (mS (mS (mS (mS (mS (mS (mS (mS (mS m0)))))))))))⟩)) (fun _ _ => (Ent.b (fun q120 => ?_) (fun q120 => ?_))))))
                          · refine E.y rfl rfl (by decide) ((Y.not (b := true) rfl).yd) (E.y rfl rfl (by decide) ((Y.pkf rfl rfl).yd) (E.nil (E.thn (E.cf rfl (E.skipc (E.thn (E.seq (E.region (l := [0]) rfl (E.y rfl rfl (by decide) ((Y.as rfl).yd) (E.nil (E.thn (E.seq (E.region (l := [0, 1, 2, 3]) rfl (E.y rfl rfl (by decide) ((Y.mv rfl).yd) (E.y rfl rfl (by decide) ((Y.mv rfl).yd) (Ent.p10 (E.st rfl rfl (N.call (pre := [_]) t_laws_markFactS rfl rfl rfl (by decide) rfl (fun w Lp hA => ⟨(by first | assumption | omega), (by first | assumption | omega)⟩)) (fun _ _ => (E.y rfl rfl (by decide) ((Y.as rfl).yd) (E.nil (E.thn (E.seq (E.region (l := [0]) rfl (E.y rfl rfl (by decide) ((Y.as rfl).yd) (E.nil (E.thn (E.seq (E.region (l := [0, 1, 2, 3]) rfl (E.y rfl rfl (by decide) ((Y.mv rfl).yd) (E.y rfl rfl (by decide) ((Y.mv rfl).yd) (E.st rfl rfl (N.call0 (t_laws_heldFactS (mkL_mk cm_Fact mm_Fact)) rfl rfl rfl (by decide) (fun w Lp hA => ⟨hA.ow m0, (by (try simp only [mkL_c cm_I, mkL_c cm_Is, mkL_c cm_Fact, mkL_c cm_Facts, mkL_c cm_Atom, mkL_c cm_Atoms, mkL_c cm_Access, mkL_c cm_Accesss, mkL_c cm_Step, mkL_c cm_Steps, mkL_c cm_Query, mkL_c cm_Querys, mkL_c cm_Binding, mkL_c cm_Bindings, mkL_c cm_Method, mkL_c cm_Methods, mkL_c cm_Rule, mkL_c cm_Rules, mkL_c cm_Line, mkL_c cm_Lines]); omega), (by (try simp only [mkL_c cm_I, mkL_c cm_Is, mkL_c cm_Fact, mkL_c cm_Facts, mkL_c cm_Atom, mkL_c cm_Atoms, mkL_c cm_Access, mkL_c cm_Accesss, mkL_c cm_Step, mkL_c cm_Steps, mkL_c cm_Query, mkL_c cm_Querys, mkL_c cm_Binding, mkL_c cm_Bindings, mkL_c cm_Method, mkL_c cm_Methods, mkL_c cm_Rule, mkL_c cm_Rules, mkL_c cm_Line, mkL_c cm_Lines]); omega)⟩)) (fun _ _ => (E.y rfl rfl (by decide) ((Y.as rfl).yd) (E.nil (E.thn (E.seq (E.seq (E.region (l := [0, 1]) rfl (E.y rfl rfl (by decide) ((Y.mv rfl).yd) (E.y rfl rfl (by decide) ((Y.lss rfl rfl).yd) (Ent.d (fun q130 => ?_) (fun q130 => ?_))))))))))))))))))))))))))))))))))))))))))
                            · exact absurd q130 (by omega)
                            · refine E.nil (E.thn (E.cf rfl (E.skipc (E.thn (E.seq (E.seq (E.region (l := [0, 1, 2]) rfl (E.y rfl rfl (by decide) ((Y.mv rfl).yd) (E.y rfl rfl (by decide) ((Y.mv rfl).yd) (E.y rfl rfl (by decide) ((Y.neq rfl rfl).yd) (Ent.d (fun q133 => ?_) (fun q133 => ?_))))))))))))
                              · exact absurd (by simp only [mkL_c cm_I, mkL_c cm_Is, mkL_c cm_Fact, mkL_c cm_Facts, mkL_c cm_Atom, mkL_c cm_Atoms, mkL_c cm_Access, mkL_c cm_Accesss, mkL_c cm_Step, mkL_c cm_Steps, mkL_c cm_Query, mkL_c cm_Querys, mkL_c cm_Binding, mkL_c cm_Bindings, mkL_c cm_Method, mkL_c cm_Methods, mkL_c cm_Rule, mkL_c cm_Rules, mkL_c cm_Line, mkL_c cm_Lines]) q133
                              · refine E.nil (E.thn (E.cf rfl (E.skipc (E.thn (E.seq (E.region (l := [0, 1, 2, 3, 4, 5, 6, 7, 8, 9, 10, 11]) rfl (E.y rfl rfl (by decide) ((Y.mv rfl).yd) (E.st rfl rfl (N.call (t_laws_toIntS (by first | omega | assumption | (constructor <;> omega))) rfl rfl rfl (by decide) rfl (fun w Lp hA => hA.ro haS)) (fun k135 _ => ?_)))))))))
                                obtain ⟨a135, m135, c135⟩ := k135
                                refine Ent.lenow m0 fun e135 l135 => ?_
                                subst e135
                                refine E.y rfl rfl (by decide) ((Y.mv rfl).yd) (E.st rfl rfl (N.call (t_laws_toMethodS (by first | omega | assumption | (constructor <;> omega))) rfl rfl rfl (by decide) rfl (fun w Lp hA => hA.ro haL)) (fun k137 _ => ?_))
                                obtain ⟨a137, m137, c137⟩ := k137
                                refine Ent.lenow m0 fun e137 l137 => ?_
                                subst e137
                                refine E.y rfl rfl (by decide) ((Y.mv rfl).yd) (E.st rfl rfl (N.call (t_laws_toRuleS (by first | omega | assumption | (constructor <;> omega))) rfl rfl rfl (by decide) rfl (fun w Lp hA => hA.ro haRules)) (fun k139 _ => ?_))
                                obtain ⟨a139, m139, c139⟩ := k139
                                refine Ent.lenow m0 fun e139 l139 => ?_
                                subst e139
                                refine E.y rfl rfl (by decide) ((Y.mv rfl).yd) (E.st rfl rfl (N.call (t_laws_toFactS (by first | omega | assumption | (constructor <;> omega))) rfl rfl rfl (by decide) rfl (fun w Lp hA => hA.ro haFacts)) (fun k141 _ => ?_))
                                obtain ⟨a141, m141, c141⟩ := k141
                                refine Ent.lenow m0 fun e141 l141 => ?_
                                subst e141
                                refine E.y rfl rfl (by decide) ((Y.mv rfl).yd) (E.st rfl rfl (N.call (t_laws_toIntS (by first | omega | assumption | (constructor <;> omega))) rfl rfl rfl (by decide) rfl (fun w Lp hA => hA.ro haSeeds)) (fun k143 _ => ?_))
                                obtain ⟨a143, m143, c143⟩ := k143
                                refine Ent.lenow m0 fun e143 l143 => ?_
                                subst e143
                                refine E.st rfl rfl (N.call (t_impl_ReachUnder (by first | omega | assumption | (constructor <;> omega))) rfl rfl rfl (by decide) rfl (fun w Lp hA => ⟨hA.ow (mS (mS (mS (mS m0)))), hA.ow (mS (mS (mS m0))), hA.ow (mS (mS m0)), hA.ow (mS m0), hA.ow m0⟩)) (fun k144 _ => ?_)
                                obtain ⟨a144, m144, c144⟩ := k144
                                refine Ent.lenow m0 fun e144 l144 => ?_
                                subst e144
                                refine E.y rfl rfl (by decide) ((Y.as rfl).yd) (E.nil (E.thn (E.seq (E.seq (E.region (l := [0, 1, 2, 3]) rfl (E.y rfl rfl (by decide) ((Y.mv rfl).yd) (E.y rfl rfl (by decide) ((Y.mv rfl).yd) (E.st rfl rfl (N.call0 t_laws_eqFactS rfl rfl rfl (by decide) (fun w Lp hA => ⟨hA.ow m0, hA.ow (mS (mS (mS (mS (mS (mS (mS (mS (mS (mS (mS (mS (mS (mS (mS (mS (mS m0)))))))))))))))))⟩)) (fun _ _ => (Ent.b (fun q147 => ?_) (fun q147 => ?_)))))))))))
                                · refine E.y rfl rfl (by decide) ((Y.not (b := true) rfl).yd) (E.nil (E.thn (E.cf rfl (E.skipc (E.thn (E.seq (E.region (l := [0]) rfl (E.y rfl rfl (by decide) ((Y.as rfl).yd) (E.nil (E.thn (E.seq (E.region (l := [0, 1, 2, 3]) rfl (E.y rfl rfl (by decide) ((Y.mv rfl).yd) (E.y rfl rfl (by decide) ((Y.mv rfl).yd) (E.st rfl rfl (N.call0 (t_laws_heldFactS (mkL_mk cm_Fact mm_Fact)) rfl rfl rfl (by decide) (fun w Lp hA => ⟨hA.ow (mS (mS (mS (mS (mS (mS m0)))))), (by (try simp only [mkL_c cm_I, mkL_c cm_Is, mkL_c cm_Fact, mkL_c cm_Facts, mkL_c cm_Atom, mkL_c cm_Atoms, mkL_c cm_Access, mkL_c cm_Accesss, mkL_c cm_Step, mkL_c cm_Steps, mkL_c cm_Query, mkL_c cm_Querys, mkL_c cm_Binding, mkL_c cm_Bindings, mkL_c cm_Method, mkL_c cm_Methods, mkL_c cm_Rule, mkL_c cm_Rules, mkL_c cm_Line, mkL_c cm_Lines]); omega), (by (try simp only [mkL_c cm_I, mkL_c cm_Is, mkL_c cm_Fact, mkL_c cm_Facts, mkL_c cm_Atom, mkL_c cm_Atoms, mkL_c cm_Access, mkL_c cm_Accesss, mkL_c cm_Step, mkL_c cm_Steps, mkL_c cm_Query, mkL_c cm_Querys, mkL_c cm_Binding, mkL_c cm_Bindings, mkL_c cm_Method, mkL_c cm_Methods, mkL_c cm_Rule, mkL_c cm_Rules, mkL_c cm_Line, mkL_c cm_Lines]); omega)⟩)) (fun _ _ => (E.y rfl rfl (by decide) ((Y.as rfl).yd) (E.nil (E.thn (E.seq (E.seq (E.region (l := [0, 1]) rfl (E.y rfl rfl (by decide) ((Y.mv rfl).yd) (E.y rfl rfl (by decide) ((Y.lss rfl rfl).yd) (Ent.d (fun q153 => ?_) (fun q153 => ?_))))))))))))))))))))))))))
                                  · exact absurd q153 (by omega)
                                  · refine E.nil (E.thn (E.cf rfl (E.skipc (E.thn (E.seq (E.seq (E.region (l := [0, 1, 2]) rfl (E.y rfl rfl (by decide) ((Y.mv rfl).yd) (E.y rfl rfl (by decide) ((Y.mv rfl).yd) (E.y rfl rfl (by decide) ((Y.neq rfl rfl).yd) (Ent.d (fun q156 => ?_) (fun q156 => ?_))))))))))))
                                    · exact absurd (by simp only [mkL_c cm_I, mkL_c cm_Is, mkL_c cm_Fact, mkL_c cm_Facts, mkL_c cm_Atom, mkL_c cm_Atoms, mkL_c cm_Access, mkL_c cm_Accesss, mkL_c cm_Step, mkL_c cm_Steps, mkL_c cm_Query, mkL_c cm_Querys, mkL_c cm_Binding, mkL_c cm_Bindings, mkL_c cm_Method, mkL_c cm_Methods, mkL_c cm_Rule, mkL_c cm_Rules, mkL_c cm_Line, mkL_c cm_Lines]) q156
                                    · refine E.nil (E.thn (E.cf rfl (E.skipc (E.thn (E.seq (E.region (l := [0]) rfl (E.y rfl rfl (by decide) ((Y.as rfl).yd) ?_)))))))
                                      exact E.nil (E.thn (E.ret (F.r1 (Back.refl _ _) rfl rfl () trivial rfl (J := _) (.refl _) (.inl rfl))))
                                · refine E.y rfl rfl (by decide) ((Y.not (b := false) rfl).yd) (E.nil (E.thn (E.ct rfl (E.seq (E.region (l := [0]) rfl (E.y rfl rfl (by decide) ((Y.as rfl).yd) ?_))))))
                                  exact E.nil (E.thn (E.ret (E.thr (F.r1 (Back.refl _ _) rfl rfl () trivial (congrArg Value.bool (by simp_all)) (J := _) (.refl _) (.inl rfl)))))
                          · refine E.y rfl rfl (by decide) ((Y.not (b := false) rfl).yd) (E.y rfl rfl (by decide) ((Y.pkf rfl rfl).yd) (E.nil (E.thn (E.ct rfl (E.seq (E.region (l := [0]) rfl (E.y rfl rfl (by decide) ((Y.as rfl).yd) ?_)))))))
                            exact E.nil (E.thn (E.ret (E.thr (F.r1 (Back.refl _ _) rfl rfl () trivial (congrArg Value.bool (by simp_all)) (J := _) (.refl _) (.inl rfl)))))
                      · refine E.y rfl rfl (by decide) ((Y.not (b := false) rfl).yd) (E.nil (E.thn (E.ct rfl (E.seq (E.region (l := [0]) rfl (E.y rfl rfl (by decide) ((Y.as rfl).yd) ?_))))))
                        exact E.nil (E.thn (E.ret (E.thr (F.r1 (Back.refl _ _) rfl rfl () trivial (congrArg Value.bool (by simp_all)) (J := _) (.refl _) (.inl rfl)))))
                    · refine E.y rfl rfl (by decide) ((Y.not (b := false) rfl).yd) (E.nil (E.thn (E.ct rfl (E.seq (E.region (l := [0]) rfl (E.y rfl rfl (by decide) ((Y.as rfl).yd) ?_))))))
                      exact E.nil (E.thn (E.ret (E.thr (F.r1 (Back.refl _ _) rfl rfl () trivial (congrArg Value.bool (by simp_all)) (J := _) (.refl _) (.inl rfl)))))
                  · refine E.y rfl rfl (by decide) ((Y.not (b := false) rfl).yd) (E.nil (E.thn (E.ct rfl (E.seq (E.region (l := [0]) rfl (E.y rfl rfl (by decide) ((Y.as rfl).yd) ?_))))))
                    exact E.nil (E.thn (E.ret (E.thr (F.r1 (Back.refl _ _) rfl rfl () trivial (congrArg Value.bool (by simp_all)) (J := _) (.refl _) (.inl rfl)))))
                · refine E.y rfl rfl (by decide) ((Y.not (b := false) rfl).yd) (E.nil (E.thn (E.ct rfl (E.seq (E.region (l := [0]) rfl (E.y rfl rfl (by decide) ((Y.as rfl).yd) ?_))))))
                  exact E.nil (E.thn (E.ret (E.thr (F.r1 (Back.refl _ _) rfl rfl () trivial (congrArg Value.bool (by simp_all)) (J := _) (.refl _) (.inl rfl)))))
              · refine E.y rfl rfl (by decide) ((Y.not (b := false) rfl).yd) (E.nil (E.thn (E.ct rfl (E.seq (E.region (l := [0]) rfl (E.y rfl rfl (by decide) ((Y.as rfl).yd) ?_))))))
                exact E.nil (E.thn (E.ret (E.thr (F.r1 (Back.refl _ _) rfl rfl () trivial (congrArg Value.bool (by simp_all)) (J := _) (.refl _) (.inl rfl)))))
            · refine E.y rfl rfl (by decide) ((Y.not (b := false) rfl).yd) (E.nil (E.thn (E.ct rfl (E.seq (E.region (l := [0]) rfl (E.y rfl rfl (by decide) ((Y.as rfl).yd) ?_))))))
              exact E.nil (E.thn (E.ret (E.thr (F.r1 (Back.refl _ _) rfl rfl () trivial (congrArg Value.bool (by simp_all)) (J := _) (.refl _) (.inl rfl)))))
end Go.Proofs.YtfnagmokplpnjaaGreat
