import Derived.Test.YtfnagmokplpnjaaGreatT39
namespace Go.Proofs.YtfnagmokplpnjaaGreat
open Go.RowKit
set_option linter.unusedVariables false
set_option linter.unusedSimpArgs false
set_option maxHeartbeats 2000000
attribute [local irreducible] Nop Yd Yp Ent Has Tr FnP FnP2 Src listsF opnF opn1 opnR chainB
theorem t_laws_FnExactIsReached {a_aS : Option Addr} {m_aS c_aS : Nat} {aS : List Int} {a_aL : Option Addr} {m_aL c_aL : Nat} {aL : List (Int × List Int × Int × Int × Int)} {a_aFacts : Option Addr} {m_aFacts c_aFacts : Nat} {aFacts : List (Int × List Int)} {a_aSeeds : Option Addr} {m_aSeeds c_aSeeds : Nat} {aSeeds : List Int} {a_aR_Facts : Option Addr} {m_aR_Facts c_aR_Facts : Nat} {aR_Facts : List (Int × List Int)} {a_aR_Values : Option Addr} {m_aR_Values c_aR_Values : Nat} {aR_Values : List Int} {a_aR_Log : Option Addr} {m_aR_Log c_aR_Log : Nat} {aR_Log : List (Int × List Int)} {aR_Rounds : Int} : Tr Tryz.prog 5 [.slice a_aS m_aS c_aS, .slice a_aL m_aL c_aL, .slice a_aFacts m_aFacts c_aFacts, .slice a_aSeeds m_aSeeds c_aSeeds, .agg #[.slice a_aR_Facts m_aR_Facts c_aR_Facts, .slice a_aR_Values m_aR_Values c_aR_Values, .slice a_aR_Log m_aR_Log c_aR_Log, .int .i64 aR_Rounds]] (fun w L => Ro w L eIs [.slice a_aS m_aS c_aS] aS ∧ Ro w L eMethods [.slice a_aL m_aL c_aL] aL ∧ Ro w L eFacts [.slice a_aFacts m_aFacts c_aFacts] aFacts ∧ Ro w L eIs [.slice a_aSeeds m_aSeeds c_aSeeds] aSeeds ∧ Ro w L eFacts [.slice a_aR_Facts m_aR_Facts c_aR_Facts] aR_Facts ∧ Ro w L eIs [.slice a_aR_Values m_aR_Values c_aR_Values] aR_Values ∧ Ro w L eAccesss [.slice a_aR_Log m_aR_Log c_aR_Log] aR_Log ∧ I64 aR_Rounds) [] (κ := Unit) (fun k => True) (fun k => .bool (true)) (fun k => []) := by
  refine Tr.intro Tryz.func5 rfl (n := 95) rfl (by decide +kernel) (Nat.le_of_ble_eq_true rfl) (fr := [(0, .slice a_aS m_aS c_aS), (1, .slice a_aL m_aL c_aL), (2, .slice a_aFacts m_aFacts c_aFacts), (3, .slice a_aSeeds m_aSeeds c_aSeeds), (4, .agg #[.slice a_aR_Facts m_aR_Facts c_aR_Facts, .slice a_aR_Values m_aR_Values c_aR_Values, .slice a_aR_Log m_aR_Log c_aR_Log, .int .i64 aR_Rounds])]) rfl fun w L hR => ?_
  obtain ⟨haS, haL, haFacts, haSeeds, haR_Facts, haR_Values, haR_Log, i6aR_Rounds⟩ := hR
  obtain ⟨rfl, laS⟩ := haS.slen
  obtain ⟨rfl, laL⟩ := haL.slen
  obtain ⟨rfl, laFacts⟩ := haFacts.slen
  obtain ⟨rfl, laSeeds⟩ := haSeeds.slen
  obtain ⟨rfl, laR_Facts⟩ := haR_Facts.slen
  obtain ⟨rfl, laR_Values⟩ := haR_Values.slen
  obtain ⟨rfl, laR_Log⟩ := haR_Log.slen
  refine E.seq (E.region (l := [0, 1]) rfl (E.st rfl rfl (N.box (cs := [_, _, _, _]) rfl (by decide) rfl) (fun b9 _ => (E.y rfl rfl (by decide) ((Y.as rfl).yd) (E.nil (E.thn (E.seq (E.seq (E.region (l := [0, 1, 2]) rfl (E.y rfl rfl (by decide) ((Y.mv rfl).yd) (E.y rfl rfl (by decide) ((Y.len us_Is rfl).yd) (E.y rfl rfl (by decide) ((Y.gtr rfl rfl).yd) (Ent.d (fun q21 => ?_) (fun q21 => ?_))))))))))))))
  · refine E.nil (E.thn (E.ct rfl (E.seq (E.region (l := [0]) rfl (E.y rfl rfl (by decide) ((Y.as rfl).yd) ?_)))))
    exact E.nil (E.thn (E.ret (E.thr (F.r1 (Back.refl _ _) rfl rfl () trivial rfl (J := _) (.refl _) (.inl rfl)))))
  · refine E.nil (E.thn (E.cf rfl (E.skipc (E.thn (E.seq (E.seq (E.region (l := [0, 1, 2]) rfl (E.y rfl rfl (by decide) ((Y.mv rfl).yd) (E.y rfl rfl (by decide) ((Y.len us_Is rfl).yd) (E.y rfl rfl (by decide) ((Y.gtr rfl rfl).yd) (Ent.d (fun q24 => ?_) (fun q24 => ?_))))))))))))
    · refine E.nil (E.thn (E.ct rfl (E.seq (E.region (l := [0]) rfl (E.y rfl rfl (by decide) ((Y.as rfl).yd) ?_)))))
      exact E.nil (E.thn (E.ret (E.thr (F.r1 (Back.refl _ _) rfl rfl () trivial rfl (J := _) (.refl _) (.inl rfl)))))
    · refine E.nil (E.thn (E.cf rfl (E.skipc (E.thn (E.seq (E.region (l := [0]) rfl (E.y rfl rfl (by decide) ((Y.as rfl).yd) (E.nil (E.thn (E.seq (E.region (l := [0, 1, 2, 3]) rfl (E.y rfl rfl (by decide) ((Y.mv rfl).yd) (E.y rfl rfl (by decide) ((Y.mv rfl).yd) (E.st rfl rfl (N.call0 t_laws_szMethodS rfl rfl rfl (by decide) (fun w Lp hA => ⟨hA.ro haL, (by first | assumption | omega), (by first | assumption | omega)⟩)) (fun _ _ => (E.y rfl rfl (by decide) ((Y.as rfl).yd) (E.nil (E.thn (E.seq (E.seq (E.region (l := [0, 1]) rfl (E.y rfl rfl (by decide) ((Y.mv rfl).yd) (E.y rfl rfl (by decide) ((Y.lss rfl rfl).yd) (Ent.d (fun q29 => ?_) (fun q29 => ?_)))))))))))))))))))))))))
      · have z29 := szR_bad q29 (by omega)
        refine E.nil (E.thn (E.ct rfl (E.seq (E.region (l := [0]) rfl (E.y rfl rfl (by decide) ((Y.as rfl).yd) ?_)))))
        exact E.nil (E.thn (E.ret (E.thr (F.r1 (Back.refl _ _) rfl rfl () trivial rfl (J := _) (.refl _) (.inl rfl)))))
      · obtain ⟨z29, y29⟩ := szR_ok q29 (by omega)
        refine E.nil (E.thn (E.cf rfl (E.skipc (E.thn (E.seq (E.region (l := [0, 1, 2, 3]) rfl (E.y rfl rfl (by decide) ((Y.mv rfl).yd) (E.y rfl rfl (by decide) ((Y.mv rfl).yd) (E.st rfl rfl (N.call0 t_laws_szFactS rfl rfl rfl (by decide) (fun w Lp hA => ⟨hA.ro haFacts, (by first | assumption | omega), (by first | assumption | omega)⟩)) (fun _ _ => (E.y rfl rfl (by decide) ((Y.as rfl).yd) (E.nil (E.thn (E.seq (E.seq (E.region (l := [0, 1]) rfl (E.y rfl rfl (by decide) ((Y.mv rfl).yd) (E.y rfl rfl (by decide) ((Y.lss rfl rfl).yd) (Ent.d (fun q34 => ?_) (fun q34 => ?_))))))))))))))))))))
        · have z34 := szR_bad q34 (by omega)
          refine E.nil (E.thn (E.ct rfl (E.seq (E.region (l := [0]) rfl (E.y rfl rfl (by decide) ((Y.as rfl).yd) ?_)))))
          exact E.nil (E.thn (E.ret (E.thr (F.r1 (Back.refl _ _) rfl rfl () trivial rfl (J := _) (.refl _) (.inl rfl)))))
        · obtain ⟨z34, y34⟩ := szR_ok q34 (by omega)
          refine E.nil (E.thn (E.cf rfl (E.skipc (E.thn (E.seq (E.region (l := [0, 1, 2, 3]) rfl (E.y rfl rfl (by decide) (Y.ldS (cs := [_, _, _, _]) ty_lReached rfl (Has.pt m0) rfl) (E.y rfl rfl (by decide) ((Y.mv rfl).yd) (E.st rfl rfl (N.call0 t_laws_szReached rfl rfl rfl (by decide) (fun w Lp hA => ⟨hA.ro haR_Facts, hA.ro haR_Values, hA.ro haR_Log, i6aR_Rounds, (by first | assumption | omega), (by first | assumption | omega)⟩)) (fun _ _ => (E.y rfl rfl (by decide) ((Y.as rfl).yd) (E.nil (E.thn (E.seq (E.seq (E.region (l := [0, 1]) rfl (E.y rfl rfl (by decide) ((Y.mv rfl).yd) (E.y rfl rfl (by decide) ((Y.lss rfl rfl).yd) (Ent.d (fun q39 => ?_) (fun q39 => ?_))))))))))))))))))))
          · have z39 := szR_bad q39 (by omega)
            refine E.nil (E.thn (E.ct rfl (E.seq (E.region (l := [0]) rfl (E.y rfl rfl (by decide) ((Y.as rfl).yd) ?_)))))
            exact E.nil (E.thn (E.ret (E.thr (F.r1 (Back.refl _ _) rfl rfl () trivial rfl (J := _) (.refl _) (.inl rfl)))))
          · obtain ⟨z39, y39⟩ := szR_ok q39 (by omega)
            refine E.nil (E.thn (E.cf rfl (E.skipc (E.thn (E.seq (D.region (fun j => true) mixed (D.yp 0 rfl rfl (by decide) (Y.mv rfl) (by kernel_rfl) (D.yp 2 rfl rfl (by decide) (Y.mv rfl) (by kernel_rfl) (D.yp 4 rfl rfl (by decide) (Y.mv rfl) (by kernel_rfl) (D.yp 6 rfl rfl (by decide) (Y.mv rfl) (by kernel_rfl) (D.y 8 rfl rfl (by decide) (Y.ldS (cs := [_, _, _, _]) ty_lReached rfl (Has.pt m0) rfl) (by kernel_rfl) (D.st 1 rfl rfl (by kernel_rfl) (fun _ => rfl) (N.call (t_laws_toIntS (by first | omega | assumption | (constructor <;> omega))) rfl rfl rfl (by decide) rfl (fun w Lp hA => hA.ro haS)) (fun k41 _ => ?_)))))))))))))
            obtain ⟨a41, m41, c41⟩ := k41
            refine Ent.lenow m0 fun e41 l41 => ?_
            subst e41
            refine D.st 3 rfl rfl (by kernel_rfl) (fun _ => rfl) (N.call (t_laws_toMethodS (by first | omega | assumption | (constructor <;> omega))) rfl rfl rfl (by decide) rfl (fun w Lp hA => hA.ro haL)) (fun k43 _ => ?_)
            obtain ⟨a43, m43, c43⟩ := k43
            refine Ent.lenow m0 fun e43 l43 => ?_
            subst e43
            refine D.st 5 rfl rfl (by kernel_rfl) (fun _ => rfl) (N.call (t_laws_toFactS (by first | omega | assumption | (constructor <;> omega))) rfl rfl rfl (by decide) rfl (fun w Lp hA => hA.ro haFacts)) (fun k45 _ => ?_)
            obtain ⟨a45, m45, c45⟩ := k45
            refine Ent.lenow m0 fun e45 l45 => ?_
            subst e45
            refine D.st 7 rfl rfl (by kernel_rfl) (fun _ => rfl) (N.call (t_laws_toIntS (by first | omega | assumption | (constructor <;> omega))) rfl rfl rfl (by decide) rfl (fun w Lp hA => hA.ro haSeeds)) (fun k47 _ => ?_)
            obtain ⟨a47, m47, c47⟩ := k47
            refine Ent.lenow m0 fun e47 l47 => ?_
            subst e47
            refine D.st 9 rfl rfl (by kernel_rfl) (fun _ => rfl) (N.call (t_laws_toReached (by first | omega | assumption | (constructor <;> omega)) (by first | omega | assumption | (constructor <;> omega)) (by first | omega | assumption | (constructor <;> omega))) rfl rfl rfl (by decide) rfl (fun w Lp hA => ⟨hA.ro haR_Facts, hA.ro haR_Values, hA.ro haR_Log, i6aR_Rounds⟩)) (fun k49 _ => ?_)
            obtain ⟨⟨a49_0, m49_0, c49_0⟩, ⟨a49_1, m49_1, c49_1⟩, ⟨a49_2, m49_2, c49_2⟩⟩ := k49
            refine Ent.lenow m0 fun e49_0 l49_0 => ?_
            subst e49_0
            refine Ent.lenow (mS m0) fun e49_1 l49_1 => ?_
            subst e49_1
            refine Ent.lenow (mS (mS m0)) fun e49_2 l49_2 => ?_
            subst e49_2
            refine D.st 10 rfl rfl (by kernel_rfl) (fun _ => rfl) (N.call0 (t_spec_IsReached (by first | omega | assumption | (constructor <;> omega))) rfl rfl rfl (by decide) (fun w Lp hA => ⟨hA.ow (mS (mS (mS (mS (mS (mS m0)))))), hA.ow (mS (mS (mS (mS (mS m0))))), hA.ow (mS (mS (mS (mS m0)))), hA.ow (mS (mS (mS m0))), hA.ow m0, hA.ow (mS m0), hA.ow (mS (mS m0)), i6aR_Rounds⟩)) (fun _ _ => (D.yp 11 rfl rfl (by decide) (Y.as rfl) (by kernel_rfl) (D.done (by kernel_rfl) (E.thn (E.seq (E.region (l := [0, 1, 2]) rfl (E.y rfl rfl (by decide) ((Y.mv rfl).yd) (E.st rfl rfl (N.call (t_laws_toIntS (by first | omega | assumption | (constructor <;> omega))) rfl rfl rfl (by decide) rfl (fun w Lp hA => hA.ro haS)) (fun k52 _ => ?_)))))))))
            obtain ⟨a52, m52, c52⟩ := k52
            refine Ent.lenow m0 fun e52 l52 => ?_
            subst e52
            refine E.y rfl rfl (by decide) ((Y.as rfl).yd) (E.nil (E.thn (E.seq (E.region (l := [0, 1, 2]) rfl (E.y rfl rfl (by decide) ((Y.mv rfl).yd) (E.st rfl rfl (N.call (t_laws_toMethodS (by first | omega | assumption | (constructor <;> omega))) rfl rfl rfl (by decide) rfl (fun w Lp hA => hA.ro haL)) (fun k54 _ => ?_)))))))
            obtain ⟨a54, m54, c54⟩ := k54
            refine Ent.lenow m0 fun e54 l54 => ?_
            subst e54
            refine E.y rfl rfl (by decide) ((Y.as rfl).yd) (E.nil (E.thn (E.seq (E.region (l := [0, 1, 2]) rfl (E.y rfl rfl (by decide) ((Y.mv rfl).yd) (E.st rfl rfl (N.call (t_laws_toFactS (by first | omega | assumption | (constructor <;> omega))) rfl rfl rfl (by decide) rfl (fun w Lp hA => hA.ro haFacts)) (fun k56 _ => ?_)))))))
            obtain ⟨a56, m56, c56⟩ := k56
            refine Ent.lenow m0 fun e56 l56 => ?_
            subst e56
            refine E.y rfl rfl (by decide) ((Y.as rfl).yd) (E.nil (E.thn (E.seq (E.region (l := [0, 1, 2]) rfl (E.y rfl rfl (by decide) ((Y.mv rfl).yd) (E.st rfl rfl (N.call (t_laws_toIntS (by first | omega | assumption | (constructor <;> omega))) rfl rfl rfl (by decide) rfl (fun w Lp hA => hA.ro haSeeds)) (fun k58 _ => ?_)))))))
            obtain ⟨a58, m58, c58⟩ := k58
            refine Ent.lenow m0 fun e58 l58 => ?_
            subst e58
            refine E.y rfl rfl (by decide) ((Y.as rfl).yd) (E.nil (E.thn (E.seq (E.region (l := [0, 1, 2, 3]) rfl (E.y rfl rfl (by decide) (Y.ldS (cs := [_, _, _, _]) ty_lReached rfl (Has.pt (mS (mS (mS (mS (mS (mS (mS (mS (mS (mS (mS m0)))))))))))) rfl) (E.st rfl rfl (N.call (t_laws_toReached (by first | omega | assumption | (constructor <;> omega)) (by first | omega | assumption | (constructor <;> omega)) (by first | omega | assumption | (constructor <;> omega))) rfl rfl rfl (by decide) rfl (fun w Lp hA => ⟨hA.ro haR_Facts, hA.ro haR_Values, hA.ro haR_Log, i6aR_Rounds⟩)) (fun k60 _ => ?_)))))))
            obtain ⟨⟨a60_0, m60_0, c60_0⟩, ⟨a60_1, m60_1, c60_1⟩, ⟨a60_2, m60_2, c60_2⟩⟩ := k60
            refine Ent.lenow m0 fun e60_0 l60_0 => ?_
            subst e60_0
            refine Ent.lenow (mS m0) fun e60_1 l60_1 => ?_
            subst e60_1
            refine Ent.lenow (mS (mS m0)) fun e60_2 l60_2 => ?_
            subst e60_2
            refine E.st rfl rfl (N.alloc ty_Reached (by decide)) (fun b17 _ => (E.st rfl rfl (N.sto (vs := [_, _, _, _]) (cs' := [_, _, _, _]) ty_Reached rfl rfl rfl rfl rfl (Nat.le_of_ble_eq_true rfl) rfl) (fun _ _ => (E.nil (E.thn (E.seq (E.region (l := [0, 1, 2, 3, 4, 5, 6]) rfl (E.y rfl rfl (by decide) ((Y.mv rfl).yd) (E.y rfl rfl (by decide) ((Y.mv rfl).yd) (E.y rfl rfl (by decide) ((Y.mv rfl).yd) (E.y rfl rfl (by decide) ((Y.mv rfl).yd) (E.y rfl rfl (by decide) (Y.ldS (cs := [_, _, _, _]) ty_Reached rfl (Has.pt m0) rfl) ?_))))))))))))
            refine E.st rfl rfl (N.call0 (t_impl_IsReached (by first | omega | assumption | (constructor <;> omega))) rfl rfl rfl (by decide) (fun w Lp hA => ⟨hA.ow (mS (mS (mS (mS (mS (mS (mS m0))))))), hA.ow (mS (mS (mS (mS (mS (mS m0)))))), hA.ow (mS (mS (mS (mS (mS m0))))), hA.ow (mS (mS (mS (mS m0)))), hA.ow (mS m0), hA.ow (mS (mS m0)), hA.ow (mS (mS (mS m0))), i6aR_Rounds⟩)) (fun _ _ => (E.y rfl rfl (by decide) ((Y.as rfl).yd) (E.nil (E.thn (E.seq (E.seq (E.region (l := [0, 1, 2]) rfl (E.y rfl rfl (by decide) ((Y.mv rfl).yd) (E.y rfl rfl (by decide) ((Y.mv rfl).yd) (E.y rfl rfl (by decide) ((Y.neqB (by kernel_rfl) rfl rfl).yd) (Ent.d (fun q69 => ?_) (fun q69 => ?_))))))))))))
            · exact absurd rfl q69
            · refine E.nil (E.thn (E.cf rfl (E.skipc (E.thn (E.seq (E.seq (E.region (l := [0, 1, 2, 3, 4]) rfl (E.y rfl rfl (by decide) ((Y.mv rfl).yd) (E.y rfl rfl (by decide) ((Y.mv rfl).yd) (E.st rfl rfl (N.call (t_laws_toIntS (by first | omega | assumption | (constructor <;> omega))) rfl rfl rfl (by decide) rfl (fun w Lp hA => hA.ro haS)) (fun k72 _ => ?_)))))))))))
              obtain ⟨a72, m72, c72⟩ := k72
              refine Ent.lenow m0 fun e72 l72 => ?_
              subst e72
              refine E.st rfl rfl (N.call0 t_laws_eqIntS rfl rfl rfl (by decide) (fun w Lp hA => ⟨hA.ow (mS (mS (mS (mS (mS (mS (mS (mS m0)))))))), hA.ow m0⟩)) (fun _ _ => (Ent.b (fun q73 => ?_) (fun q73 => ?_)))
              · refine E.y rfl rfl (by decide) ((Y.not (b := true) rfl).yd) (E.nil (E.thn (E.cf rfl (E.skipc (E.thn (E.seq (E.seq (E.region (l := [0, 1, 2, 3, 4]) rfl (E.y rfl rfl (by decide) ((Y.mv rfl).yd) (E.y rfl rfl (by decide) ((Y.mv rfl).yd) (E.st rfl rfl (N.call (t_laws_toMethodS (by first | omega | assumption | (constructor <;> omega))) rfl rfl rfl (by decide) rfl (fun w Lp hA => hA.ro haL)) (fun k77 _ => ?_))))))))))))
                obtain ⟨a77, m77, c77⟩ := k77
                refine Ent.lenow m0 fun e77 l77 => ?_
                subst e77
                refine E.st rfl rfl (N.call0 t_laws_eqMethodS rfl rfl rfl (by decide) (fun w Lp hA => ⟨hA.ow (mS (mS (mS (mS (mS (mS (mS (mS m0)))))))), hA.ow m0⟩)) (fun _ _ => (Ent.b (fun q78 => ?_) (fun q78 => ?_)))
                · refine E.y rfl rfl (by decide) ((Y.not (b := true) rfl).yd) (E.nil (E.thn (E.cf rfl (E.skipc (E.thn (E.seq (E.seq (E.region (l := [0, 1, 2, 3, 4]) rfl (E.y rfl rfl (by decide) ((Y.mv rfl).yd) (E.y rfl rfl (by decide) ((Y.mv rfl).yd) (E.st rfl rfl (N.call (t_laws_toFactS (by first | omega | assumption | (constructor <;> omega))) rfl rfl rfl (by decide) rfl (fun w Lp hA => hA.ro haFacts)) (fun k82 _ => ?_))))))))))))
                  obtain ⟨a82, m82, c82⟩ := k82
                  refine Ent.lenow m0 fun e82 l82 => ?_
                  subst e82
                  refine E.st rfl rfl (N.call0 t_laws_eqFactS rfl rfl rfl (by decide) (fun w Lp hA => ⟨hA.ow (mS (mS (mS (mS (mS (mS (mS (mS m0)))))))), hA.ow m0⟩)) (fun _ _ => (Ent.b (fun q83 => ?_) (fun q83 => ?_)))
                  · refine E.y rfl rfl (by decide) ((Y.not (b := true) rfl).yd) (E.nil (E.thn (E.cf rfl (E.skipc (E.thn (E.seq (E.seq (E.region (l := [0, 1, 2, 3, 4]) rfl (E.y rfl rfl (by decide) ((Y.mv rfl).yd) (E.y rfl rfl (by decide) ((Y.mv rfl).yd) (E.st rfl rfl (N.call (t_laws_toIntS (by first | omega | assumption | (constructor <;> omega))) rfl rfl rfl (by decide) rfl (fun w Lp hA => hA.ro haSeeds)) (fun k87 _ => ?_))))))))))))
                    obtain ⟨a87, m87, c87⟩ := k87
                    refine Ent.lenow m0 fun e87 l87 => ?_
                    subst e87
                    refine E.st rfl rfl (N.call0 t_laws_eqIntS rfl rfl rfl (by decide) (fun w Lp hA => ⟨hA.ow (mS (mS (mS (mS (mS (mS (mS (mS m0)))))))), hA.ow m0⟩)) (fun _ _ => (Ent.b (fun q88 => ?_) (fun q88 => ?_)))
                    · refine E.y rfl rfl (by decide) ((Y.not (b := true) rfl).yd) (E.nil (E.thn (E.cf rfl (E.skipc (E.thn (E.seq (E.seq (D.region (fun j => true) mixed (D.y 0 rfl rfl (by decide) (Y.ldS (cs := [_, _, _, _]) ty_Reached rfl (Has.pt (mS (mS (mS (mS m0))))) rfl) (by kernel_rfl) (D.y 1 rfl rfl (by decide) (Y.ldS (cs := [_, _, _, _]) ty_lReached rfl (Has.pt (mS (mS (mS (mS (mS (mS (mS (mS (mS (mS (mS (mS (mS (mS (mS (mS (mS (mS (mS m0)))))))))))))))))))) rfl) (by kernel_rfl) (D.st 2 rfl rfl (by kernel_rfl) (fun _ => rfl) (N.call (t_laws_toReached (by first | omega | assumption | (constructor <;> omega)) (by first | omega | assumption | (constructor <;> omega)) (by first | omega | assumption | (constructor <;> omega))) rfl rfl rfl (by decide) rfl (fun w Lp hA => ⟨hA.ro haR_Facts, hA.ro haR_Values, hA.ro haR_Log, i6aR_Rounds⟩)) (fun k92 _ => ?_))))))))))))
                      obtain ⟨⟨a92_0, m92_0, c92_0⟩, ⟨a92_1, m92_1, c92_1⟩, ⟨a92_2, m92_2, c92_2⟩⟩ := k92
                      refine Ent.lenow m0 fun e92_0 l92_0 => ?_
                      subst e92_0
                      refine Ent.lenow (mS m0) fun e92_1 l92_1 => ?_
                      subst e92_1
                      refine Ent.lenow (mS (mS m0)) fun e92_2 l92_2 => ?_
                      subst e92_2
                      refine D.st 3 rfl rfl (by kernel_rfl) (fun _ => rfl) (N.call0 t_laws_eqReached rfl rfl rfl (by decide) (fun w Lp hA => ⟨hA.ow (mS (mS (mS (mS (mS (mS (mS (mS m0)))))))), hA.ow (mS (mS (mS (mS (mS (mS (mS (mS (mS m0))))))))), hA.ow (mS (mS (mS (mS (mS (mS (mS (mS (mS (mS m0)))))))))), i6aR_Rounds, hA.ow m0, hA.ow (mS m0), hA.ow (mS (mS m0)), i6aR_Rounds⟩)) (fun _ _ => (Ent.b (fun q93 => ?_) (fun q93 => ?_)))
                      · refine D.yp 4 rfl rfl (by decide) (Y.not (b := true) rfl) (by kernel_rfl) (D.done (by kernel_rfl) (E.thn (E.cf rfl (E.skipc (E.thn (E.seq (E.region (l := [0]) rfl (E.y rfl rfl (by decide) ((Y.as rfl).yd) ?_))))))))
                        exact E.nil (E.thn (E.ret (F.r1 (Back.refl _ _) rfl rfl () trivial rfl (J := _) (.refl _) (.inl rfl))))
                      · refine D.yp 4 rfl rfl (by decide) (Y.not (b := false) rfl) (by kernel_rfl) (D.done (by kernel_rfl) (E.thn (E.ct rfl (E.seq (E.region (l := [0]) rfl (E.y rfl rfl (by decide) ((Y.as rfl).yd) ?_))))))
                        exact E.nil (E.thn (E.ret (E.thr (F.r1 (Back.refl _ _) rfl rfl () trivial (congrArg Value.bool (by simp_all)) (J := _) (.refl _) (.inl rfl)))))
                    · refine E.y rfl rfl (by decide) ((Y.not (b := false) rfl).yd) (E.nil (E.thn (E.ct rfl (E.seq (E.region (l := [0]) rfl (E.y rfl rfl (by decide) ((Y.as rfl).yd) ?_))))))
                      exact E.nil (E.thn (E.ret (E.thr (F.r1 (Back.refl _ _) rfl rfl () trivial (congrArg Value.bool (by simp_all)) (J := _) (.refl _) (.inl rfl)))))
                  · refine E.y rfl rfl (by decide) ((Y.not (b := false) rfl).yd) (E.nil (E.thn (E.ct rfl (E.seq (E.region (l := [0]) rfl (E.y rfl rfl (by decide) ((Y.as rfl).yd) ?_))))))
                    exact E.nil (E.thn (E.ret (E.thr (F.r1 (Back.refl _ _) rfl rfl () trivial (congrArg Value.bool (by simp_all)) (J := _) (.refl _) (.inl rfl)))))
                · refine E.y rfl rfl (by decide) ((Y.not (b := false) rfl).yd) (E.nil (E.thn (E.ct rfl (E.seq (E.region (l := [0]) rfl (E.y rfl rfl (by decide) ((Y.as rfl).yd) ?_))))))
                  exact E.nil (E.thn (E.ret (E.thr (F.r1 (Back.refl _ _) rfl rfl () trivial (congrArg Value.bool (by simp_all)) (J := _) (.refl _) (.inl rfl)))))
              · refine E.y rfl rfl (by decide) ((Y.not (b := false) rfl).yd) (E.nil (E.thn (E.ct rfl (E.seq (E.region (l := [0]) rfl (E.y rfl rfl (by decide) ((Y.as rfl).yd) ?_))))))
                exact E.nil (E.thn (E.ret (E.thr (F.r1 (Back.refl _ _) rfl rfl () trivial (congrArg Value.bool (by simp_all)) (J := _) (.refl _) (.inl rfl)))))
end Go.Proofs.YtfnagmokplpnjaaGreat
