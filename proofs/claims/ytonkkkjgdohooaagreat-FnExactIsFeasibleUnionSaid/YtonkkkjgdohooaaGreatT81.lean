import Derived.Test.YtonkkkjgdohooaaGreatBs
import Derived.Test.YtonkkkjgdohooaaGreatT80
import Derived.Test.YtonkkkjgdohooaaGreatT1
import Derived.Test.YtonkkkjgdohooaaGreatBc
import Derived.Test.YtonkkkjgdohooaaGreatT5
namespace Go.Proofs.YtonkkkjgdohooaaGreat
open Go.RowKit
set_option linter.unusedVariables false
set_option linter.unusedSimpArgs false
set_option maxHeartbeats 2000000
attribute [local irreducible] Nop Yd Yp Ent Has Tr FnP FnP2 Src listsF opnF opn1 opnR chainB
theorem t_laws_FnExactIsFeasibleUnion {a_aS : Option Addr} {m_aS c_aS : Nat} {aS : List Int} {a_aL : Option Addr} {m_aL c_aL : Nat} {aL : List (Int × List Int × Int × Int × Int)} {a_aU : Option Addr} {m_aU c_aU : Nat} {aU : List (List Int × List (Int × List Int))} : Tr Tryz.prog 8 [.slice a_aS m_aS c_aS, .slice a_aL m_aL c_aL, .slice a_aU m_aU c_aU] (fun w L => Ro w L eIs [.slice a_aS m_aS c_aS] aS ∧ Ro w L eMethods [.slice a_aL m_aL c_aL] aL ∧ Ro w L eQuerys [.slice a_aU m_aU c_aU] aU) [] (κ := Unit) (fun k => True) (fun k => .bool (true)) (fun k => []) := by
  refine Tr.intro Tryz.func8 rfl (n := 61) rfl (by decide +kernel) bl (fr := [(0, .slice a_aS m_aS c_aS), (1, .slice a_aL m_aL c_aL), (2, .slice a_aU m_aU c_aU)]) rfl fun w L hR => ?_
  obtain ⟨haS, haL, haU⟩ := hR
  obtain ⟨rfl, laS⟩ := haS.slen
  obtain ⟨rfl, laL⟩ := haL.slen
  obtain ⟨rfl, laU⟩ := haU.slen
  have jb_aS := totS_I (l := aS)
  have jb_aL := totS_lin (c := cE_Method) (t := (fun x => x.2.1.length)) (n := 4) (fun x => by simp only [cE_Method, totS_I]; omega) (l := aL)
  have jc_aL : totL (fun x => x.2.1.length) aL = aL.length + totS (fun x => x.2.1.length) aL := rfl
  have jb_aU := totS_lin (c := cE_Query) (t := (fun x => x.1.length + totL (fun x => x.2.length) x.2)) (n := 0) (fun x => by have h1 := totS_lin (c := cE_Atom) (t := fun x => x.2.length) (n := 1) (fun x => by simp only [cE_Atom, totS_I]; omega) (l := x.2); simp only [cE_Query, totS_I, totL] at h1 ⊢; omega) (l := aU)
  have jc_aU : totL (fun x => x.1.length + totL (fun x => x.2.length) x.2) aU = aU.length + totS (fun x => x.1.length + totL (fun x => x.2.length) x.2) aU := rfl
  refine Ew Z1 (Eas rfl rfl (Eu (Eq_ (Ew Z3 (Emv rfl rfl (Ey rfl ((Y.len us_Is rfl).yd) (Ey rfl ((Y.gtr rfl rfl).yd) (Ent.d (fun q15 => ?_) (fun q15 => ?_)))))))))
  · refine Eu (E.ct rfl (Ew Z1 (Eas rfl rfl ?_)))
    exact Eu (E.ret (E.thr (Fg rfl rfl () rfl rfl)))
  · refine Eu (E.cf rfl (E.skipc (Et (Ew Z1 (Eas rfl rfl (Ev Z4 (Emv rfl rfl (Emv rfl rfl (Est rfl (N.call0 t_laws_szMethodS rfl rfl rfl dc (fun w Lp hA => ⟨hA.ro haL, (by first | assumption | omega), (by first | assumption | omega)⟩)) (fun _ _ => (Eas rfl rfl (Eu (Eq_ (Ew Z2 (Emv rfl rfl (Ey rfl ((Y.lss rfl rfl).yd) (Ent.d (fun q20 => ?_) (fun q20 => ?_))))))))))))))))))
    · have z20 := szR_bad q20 om
      refine Eu (E.ct rfl (Ew Z1 (Eas rfl rfl ?_)))
      exact Eu (E.ret (E.thr (Fg rfl rfl () rfl rfl)))
    · obtain ⟨z20, y20⟩ := szR_ok q20 om
      refine Eu (E.cf rfl (E.skipc (Et (Ew Z4 (Emv rfl rfl (Emv rfl rfl (Est rfl (N.call0 t_laws_szQueryS rfl rfl rfl dc (fun w Lp hA => ⟨hA.ro haU, (by first | assumption | omega), (by first | assumption | omega)⟩)) (fun _ _ => (Eas rfl rfl (Eu (Eq_ (Ew Z2 (Emv rfl rfl (Ey rfl ((Y.lss rfl rfl).yd) (Ent.d (fun q25 => ?_) (fun q25 => ?_))))))))))))))))
      · have z25 := szR_bad q25 om
        refine Eu (E.ct rfl (Ew Z1 (Eas rfl rfl ?_)))
        exact Eu (E.ret (E.thr (Fg rfl rfl () rfl rfl)))
      · obtain ⟨z25, y25⟩ := szR_ok q25 om
        refine Eu (E.cf rfl (E.skipc (Et (Ew Z8 (Emv rfl rfl (Est rfl (N.call (t_laws_toIntS fo) rfl rfl rfl dc rfl (fun w Lp hA => hA.ro haS)) (fun k27 _ => ?_)))))))
        obtain ⟨a27, m27, c27⟩ := k27
        refine Ent.lenow m0 fun e27 l27 => ?_
        subst e27
        refine Emv rfl rfl (Est rfl (N.call (t_laws_toMethodS fo) rfl rfl rfl dc rfl (fun w Lp hA => hA.ro haL)) (fun k29 _ => ?_))
        obtain ⟨a29, m29, c29⟩ := k29
        refine Ent.lenow m0 fun e29 l29 => ?_
        subst e29
        refine Emv rfl rfl (Est rfl (N.call (t_laws_toQueryS fo) rfl rfl rfl dc rfl (fun w Lp hA => hA.ro haU)) (fun k31 _ => ?_))
        obtain ⟨a31, m31, c31⟩ := k31
        refine Ent.lenow m0 fun e31 l31 => ?_
        subst e31
        refine Est rfl (N.call0 (t_spec_IsFeasibleUnion (union_len (u := aU) om) (union_lenh (u := aU) om) fo) rfl rfl rfl dc (fun w Lp hA => ⟨hA.ow (mS (mS m0)), hA.ow (mS m0), hA.ow m0⟩)) (fun _ _ => (Eas rfl rfl (Ev Z3 (Emv rfl rfl (Est rfl (N.call (t_laws_toIntS fo) rfl rfl rfl dc rfl (fun w Lp hA => hA.ro haS)) (fun k34 _ => ?_))))))
        obtain ⟨a34, m34, c34⟩ := k34
        refine Ent.lenow m0 fun e34 l34 => ?_
        subst e34
        refine Eas rfl rfl (Ev Z3 (Emv rfl rfl (Est rfl (N.call (t_laws_toMethodS fo) rfl rfl rfl dc rfl (fun w Lp hA => hA.ro haL)) (fun k36 _ => ?_))))
        obtain ⟨a36, m36, c36⟩ := k36
        refine Ent.lenow m0 fun e36 l36 => ?_
        subst e36
        refine Eas rfl rfl (Ev Z3 (Emv rfl rfl (Est rfl (N.call (t_laws_toQueryS fo) rfl rfl rfl dc rfl (fun w Lp hA => hA.ro haU)) (fun k38 _ => ?_))))
        obtain ⟨a38, m38, c38⟩ := k38
        refine Ent.lenow m0 fun e38 l38 => ?_
        subst e38
        refine Eas rfl rfl (Ev Z5 (Emv rfl rfl (Emv rfl rfl (Emv rfl rfl (Est rfl (N.call0 (t_impl_IsFeasibleUnion (union_len (u := aU) om) (union_lenh (u := aU) om) fo) rfl rfl rfl dc (fun w Lp hA => ⟨hA.ow (mS (mS m0)), hA.ow (mS m0), hA.ow m0⟩)) (fun _ _ => (Eas rfl rfl (Eu (Eq_ (Ew Z3 (Emv rfl rfl (Emv rfl rfl (Ey rfl ((Y.neqB kr rfl rfl).yd) (Ent.d (fun q45 => ?_) (fun q45 => ?_)))))))))))))))
        · exact absurd rfl q45
        · refine Eu (E.cf rfl (E.skipc (Et (Eq_ (Ew Z5 (Emv rfl rfl (Emv rfl rfl (Est rfl (N.call (t_laws_toIntS fo) rfl rfl rfl dc rfl (fun w Lp hA => hA.ro haS)) (fun k48 _ => ?_)))))))))
          obtain ⟨a48, m48, c48⟩ := k48
          refine Ent.lenow m0 fun e48 l48 => ?_
          subst e48
          refine Est rfl (N.call0 t_laws_eqIntS rfl rfl rfl dc (fun w Lp hA => ⟨hA.ow (mS (mS (mS m0))), hA.ow m0⟩)) (fun _ _ => (Ent.b (fun q49 => ?_) (fun q49 => ?_)))
          · refine Ey rfl ((Y.not (b := true) rfl).yd) (Eu (E.cf rfl (E.skipc (Et (Eq_ (Ew Z5 (Emv rfl rfl (Emv rfl rfl (Est rfl (N.call (t_laws_toMethodS fo) rfl rfl rfl dc rfl (fun w Lp hA => hA.ro haL)) (fun k53 _ => ?_))))))))))
            obtain ⟨a53, m53, c53⟩ := k53
            refine Ent.lenow m0 fun e53 l53 => ?_
            subst e53
            refine Est rfl (N.call0 t_laws_eqMethodS rfl rfl rfl dc (fun w Lp hA => ⟨hA.ow (mS (mS (mS m0))), hA.ow m0⟩)) (fun _ _ => (Ent.b (fun q54 => ?_) (fun q54 => ?_)))
            · refine Ey rfl ((Y.not (b := true) rfl).yd) (Eu (E.cf rfl (E.skipc (Et (Eq_ (Ew Z5 (Emv rfl rfl (Emv rfl rfl (Est rfl (N.call (t_laws_toQueryS fo) rfl rfl rfl dc rfl (fun w Lp hA => hA.ro haU)) (fun k58 _ => ?_))))))))))
              obtain ⟨a58, m58, c58⟩ := k58
              refine Ent.lenow m0 fun e58 l58 => ?_
              subst e58
              refine Est rfl (N.call0 t_laws_eqQueryS rfl rfl rfl dc (fun w Lp hA => ⟨hA.ow (mS (mS (mS m0))), hA.ow m0⟩)) (fun _ _ => (Ent.b (fun q59 => ?_) (fun q59 => ?_)))
              · refine Ey rfl ((Y.not (b := true) rfl).yd) (Eu (E.cf rfl (E.skipc (Et (Ew Z1 (Eas rfl rfl ?_))))))
                exact Eu (E.ret (Fg rfl rfl () rfl rfl))
              · refine Ey rfl ((Y.not (b := false) rfl).yd) (Eu (E.ct rfl (Ew Z1 (Eas rfl rfl ?_))))
                exact Eu (E.ret (E.thr (Fb rfl rfl (by simp_all))))
            · refine Ey rfl ((Y.not (b := false) rfl).yd) (Eu (E.ct rfl (Ew Z1 (Eas rfl rfl ?_))))
              exact Eu (E.ret (E.thr (Fb rfl rfl (by simp_all))))
          · refine Ey rfl ((Y.not (b := false) rfl).yd) (Eu (E.ct rfl (Ew Z1 (Eas rfl rfl ?_))))
            exact Eu (E.ret (E.thr (Fb rfl rfl (by simp_all))))
end Go.Proofs.YtonkkkjgdohooaaGreat
