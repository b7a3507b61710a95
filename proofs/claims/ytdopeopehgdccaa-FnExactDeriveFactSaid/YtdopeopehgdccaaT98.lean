import Derived.Test.YtdopeopehgdccaaBs
import Derived.Test.YtdopeopehgdccaaT95
import Derived.Test.YtdopeopehgdccaaT97
import Derived.Test.YtdopeopehgdccaaT16
namespace Go.Proofs.Ytdopeopehgdccaa
open Go.RowKit
set_option linter.all false
set_option maxHeartbeats 2000000
attribute [local irreducible] Nop Yd Yp Ent Has Tr FnP FnP2 Src G4 P5 V3 a0h s9 wyI wyK wyR wyB dvI dvF
theorem G7 {a_aS : Option Addr} {m_aS c_aS : Nat} {aS : List Int} {a_aL : Option Addr} {m_aL c_aL : Nat} {aL : List (Int × Int × List Int)} {a_aFacts : Option Addr} {m_aFacts c_aFacts : Nat} {aFacts : List (Int × List Int)} {N9 : Int} {I9 : Option Addr} {J0 J1 : Nat} {I4 : List Int} : Tr Try.prog 3 [.slice a_aS m_aS c_aS, .slice a_aL m_aL c_aL, .slice a_aFacts m_aFacts c_aFacts, .agg #[.int .i64 N9, .slice I9 J0 J1]] (fun w L => Ro w L eIs [.slice a_aS m_aS c_aS] aS ∧ Ro w L l5 [.slice a_aL m_aL c_aL] aL ∧ Ro w L j4 [.slice a_aFacts m_aFacts c_aFacts] aFacts ∧ I64 N9 ∧ Ro w L eIs [.slice I9 J0 J1] I4) [] (κ := Unit) (fun k => True) (fun k => .bool (true)) (fun k => []) := by
 refine Tr.intro Try.func3 rfl (n := 163) rfl (by decide +kernel) bl (fr := [(0, .slice a_aS m_aS c_aS), (1, .slice a_aL m_aL c_aL), (2, .slice a_aFacts m_aFacts c_aFacts), (3, .agg #[.int .i64 N9, .slice I9 J0 J1])]) rfl fun w L hR => ?_
 obtain ⟨haS, haL, haFacts, t3, B5⟩ := hR
 obtain ⟨rfl, laS⟩ := haS.slen
 obtain ⟨rfl, laL⟩ := haL.slen
 obtain ⟨rfl, laFacts⟩ := haFacts.slen
 obtain ⟨rfl, a3E⟩ := B5.slen
 have jb_aS := K0 (l := aS)
 have jb_aL := Q5 (c := j7) (t := (fun x => x.2.2.length)) (n := 2) (fun x => by simp only [j7, K0]; omega) (l := aL)
 have jc_aL : x4 (fun x => x.2.2.length) aL = aL.length + c7 (fun x => x.2.2.length) aL := rfl
 have jb_aFacts := Q5 (c := f9) (t := (fun x => x.2.length)) (n := 1) (fun x => by simp only [f9, K0]; omega) (l := aFacts)
 have jc_aFacts : x4 (fun x => x.2.length) aFacts = aFacts.length + c7 (fun x => x.2.length) aFacts := rfl
 have a3f := K0 (l := I4)
 have r1 := a2z (s := aS) (a7 := aL) (a8 := aFacts) (to := (N9, I4))
 have r2 := K0 (l := dvF aS aL aFacts (N9, I4))
 refine Ew Z2 (Est rfl (N.box (cs := [_, _]) rfl dc rfl) (fun b7 _ => (Eas rfl rfl (Eu (Eq_ (Ew Z3 (Emv rfl rfl (Ey rfl ((Y.len us_Is rfl).yd) (Ey rfl ((Y.gtr rfl rfl).yd) (Ent.d (fun q25 => ?_) (fun q25 => ?_)))))))))))
 ·refine Eu (E.ct rfl (Ew Z1 (Eas rfl rfl ?_)))
  exact Eu (E.ret (E.thr (Fg rfl rfl () rfl rfl)))
 ·refine Eu (E.cf rfl (E.skipc (Et (Ew Z1 (Eas rfl rfl (Ev Z4 (Emv rfl rfl (Emv rfl rfl (Est rfl (N.call0 T2 rfl rfl rfl dc (fun w Lp hA => ⟨hA.ro haL, (by first | assumption | omega), (by first | assumption | omega)⟩)) (fun _ _ => (Eas rfl rfl (Eu (Eq_ (Ew Z2 (Emv rfl rfl (Ey rfl ((Y.lss rfl rfl).yd) (Ent.d (fun q30 => ?_) (fun q30 => ?_))))))))))))))))))
  ·have z30 := E4 q30 om
   refine Eu (E.ct rfl (Ew Z1 (Eas rfl rfl ?_)))
   exact Eu (E.ret (E.thr (Fg rfl rfl () rfl rfl)))
  ·obtain ⟨z30, y30⟩ := G9 q30 om
   refine Eu (E.cf rfl (E.skipc (Et (Ew Z4 (Emv rfl rfl (Emv rfl rfl (Est rfl (N.call0 U4 rfl rfl rfl dc (fun w Lp hA => ⟨hA.ro haFacts, (by first | assumption | omega), (by first | assumption | omega)⟩)) (fun _ _ => (Eas rfl rfl (Eu (Eq_ (Ew Z2 (Emv rfl rfl (Ey rfl ((Y.lss rfl rfl).yd) (Ent.d (fun q35 => ?_) (fun q35 => ?_))))))))))))))))
   ·have z35 := E4 q35 om
    refine Eu (E.ct rfl (Ew Z1 (Eas rfl rfl ?_)))
    exact Eu (E.ret (E.thr (Fg rfl rfl () rfl rfl)))
   ·obtain ⟨z35, y35⟩ := G9 q35 om
    refine Eu (E.cf rfl (E.skipc (Et (Ew Z4 (Ey rfl (Y.ldS (cs := [_, _]) ty_lFact rfl (Has.pt m0) rfl) (Emv rfl rfl (Est rfl (N.call0 L5 rfl rfl rfl dc (fun w Lp hA => ⟨t3, hA.ro B5, (by first | assumption | omega), (by first | assumption | omega)⟩)) (fun _ _ => (Eas rfl rfl (Eu (Eq_ (Ew Z2 (Emv rfl rfl (Ey rfl ((Y.lss rfl rfl).yd) (Ent.d (fun q40 => ?_) (fun q40 => ?_))))))))))))))))
    ·have z40 := E4 q40 om
     refine Eu (E.ct rfl (Ew Z1 (Eas rfl rfl ?_)))
     exact Eu (E.ret (E.thr (Fg rfl rfl () rfl rfl)))
    ·obtain ⟨z40, y40⟩ := G9 q40 om
     refine Eu (E.cf rfl (E.skipc (Et (Eq_ (D.region (fun j => true) n0 (Dyp 0 rfl (Y.mv rfl) (Dyp 2 rfl (Y.mv rfl) (Dyp 4 rfl (Y.mv rfl) (Dy 6 rfl (Y.ldS (cs := [_, _]) ty_lFact rfl (Has.pt m0) rfl) (D.st 1 rfl rfl kr (fun _ => rfl) (N.call (t6 fc) rfl rfl rfl dc rfl (fun w Lp hA => hA.ro haS)) (fun k43 _ => ?_)))))))))))
     obtain ⟨a43, m43, c43⟩ := k43
     refine Ent.lenow m0 fun e43 l43 => ?_
     subst e43
     refine D.st 3 rfl rfl kr (fun _ => rfl) (N.call (B0 fc) rfl rfl rfl dc rfl (fun w Lp hA => hA.ro haL)) (fun k45 _ => ?_)
     obtain ⟨a45, m45, c45⟩ := k45
     refine Ent.lenow m0 fun e45 l45 => ?_
     subst e45
     refine D.st 5 rfl rfl kr (fun _ => rfl) (N.call (z9 fc) rfl rfl rfl dc rfl (fun w Lp hA => hA.ro haFacts)) (fun k47 _ => ?_)
     obtain ⟨a47, m47, c47⟩ := k47
     refine Ent.lenow m0 fun e47 l47 => ?_
     subst e47
     refine D.st 7 rfl rfl kr (fun _ => rfl) (N.call (w6 fc) rfl rfl rfl dc rfl (fun w Lp hA => ⟨t3, hA.ro B5⟩)) (fun k49 _ => ?_)
     obtain ⟨a49, m49, c49⟩ := k49
     refine Ent.lenow m0 fun e49 l49 => ?_
     subst e49
     refine D.st 8 rfl rfl kr (fun _ => rfl) (N.call O9 rfl rfl rfl dc rfl (fun w Lp hA => ⟨hA.ow (mS (mS (mS m0))), hA.ow (mS (mS m0)), hA.ow (mS m0), t3, hA.ow m0⟩)) (fun k50 _ => ?_)
     obtain ⟨a50, m50, c50⟩ := k50
     refine Ent.lenow m0 fun e50 l50 => ?_
     subst e50
     refine Dyp 9 rfl (Y.mv rfl) (Dyp 10 rfl (Y.ext rfl rfl) (Dyp 11 rfl (Y.ext rfl rfl) (Dyp 12 rfl (Y.as rfl) (Dyp 13 rfl (Y.as rfl) (D.done kr (Et (Ew Z3 (Emv rfl rfl (Est rfl (N.call (t6 fc) rfl rfl rfl dc rfl (fun w Lp hA => hA.ro haS)) (fun k54 _ => ?_))))))))))
     obtain ⟨a54, m54, c54⟩ := k54
     refine Ent.lenow m0 fun e54 l54 => ?_
     subst e54
     refine Eas rfl rfl (Ev Z3 (Emv rfl rfl (Est rfl (N.call (B0 fc) rfl rfl rfl dc rfl (fun w Lp hA => hA.ro haL)) (fun k56 _ => ?_))))
     obtain ⟨a56, m56, c56⟩ := k56
     refine Ent.lenow m0 fun e56 l56 => ?_
     subst e56
     refine Eas rfl rfl (Ev Z3 (Emv rfl rfl (Est rfl (N.call (z9 fc) rfl rfl rfl dc rfl (fun w Lp hA => hA.ro haFacts)) (fun k58 _ => ?_))))
     obtain ⟨a58, m58, c58⟩ := k58
     refine Ent.lenow m0 fun e58 l58 => ?_
     subst e58
     refine Eas rfl rfl (Ev Z4 (Ey rfl (Y.ldS (cs := [_, _]) ty_lFact rfl (Has.pt (mS (mS (mS (mS (mS (mS (mS (mS m0))))))))) rfl) (Est rfl (N.call (w6 fc) rfl rfl rfl dc rfl (fun w Lp hA => ⟨t3, hA.ro B5⟩)) (fun k60 _ => ?_))))
     obtain ⟨a60, m60, c60⟩ := k60
     refine Ent.lenow m0 fun e60 l60 => ?_
     subst e60
     refine Est rfl (N.alloc ty_Fact dc) (fun b15 _ => (Est rfl (N.sto (vs := [_, _]) (cs' := [_, _]) ty_Fact rfl rfl rfl rfl rfl bl rfl) (fun _ _ => (Ev Z10 (Emv rfl rfl (Emv rfl rfl (Emv rfl rfl (Ey rfl (Y.ldS (cs := [_, _]) ty_Fact rfl (Has.pt m0) rfl) (Est rfl (N.call F6 rfl rfl rfl dc rfl (fun w Lp hA => ⟨hA.ow (mS (mS (mS (mS m0)))), hA.ow (mS (mS (mS m0))), hA.ow (mS (mS m0)), t3, hA.ow (mS m0)⟩)) (fun k66 _ => ?_))))))))))
     obtain ⟨a66, m66, c66⟩ := k66
     refine Ent.lenow m0 fun e66 l66 => ?_
     subst e66
     refine Emv rfl rfl (Ey rfl ((Y.ext rfl rfl).yd) (Ey rfl ((Y.ext rfl rfl).yd) (Eas rfl rfl (Eas rfl rfl (Eu (Eq_ (Ew Z9 (Emv rfl rfl (Emv rfl rfl (Est rfl (N.call0 t7 rfl rfl rfl dc (fun w Lp hA => ⟨hA.ow m0, hA.ow (mS (mS (mS (mS (mS (mS m0))))))⟩)) (fun _ _ => (Ent.b (fun q71 => ?_) (fun q71 => ?_)))))))))))))
     ·refine Ey rfl ((Y.not (b := true) rfl).yd) (Emv rfl rfl (Emv rfl rfl (Emv rfl rfl (Ey rfl ((Y.neqB kr rfl rfl).yd) (Ent.d (fun q76 => ?_) (fun q76 => ?_))))))
      ·exact absurd rfl q76
      ·refine Ey rfl ((Y.pkf rfl rfl).yd) (Eu (E.cf rfl (E.skipc (Et (Eq_ (Ew Z5 (Emv rfl rfl (Emv rfl rfl (Est rfl (N.call (t6 fc) rfl rfl rfl dc rfl (fun w Lp hA => hA.ro haS)) (fun k80 _ => ?_))))))))))
       obtain ⟨a80, m80, c80⟩ := k80
       refine Ent.lenow m0 fun e80 l80 => ?_
       subst e80
       refine Est rfl (N.call0 t7 rfl rfl rfl dc (fun w Lp hA => ⟨hA.ow (mS (mS (mS (mS (mS (mS m0)))))), hA.ow m0⟩)) (fun _ _ => (Ent.b (fun q81 => ?_) (fun q81 => ?_)))
       ·refine Ey rfl ((Y.not (b := true) rfl).yd) (Eu (E.cf rfl (E.skipc (Et (Eq_ (Ew Z5 (Emv rfl rfl (Emv rfl rfl (Est rfl (N.call (B0 fc) rfl rfl rfl dc rfl (fun w Lp hA => hA.ro haL)) (fun k85 _ => ?_))))))))))
        obtain ⟨a85, m85, c85⟩ := k85
        refine Ent.lenow m0 fun e85 l85 => ?_
        subst e85
        refine Est rfl (N.call0 T3 rfl rfl rfl dc (fun w Lp hA => ⟨hA.ow (mS (mS (mS (mS (mS (mS m0)))))), hA.ow m0⟩)) (fun _ _ => (Ent.b (fun q86 => ?_) (fun q86 => ?_)))
        ·refine Ey rfl ((Y.not (b := true) rfl).yd) (Eu (E.cf rfl (E.skipc (Et (Eq_ (Ew Z5 (Emv rfl rfl (Emv rfl rfl (Est rfl (N.call (z9 fc) rfl rfl rfl dc rfl (fun w Lp hA => hA.ro haFacts)) (fun k90 _ => ?_))))))))))
         obtain ⟨a90, m90, c90⟩ := k90
         refine Ent.lenow m0 fun e90 l90 => ?_
         subst e90
         refine Est rfl (N.call0 S9 rfl rfl rfl dc (fun w Lp hA => ⟨hA.ow (mS (mS (mS (mS (mS (mS m0)))))), hA.ow m0⟩)) (fun _ _ => (Ent.b (fun q91 => ?_) (fun q91 => ?_)))
         ·refine Ey rfl ((Y.not (b := true) rfl).yd) (Eu (E.cf rfl (E.skipc (Et (Eq_ (Eq_ (D.region (fun j => true) n0 (Dy 0 rfl (Y.ldS (cs := [_, _]) ty_Fact rfl (Has.pt (mS (mS (mS (mS m0))))) rfl) (Dy 1 rfl (Y.ldS (cs := [_, _]) ty_lFact rfl (Has.pt (mS (mS (mS (mS (mS (mS (mS (mS (mS (mS (mS (mS (mS (mS m0))))))))))))))) rfl) (D.st 2 rfl rfl kr (fun _ => rfl) (N.call (w6 fc) rfl rfl rfl dc rfl (fun w Lp hA => ⟨t3, hA.ro B5⟩)) (fun k95 _ => ?_)))))))))))
          obtain ⟨a95, m95, c95⟩ := k95
          refine Ent.lenow m0 fun e95 l95 => ?_
          subst e95
          refine D.st 3 rfl rfl kr (fun _ => rfl) (N.call0 K9 rfl rfl rfl dc (fun w Lp hA => ⟨t3, hA.ow (mS (mS (mS (mS (mS (mS m0)))))), t3, hA.ow m0⟩)) (fun _ _ => (Ent.b (fun q96 => ?_) (fun q96 => ?_)))
          ·refine Dyp 4 rfl (Y.not (b := true) rfl) (D.done kr (Et (E.cf rfl (E.skipc (Et (Ew Z1 (Eas rfl rfl (Ev Z4 (Emv rfl rfl (Emv rfl rfl (Ent.p9 (Est rfl (N.call (pre := [_]) t9 rfl rfl rfl dc rfl (fun w Lp hA => ⟨(by first | assumption | omega), (by first | assumption | omega)⟩)) (fun _ _ => (Eas rfl rfl (Ev Z4 (Emv rfl rfl (Emv rfl rfl (Ent.p9 (Est rfl (N.call (pre := [_]) Q8 rfl rfl rfl dc rfl (fun w Lp hA => ⟨(by first | assumption | omega), (by first | assumption | omega)⟩)) (fun _ _ => (Eas rfl rfl (Ev Z4 (Emv rfl rfl (Emv rfl rfl (Ent.p9 (Est rfl (N.call (pre := [_]) P4 rfl rfl rfl dc rfl (fun w Lp hA => ⟨(by first | assumption | omega), (by first | assumption | omega)⟩)) (fun _ _ => (Eas rfl rfl (Ev Z4 (Ey rfl (Y.ldS (cs := [_, _]) ty_Fact rfl (Has.pt (mS (mS (mS (mS (mS (mS (mS (mS m0))))))))) rfl) (Emv rfl rfl (Ent.p9 (Est rfl (N.call (pre := [_]) S3 rfl rfl rfl dc rfl (fun w Lp hA => ⟨t3, (by first | assumption | omega), (by first | assumption | omega)⟩)) (fun _ _ => (Eas rfl rfl (Eu (Eq_ (Ew Z13 (Emv rfl rfl (Ey rfl ((Y.lss rfl rfl).yd) (Ent.d (fun q111 => ?_) (fun q111 => ?_))))))))))))))))))))))))))))))))))))))))))
           ·exact absurd q111 om
           ·refine Emv rfl rfl (Emv rfl rfl (Emv rfl rfl (Est rfl (N.call0 t7 rfl rfl rfl dc (fun w Lp hA => ⟨hA.ow (mS (mS (mS (mS (mS (mS (mS (mS m0)))))))), hA.ow (mS (mS (mS (mS (mS (mS (mS (mS (mS (mS m0))))))))))⟩)) (fun _ _ => (Ent.b (fun q115 => ?_) (fun q115 => ?_))))))
            ·refine Ey rfl ((Y.not (b := true) rfl).yd) (Ey rfl ((Y.pkf rfl rfl).yd) (Emv rfl rfl (Emv rfl rfl (Emv rfl rfl (Ey rfl ((Y.neqB kr rfl rfl).yd) (Ent.d (fun q121 => ?_) (fun q121 => ?_)))))))
             ·exact absurd rfl q121
             ·refine Ey rfl ((Y.pkf rfl rfl).yd) (Eu (E.cf rfl (E.skipc (Et (Ew Z1 (Eas rfl rfl (Ev Z4 (Emv rfl rfl (Emv rfl rfl (Ent.p8 (Est rfl (N.call (pre := [_]) t9 rfl rfl rfl dc rfl (fun w Lp hA => ⟨(by first | assumption | omega), (by first | assumption | omega)⟩)) (fun _ _ => (Eas rfl rfl (Ev Z1 (Eas rfl rfl (Ev Z4 (Emv rfl rfl (Emv rfl rfl (Est rfl (N.call0 (I2 (a0p y9 a2K)) rfl rfl rfl dc (fun w Lp hA => ⟨hA.ow m0, (by (try simp only [c5 y9, c5 O6, c5 E1, c5 D5, c5 C2, c5 E3, c5 y6, c5 A9, c5 D3, c5 E6, c5 B7, c5 C0, c5 v9, c5 w7, c5 y7, c5 z8, c5 E5, c5 E2, c5 D6, c5 D4]); omega), (by (try simp only [c5 y9, c5 O6, c5 E1, c5 D5, c5 C2, c5 E3, c5 y6, c5 A9, c5 D3, c5 E6, c5 B7, c5 C0, c5 v9, c5 w7, c5 y7, c5 z8, c5 E5, c5 E2, c5 D6, c5 D4]); omega)⟩)) (fun _ _ => (Eas rfl rfl (Eu (Eq_ (Ew Z2 (Emv rfl rfl (Ey rfl ((Y.lss rfl rfl).yd) (Ent.d (fun q130 => ?_) (fun q130 => ?_))))))))))))))))))))))))))))
              ·exact absurd q130 om
              ·refine Eu (E.cf rfl (E.skipc (Et (Eq_ (Ew Z3 (Emv rfl rfl (Emv rfl rfl (Ey rfl ((Y.neq rfl rfl).yd) (Ent.d (fun q133 => ?_) (fun q133 => ?_))))))))))
               ·exact absurd (by simp only [c5 y9, c5 O6, c5 E1, c5 D5, c5 C2, c5 E3, c5 y6, c5 A9, c5 D3, c5 E6, c5 B7, c5 C0, c5 v9, c5 w7, c5 y7, c5 z8, c5 E5, c5 E2, c5 D6, c5 D4]) q133
               ·refine Eu (E.cf rfl (E.skipc (Et (Eq_ (D.region (fun j => true) n0 (Dyp 0 rfl (Y.mv rfl) (Dyp 2 rfl (Y.mv rfl) (Dyp 4 rfl (Y.mv rfl) (Dy 6 rfl (Y.ldS (cs := [_, _]) ty_lFact rfl (Has.pt (mS (mS (mS (mS (mS (mS (mS (mS (mS (mS (mS (mS (mS (mS (mS m0)))))))))))))))) rfl) (D.st 1 rfl rfl kr (fun _ => rfl) (N.call (t6 fc) rfl rfl rfl dc rfl (fun w Lp hA => hA.ro haS)) (fun k136 _ => ?_)))))))))))
                obtain ⟨a136, m136, c136⟩ := k136
                refine Ent.lenow m0 fun e136 l136 => ?_
                subst e136
                refine D.st 3 rfl rfl kr (fun _ => rfl) (N.call (B0 fc) rfl rfl rfl dc rfl (fun w Lp hA => hA.ro haL)) (fun k138 _ => ?_)
                obtain ⟨a138, m138, c138⟩ := k138
                refine Ent.lenow m0 fun e138 l138 => ?_
                subst e138
                refine D.st 5 rfl rfl kr (fun _ => rfl) (N.call (z9 fc) rfl rfl rfl dc rfl (fun w Lp hA => hA.ro haFacts)) (fun k140 _ => ?_)
                obtain ⟨a140, m140, c140⟩ := k140
                refine Ent.lenow m0 fun e140 l140 => ?_
                subst e140
                refine D.st 7 rfl rfl kr (fun _ => rfl) (N.call (w6 fc) rfl rfl rfl dc rfl (fun w Lp hA => ⟨t3, hA.ro B5⟩)) (fun k142 _ => ?_)
                obtain ⟨a142, m142, c142⟩ := k142
                refine Ent.lenow m0 fun e142 l142 => ?_
                subst e142
                refine D.st 8 rfl rfl kr (fun _ => rfl) (N.call F6 rfl rfl rfl dc rfl (fun w Lp hA => ⟨hA.ow (mS (mS (mS m0))), hA.ow (mS (mS m0)), hA.ow (mS m0), t3, hA.ow m0⟩)) (fun k143 _ => ?_)
                obtain ⟨a143, m143, c143⟩ := k143
                refine Ent.lenow m0 fun e143 l143 => ?_
                subst e143
                refine Dyp 9 rfl (Y.mv rfl) (Dyp 10 rfl (Y.ext rfl rfl) (Dyp 11 rfl (Y.ext rfl rfl) (Dyp 12 rfl (Y.as rfl) (Dyp 13 rfl (Y.as rfl) (D.done kr (Et (Eq_ (Ew Z9 (Emv rfl rfl (Emv rfl rfl (Est rfl (N.call0 t7 rfl rfl rfl dc (fun w Lp hA => ⟨hA.ow m0, hA.ow (mS (mS (mS (mS (mS (mS (mS (mS (mS (mS (mS (mS (mS (mS (mS m0)))))))))))))))⟩)) (fun _ _ => (Ent.b (fun q148 => ?_) (fun q148 => ?_))))))))))))))
                ·refine Ey rfl ((Y.not (b := true) rfl).yd) (Emv rfl rfl (Emv rfl rfl (Emv rfl rfl (Ey rfl ((Y.neqB kr rfl rfl).yd) (Ent.d (fun q153 => ?_) (fun q153 => ?_))))))
                 ·exact absurd rfl q153
                 ·refine Ey rfl ((Y.pkf rfl rfl).yd) (Eu (E.cf rfl (E.skipc (Et (Ew Z1 (Eas rfl rfl (Ev Z4 (Emv rfl rfl (Emv rfl rfl (Est rfl (N.call0 (I2 (a0p y9 a2K)) rfl rfl rfl dc (fun w Lp hA => ⟨hA.ow (mS (mS (mS (mS (mS m0))))), (by (try simp only [c5 y9, c5 O6, c5 E1, c5 D5, c5 C2, c5 E3, c5 y6, c5 A9, c5 D3, c5 E6, c5 B7, c5 C0, c5 v9, c5 w7, c5 y7, c5 z8, c5 E5, c5 E2, c5 D6, c5 D4]); omega), (by (try simp only [c5 y9, c5 O6, c5 E1, c5 D5, c5 C2, c5 E3, c5 y6, c5 A9, c5 D3, c5 E6, c5 B7, c5 C0, c5 v9, c5 w7, c5 y7, c5 z8, c5 E5, c5 E2, c5 D6, c5 D4]); omega)⟩)) (fun _ _ => (Eas rfl rfl (Eu (Eq_ (Ew Z2 (Emv rfl rfl (Ey rfl ((Y.lss rfl rfl).yd) (Ent.d (fun q159 => ?_) (fun q159 => ?_)))))))))))))))))))
                  ·exact absurd q159 om
                  ·refine Eu (E.cf rfl (E.skipc (Et (Eq_ (Ew Z3 (Emv rfl rfl (Emv rfl rfl (Ey rfl ((Y.neq rfl rfl).yd) (Ent.d (fun q162 => ?_) (fun q162 => ?_))))))))))
                   ·exact absurd (by simp only [c5 y9, c5 O6, c5 E1, c5 D5, c5 C2, c5 E3, c5 y6, c5 A9, c5 D3, c5 E6, c5 B7, c5 C0, c5 v9, c5 w7, c5 y7, c5 z8, c5 E5, c5 E2, c5 D6, c5 D4]) q162
                   ·refine Eu (E.cf rfl (E.skipc (Et (Ew Z1 (Eas rfl rfl ?_)))))
                    exact Eu (E.ret (Fg rfl rfl () rfl rfl))
                ·refine Ey rfl ((Y.not (b := false) rfl).yd) (Emv rfl rfl (Es rfl (Es rfl (Es rfl (Ey rfl ((Y.pkt rfl rfl).yd) (Eu (E.ct rfl (Ew Z1 (Eas rfl rfl ?_)))))))))
                 exact Eu (E.ret (E.thr (Fb rfl rfl (by simp_all))))
            ·refine Ey rfl ((Y.not (b := false) rfl).yd) (Ey rfl ((Y.pkf rfl rfl).yd) (Emv rfl rfl (Es rfl (Es rfl (Es rfl (Ey rfl ((Y.pkt rfl rfl).yd) (Eu (E.ct rfl (Ew Z1 (Eas rfl rfl ?_))))))))))
             exact Eu (E.ret (E.thr (Fb rfl rfl (by simp_all))))
          ·refine Dyp 4 rfl (Y.not (b := false) rfl) (D.done kr (Et (E.ct rfl (Ew Z1 (Eas rfl rfl ?_)))))
           exact Eu (E.ret (E.thr (Fb rfl rfl (by simp_all))))
         ·refine Ey rfl ((Y.not (b := false) rfl).yd) (Eu (E.ct rfl (Ew Z1 (Eas rfl rfl ?_))))
          exact Eu (E.ret (E.thr (Fb rfl rfl (by simp_all))))
        ·refine Ey rfl ((Y.not (b := false) rfl).yd) (Eu (E.ct rfl (Ew Z1 (Eas rfl rfl ?_))))
         exact Eu (E.ret (E.thr (Fb rfl rfl (by simp_all))))
       ·refine Ey rfl ((Y.not (b := false) rfl).yd) (Eu (E.ct rfl (Ew Z1 (Eas rfl rfl ?_))))
        exact Eu (E.ret (E.thr (Fb rfl rfl (by simp_all))))
     ·refine Ey rfl ((Y.not (b := false) rfl).yd) (Emv rfl rfl (Es rfl (Es rfl (Es rfl (Ey rfl ((Y.pkt rfl rfl).yd) (Eu (E.ct rfl (Ew Z1 (Eas rfl rfl ?_)))))))))
      exact Eu (E.ret (E.thr (Fb rfl rfl (by simp_all))))
end Go.Proofs.Ytdopeopehgdccaa
