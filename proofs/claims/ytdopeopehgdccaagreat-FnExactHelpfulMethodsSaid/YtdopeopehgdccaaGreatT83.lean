import Derived.Test.YtdopeopehgdccaaGreatBs
import Derived.Test.YtdopeopehgdccaaGreatT82
import Derived.Test.YtdopeopehgdccaaGreatT4
import Derived.Test.YtdopeopehgdccaaGreatT5
namespace Go.Proofs.YtdopeopehgdccaaGreat
open Go.RowKit
set_option linter.all false
set_option maxHeartbeats 2000000
attribute [local irreducible] Nop Yd Yp Ent Has Tr FnP FnP2 Src j7 d7 J2 Y5 E0 C6 w6 o7 fzF fzV fzX fzB f0 t7 G5 K2 B4 a0o H9
theorem a2q {a_aS : Option Addr} {m_aS c_aS : Nat} {aS : List Int} {a_aL : Option Addr} {m_aL c_aL : Nat} {aL : List (Int × List Int × Int × Int × Int)} {a_aRules : Option Addr} {m_aRules c_aRules : Nat} {aRules : List (Int × Int × List Int)} {a5x : Option Addr} {a5y a5z : Nat} {a5I : List Int} {a4B : Option Addr} {a4C a4D : Nat} {a1q : List (Int × List Int)} : Tr Tryz.prog 5 [.slice a_aS m_aS c_aS, .slice a_aL m_aL c_aL, .slice a_aRules m_aRules c_aRules, .agg #[.slice a5x a5y a5z, .slice a4B a4C a4D]] (fun w L => Ro w L eIs [.slice a_aS m_aS c_aS] aS ∧ Ro w L D3 [.slice a_aL m_aL c_aL] aL ∧ Ro w L G1 [.slice a_aRules m_aRules c_aRules] aRules ∧ Ro w L eIs [.slice a5x a5y a5z] a5I ∧ Ro w L C2 [.slice a4B a4C a4D] a1q) [] (κ := Unit) (fun k => True) (fun k => .bool (true)) (fun k => []) := by
 refine Tr.intro Tryz.func5 rfl (n := 163) rfl (by decide +kernel) bl (fr := [(0, .slice a_aS m_aS c_aS), (1, .slice a_aL m_aL c_aL), (2, .slice a_aRules m_aRules c_aRules), (3, .agg #[.slice a5x a5y a5z, .slice a4B a4C a4D])]) rfl fun w L hR => ?_
 obtain ⟨haS, haL, haRules, a2w, a1C⟩ := hR
 obtain ⟨rfl, laS⟩ := haS.slen
 obtain ⟨rfl, laL⟩ := haL.slen
 obtain ⟨rfl, laRules⟩ := haRules.slen
 obtain ⟨rfl, b4Z⟩ := a2w.slen
 obtain ⟨rfl, b4E⟩ := a1C.slen
 have jb_aS := a3a (l := aS)
 have jb_aL := a4j (c := E1) (t := (fun x => x.2.1.length)) (n := 4) (fun x => by simp only [E1, a3a]; omega) (l := aL)
 have jc_aL : F0 (fun x => x.2.1.length) aL = aL.length + r9 (fun x => x.2.1.length) aL := rfl
 have jb_aRules := a4j (c := H4) (t := (fun x => x.2.2.length)) (n := 2) (fun x => by simp only [H4, a3a]; omega) (l := aRules)
 have jc_aRules : F0 (fun x => x.2.2.length) aRules = aRules.length + r9 (fun x => x.2.2.length) aRules := rfl
 have b4v := a3a (l := a5I)
 have b4g := a4j (c := D0) (t := (fun x => x.2.length)) (n := 1) (fun x => by simp only [D0, a3a]; omega) (l := a1q)
 have b4h : F0 (fun x => x.2.length) a1q = a1q.length + r9 (fun x => x.2.length) a1q := rfl
 have r1 : (a1l aS aL aRules (a5I, a1q)).length ≤ aL.length := b3R.1
 have r2 := a3a (l := a1l aS aL aRules (a5I, a1q))
 refine Ew Z2 (Est rfl (N.box (cs := [_, _]) rfl dc rfl) (fun b7 _ => (Eas rfl rfl (Eu (Eq_ (Ew Z3 (Emv rfl rfl (Ey rfl ((Y.len us_Is rfl).yd) (Ey rfl ((Y.gtr rfl rfl).yd) (Ent.d (fun q25 => ?_) (fun q25 => ?_)))))))))))
 ·refine Eu (E.ct rfl (Ew Z1 (Eas rfl rfl ?_)))
  exact Eu (E.ret (E.thr (Fg rfl rfl () rfl rfl)))
 ·refine Eu (E.cf rfl (E.skipc (Et (Ew Z1 (Eas rfl rfl (Ev Z4 (Emv rfl rfl (Emv rfl rfl (Est rfl (N.call0 a6i rfl rfl rfl dc (fun w Lp hA => ⟨hA.ro haL, (by first | assumption | omega), (by first | assumption | omega)⟩)) (fun _ _ => (Eas rfl rfl (Eu (Eq_ (Ew Z2 (Emv rfl rfl (Ey rfl ((Y.lss rfl rfl).yd) (Ent.d (fun q30 => ?_) (fun q30 => ?_))))))))))))))))))
  ·have z30 := X1 q30 om
   refine Eu (E.ct rfl (Ew Z1 (Eas rfl rfl ?_)))
   exact Eu (E.ret (E.thr (Fg rfl rfl () rfl rfl)))
  ·obtain ⟨z30, y30⟩ := a0t q30 om
   refine Eu (E.cf rfl (E.skipc (Et (Ew Z4 (Emv rfl rfl (Emv rfl rfl (Est rfl (N.call0 a7K rfl rfl rfl dc (fun w Lp hA => ⟨hA.ro haRules, (by first | assumption | omega), (by first | assumption | omega)⟩)) (fun _ _ => (Eas rfl rfl (Eu (Eq_ (Ew Z2 (Emv rfl rfl (Ey rfl ((Y.lss rfl rfl).yd) (Ent.d (fun q35 => ?_) (fun q35 => ?_))))))))))))))))
   ·have z35 := X1 q35 om
    refine Eu (E.ct rfl (Ew Z1 (Eas rfl rfl ?_)))
    exact Eu (E.ret (E.thr (Fg rfl rfl () rfl rfl)))
   ·obtain ⟨z35, y35⟩ := a0t q35 om
    refine Eu (E.cf rfl (E.skipc (Et (Ew Z4 (Ey rfl (Y.ldS (cs := [_, _]) ty_lQuery rfl (Has.pt m0) rfl) (Emv rfl rfl (Est rfl (N.call0 a7P rfl rfl rfl dc (fun w Lp hA => ⟨hA.ro a2w, hA.ro a1C, (by first | assumption | omega), (by first | assumption | omega)⟩)) (fun _ _ => (Eas rfl rfl (Eu (Eq_ (Ew Z2 (Emv rfl rfl (Ey rfl ((Y.lss rfl rfl).yd) (Ent.d (fun q40 => ?_) (fun q40 => ?_))))))))))))))))
    ·have z40 := X1 q40 om
     refine Eu (E.ct rfl (Ew Z1 (Eas rfl rfl ?_)))
     exact Eu (E.ret (E.thr (Fg rfl rfl () rfl rfl)))
    ·obtain ⟨z40, y40⟩ := a0t q40 om
     refine Eu (E.cf rfl (E.skipc (Et (Eq_ (D.region (fun j => true) mixed (Dyp 0 rfl (Y.mv rfl) (Dyp 2 rfl (Y.mv rfl) (Dyp 4 rfl (Y.mv rfl) (Dy 6 rfl (Y.ldS (cs := [_, _]) ty_lQuery rfl (Has.pt m0) rfl) (D.st 1 rfl rfl kr (fun _ => rfl) (N.call (P4 fc) rfl rfl rfl dc rfl (fun w Lp hA => hA.ro haS)) (fun k43 _ => ?_)))))))))))
     obtain ⟨a43, m43, c43⟩ := k43
     refine Ent.lenow m0 fun e43 l43 => ?_
     subst e43
     refine D.st 3 rfl rfl kr (fun _ => rfl) (N.call (Y0 fc) rfl rfl rfl dc rfl (fun w Lp hA => hA.ro haL)) (fun k45 _ => ?_)
     obtain ⟨a45, m45, c45⟩ := k45
     refine Ent.lenow m0 fun e45 l45 => ?_
     subst e45
     refine D.st 5 rfl rfl kr (fun _ => rfl) (N.call (a0N fc) rfl rfl rfl dc rfl (fun w Lp hA => hA.ro haRules)) (fun k47 _ => ?_)
     obtain ⟨a47, m47, c47⟩ := k47
     refine Ent.lenow m0 fun e47 l47 => ?_
     subst e47
     refine D.st 7 rfl rfl kr (fun _ => rfl) (N.call (a0K fc fc) rfl rfl rfl dc rfl (fun w Lp hA => ⟨hA.ro a2w, hA.ro a1C⟩)) (fun k49 _ => ?_)
     obtain ⟨⟨a49_0, m49_0, c49_0⟩, ⟨a49_1, m49_1, c49_1⟩⟩ := k49
     refine Ent.lenow m0 fun e49_0 l49_0 => ?_
     subst e49_0
     refine Ent.lenow (mS m0) fun e49_1 l49_1 => ?_
     subst e49_1
     refine D.st 8 rfl rfl kr (fun _ => rfl) (N.call (a3V fc) rfl rfl rfl dc rfl (fun w Lp hA => ⟨hA.ow (mS (mS (mS (mS m0)))), hA.ow (mS (mS (mS m0))), hA.ow (mS (mS m0)), hA.ow m0, hA.ow (mS m0)⟩)) (fun k50 _ => ?_)
     obtain ⟨a50, m50, c50⟩ := k50
     refine Ent.lenow m0 fun e50 l50 => ?_
     subst e50
     refine Dyp 9 rfl (Y.mv rfl) (Dyp 10 rfl (Y.ext rfl rfl) (Dyp 11 rfl (Y.ext rfl rfl) (Dyp 12 rfl (Y.as rfl) (Dyp 13 rfl (Y.as rfl) (D.done kr (Et (Ew Z3 (Emv rfl rfl (Est rfl (N.call (P4 fc) rfl rfl rfl dc rfl (fun w Lp hA => hA.ro haS)) (fun k54 _ => ?_))))))))))
     obtain ⟨a54, m54, c54⟩ := k54
     refine Ent.lenow m0 fun e54 l54 => ?_
     subst e54
     refine Eas rfl rfl (Ev Z3 (Emv rfl rfl (Est rfl (N.call (Y0 fc) rfl rfl rfl dc rfl (fun w Lp hA => hA.ro haL)) (fun k56 _ => ?_))))
     obtain ⟨a56, m56, c56⟩ := k56
     refine Ent.lenow m0 fun e56 l56 => ?_
     subst e56
     refine Eas rfl rfl (Ev Z3 (Emv rfl rfl (Est rfl (N.call (a0N fc) rfl rfl rfl dc rfl (fun w Lp hA => hA.ro haRules)) (fun k58 _ => ?_))))
     obtain ⟨a58, m58, c58⟩ := k58
     refine Ent.lenow m0 fun e58 l58 => ?_
     subst e58
     refine Eas rfl rfl (Ev Z4 (Ey rfl (Y.ldS (cs := [_, _]) ty_lQuery rfl (Has.pt (mS (mS (mS (mS (mS (mS (mS (mS (mS m0)))))))))) rfl) (Est rfl (N.call (a0K fc fc) rfl rfl rfl dc rfl (fun w Lp hA => ⟨hA.ro a2w, hA.ro a1C⟩)) (fun k60 _ => ?_))))
     obtain ⟨⟨a60_0, m60_0, c60_0⟩, ⟨a60_1, m60_1, c60_1⟩⟩ := k60
     refine Ent.lenow m0 fun e60_0 l60_0 => ?_
     subst e60_0
     refine Ent.lenow (mS m0) fun e60_1 l60_1 => ?_
     subst e60_1
     refine Est rfl (N.alloc ty_Query dc) (fun b15 _ => (Est rfl (N.sto (vs := [_, _]) (cs' := [_, _]) ty_Query rfl rfl rfl rfl rfl bl rfl) (fun _ _ => (Ev Z10 (Emv rfl rfl (Emv rfl rfl (Emv rfl rfl (Ey rfl (Y.ldS (cs := [_, _]) ty_Query rfl (Has.pt m0) rfl) (Est rfl (N.call (a1r fc) rfl rfl rfl dc rfl (fun w Lp hA => ⟨hA.ow (mS (mS (mS (mS (mS m0))))), hA.ow (mS (mS (mS (mS m0)))), hA.ow (mS (mS (mS m0))), hA.ow (mS m0), hA.ow (mS (mS m0))⟩)) (fun k66 _ => ?_))))))))))
     obtain ⟨a66, m66, c66⟩ := k66
     refine Ent.lenow m0 fun e66 l66 => ?_
     subst e66
     refine Emv rfl rfl (Ey rfl ((Y.ext rfl rfl).yd) (Ey rfl ((Y.ext rfl rfl).yd) (Eas rfl rfl (Eas rfl rfl (Eu (Eq_ (Ew Z9 (Emv rfl rfl (Emv rfl rfl (Est rfl (N.call0 P3 rfl rfl rfl dc (fun w Lp hA => ⟨hA.ow m0, hA.ow (mS (mS (mS (mS (mS (mS (mS m0)))))))⟩)) (fun _ _ => (Ent.b (fun q71 => ?_) (fun q71 => ?_)))))))))))))
     ·refine Ey rfl ((Y.not (b := true) rfl).yd) (Emv rfl rfl (Emv rfl rfl (Emv rfl rfl (Ey rfl ((Y.neqB kr rfl rfl).yd) (Ent.d (fun q76 => ?_) (fun q76 => ?_))))))
      ·exact absurd rfl q76
      ·refine Ey rfl ((Y.pkf rfl rfl).yd) (Eu (E.cf rfl (E.skipc (Et (Eq_ (Ew Z5 (Emv rfl rfl (Emv rfl rfl (Est rfl (N.call (P4 fc) rfl rfl rfl dc rfl (fun w Lp hA => hA.ro haS)) (fun k80 _ => ?_))))))))))
       obtain ⟨a80, m80, c80⟩ := k80
       refine Ent.lenow m0 fun e80 l80 => ?_
       subst e80
       refine Est rfl (N.call0 P3 rfl rfl rfl dc (fun w Lp hA => ⟨hA.ow (mS (mS (mS (mS (mS (mS (mS m0))))))), hA.ow m0⟩)) (fun _ _ => (Ent.b (fun q81 => ?_) (fun q81 => ?_)))
       ·refine Ey rfl ((Y.not (b := true) rfl).yd) (Eu (E.cf rfl (E.skipc (Et (Eq_ (Ew Z5 (Emv rfl rfl (Emv rfl rfl (Est rfl (N.call (Y0 fc) rfl rfl rfl dc rfl (fun w Lp hA => hA.ro haL)) (fun k85 _ => ?_))))))))))
        obtain ⟨a85, m85, c85⟩ := k85
        refine Ent.lenow m0 fun e85 l85 => ?_
        subst e85
        refine Est rfl (N.call0 a6b rfl rfl rfl dc (fun w Lp hA => ⟨hA.ow (mS (mS (mS (mS (mS (mS (mS m0))))))), hA.ow m0⟩)) (fun _ _ => (Ent.b (fun q86 => ?_) (fun q86 => ?_)))
        ·refine Ey rfl ((Y.not (b := true) rfl).yd) (Eu (E.cf rfl (E.skipc (Et (Eq_ (Ew Z5 (Emv rfl rfl (Emv rfl rfl (Est rfl (N.call (a0N fc) rfl rfl rfl dc rfl (fun w Lp hA => hA.ro haRules)) (fun k90 _ => ?_))))))))))
         obtain ⟨a90, m90, c90⟩ := k90
         refine Ent.lenow m0 fun e90 l90 => ?_
         subst e90
         refine Est rfl (N.call0 a7U rfl rfl rfl dc (fun w Lp hA => ⟨hA.ow (mS (mS (mS (mS (mS (mS (mS m0))))))), hA.ow m0⟩)) (fun _ _ => (Ent.b (fun q91 => ?_) (fun q91 => ?_)))
         ·refine Ey rfl ((Y.not (b := true) rfl).yd) (Eu (E.cf rfl (E.skipc (Et (Eq_ (Eq_ (D.region (fun j => true) mixed (Dy 0 rfl (Y.ldS (cs := [_, _]) ty_Query rfl (Has.pt (mS (mS (mS (mS m0))))) rfl) (Dy 1 rfl (Y.ldS (cs := [_, _]) ty_lQuery rfl (Has.pt (mS (mS (mS (mS (mS (mS (mS (mS (mS (mS (mS (mS (mS (mS (mS (mS m0))))))))))))))))) rfl) (D.st 2 rfl rfl kr (fun _ => rfl) (N.call (a0K fc fc) rfl rfl rfl dc rfl (fun w Lp hA => ⟨hA.ro a2w, hA.ro a1C⟩)) (fun k95 _ => ?_)))))))))))
          obtain ⟨⟨a95_0, m95_0, c95_0⟩, ⟨a95_1, m95_1, c95_1⟩⟩ := k95
          refine Ent.lenow m0 fun e95_0 l95_0 => ?_
          subst e95_0
          refine Ent.lenow (mS m0) fun e95_1 l95_1 => ?_
          subst e95_1
          refine D.st 3 rfl rfl kr (fun _ => rfl) (N.call0 a7W rfl rfl rfl dc (fun w Lp hA => ⟨hA.ow (mS (mS (mS (mS (mS (mS (mS m0))))))), hA.ow (mS (mS (mS (mS (mS (mS (mS (mS m0)))))))), hA.ow m0, hA.ow (mS m0)⟩)) (fun _ _ => (Ent.b (fun q96 => ?_) (fun q96 => ?_)))
          ·refine Dyp 4 rfl (Y.not (b := true) rfl) (D.done kr (Et (E.cf rfl (E.skipc (Et (Ew Z1 (Eas rfl rfl (Ev Z4 (Emv rfl rfl (Emv rfl rfl (Ent.p11 (Est rfl (N.call (pre := [_]) S3 rfl rfl rfl dc rfl (fun w Lp hA => ⟨(by first | assumption | omega), (by first | assumption | omega)⟩)) (fun _ _ => (Eas rfl rfl (Ev Z4 (Emv rfl rfl (Emv rfl rfl (Ent.p11 (Est rfl (N.call (pre := [_]) a5k rfl rfl rfl dc rfl (fun w Lp hA => ⟨(by first | assumption | omega), (by first | assumption | omega)⟩)) (fun _ _ => (Eas rfl rfl (Ev Z4 (Emv rfl rfl (Emv rfl rfl (Ent.p11 (Est rfl (N.call (pre := [_]) a6d rfl rfl rfl dc rfl (fun w Lp hA => ⟨(by first | assumption | omega), (by first | assumption | omega)⟩)) (fun _ _ => (Eas rfl rfl (Ev Z4 (Ey rfl (Y.ldS (cs := [_, _]) ty_Query rfl (Has.pt (mS (mS (mS (mS (mS (mS (mS (mS (mS m0)))))))))) rfl) (Emv rfl rfl (Ent.p11 (Ent.p11 (Est rfl (N.call (pre := [_, _]) a6e rfl rfl rfl dc rfl (fun w Lp hA => ⟨(by first | assumption | omega), (by first | assumption | omega)⟩)) (fun _ _ => (Eas rfl rfl (Eu (Eq_ (Ew Z13 (Emv rfl rfl (Ey rfl ((Y.lss rfl rfl).yd) (Ent.d (fun q111 => ?_) (fun q111 => ?_)))))))))))))))))))))))))))))))))))))))))))
           ·exact absurd q111 om
           ·refine Emv rfl rfl (Emv rfl rfl (Emv rfl rfl (Est rfl (N.call0 P3 rfl rfl rfl dc (fun w Lp hA => ⟨hA.ow (mS (mS (mS (mS (mS (mS (mS (mS (mS (mS m0)))))))))), hA.ow (mS (mS (mS (mS (mS (mS (mS (mS (mS (mS (mS (mS m0))))))))))))⟩)) (fun _ _ => (Ent.b (fun q115 => ?_) (fun q115 => ?_))))))
            ·refine Ey rfl ((Y.not (b := true) rfl).yd) (Ey rfl ((Y.pkf rfl rfl).yd) (Emv rfl rfl (Emv rfl rfl (Emv rfl rfl (Ey rfl ((Y.neqB kr rfl rfl).yd) (Ent.d (fun q121 => ?_) (fun q121 => ?_)))))))
             ·exact absurd rfl q121
             ·refine Ey rfl ((Y.pkf rfl rfl).yd) (Eu (E.cf rfl (E.skipc (Et (Ew Z1 (Eas rfl rfl (Ev Z4 (Emv rfl rfl (Emv rfl rfl (Ent.p10 (Est rfl (N.call (pre := [_]) S3 rfl rfl rfl dc rfl (fun w Lp hA => ⟨(by first | assumption | omega), (by first | assumption | omega)⟩)) (fun _ _ => (Eas rfl rfl (Ev Z1 (Eas rfl rfl (Ev Z4 (Emv rfl rfl (Emv rfl rfl (Est rfl (N.call0 (a3C (a9P a0s b3P)) rfl rfl rfl dc (fun w Lp hA => ⟨hA.ow m0, (by (try simp only [o5 a0s, o5 a5C, o5 a2r, o5 a2l, o5 a1x, o5 a2p, o5 a0p, o5 a0L, o5 a2e, o5 a2g, o5 a1p, o5 a1v, o5 Y2, o5 a0h, o5 a0v, o5 a0I, o5 a2f, o5 a2m, o5 a2h, o5 a2d]); omega), (by (try simp only [o5 a0s, o5 a5C, o5 a2r, o5 a2l, o5 a1x, o5 a2p, o5 a0p, o5 a0L, o5 a2e, o5 a2g, o5 a1p, o5 a1v, o5 Y2, o5 a0h, o5 a0v, o5 a0I, o5 a2f, o5 a2m, o5 a2h, o5 a2d]); omega)⟩)) (fun _ _ => (Eas rfl rfl (Eu (Eq_ (Ew Z2 (Emv rfl rfl (Ey rfl ((Y.lss rfl rfl).yd) (Ent.d (fun q130 => ?_) (fun q130 => ?_))))))))))))))))))))))))))))
              ·exact absurd q130 om
              ·refine Eu (E.cf rfl (E.skipc (Et (Eq_ (Ew Z3 (Emv rfl rfl (Emv rfl rfl (Ey rfl ((Y.neq rfl rfl).yd) (Ent.d (fun q133 => ?_) (fun q133 => ?_))))))))))
               ·exact absurd (by simp only [o5 a0s, o5 a5C, o5 a2r, o5 a2l, o5 a1x, o5 a2p, o5 a0p, o5 a0L, o5 a2e, o5 a2g, o5 a1p, o5 a1v, o5 Y2, o5 a0h, o5 a0v, o5 a0I, o5 a2f, o5 a2m, o5 a2h, o5 a2d]) q133
               ·refine Eu (E.cf rfl (E.skipc (Et (Eq_ (D.region (fun j => true) mixed (Dyp 0 rfl (Y.mv rfl) (Dyp 2 rfl (Y.mv rfl) (Dyp 4 rfl (Y.mv rfl) (Dy 6 rfl (Y.ldS (cs := [_, _]) ty_lQuery rfl (Has.pt (mS (mS (mS (mS (mS (mS (mS (mS (mS (mS (mS (mS (mS (mS (mS (mS (mS (mS m0))))))))))))))))))) rfl) (D.st 1 rfl rfl kr (fun _ => rfl) (N.call (P4 fc) rfl rfl rfl dc rfl (fun w Lp hA => hA.ro haS)) (fun k136 _ => ?_)))))))))))
                obtain ⟨a136, m136, c136⟩ := k136
                refine Ent.lenow m0 fun e136 l136 => ?_
                subst e136
                refine D.st 3 rfl rfl kr (fun _ => rfl) (N.call (Y0 fc) rfl rfl rfl dc rfl (fun w Lp hA => hA.ro haL)) (fun k138 _ => ?_)
                obtain ⟨a138, m138, c138⟩ := k138
                refine Ent.lenow m0 fun e138 l138 => ?_
                subst e138
                refine D.st 5 rfl rfl kr (fun _ => rfl) (N.call (a0N fc) rfl rfl rfl dc rfl (fun w Lp hA => hA.ro haRules)) (fun k140 _ => ?_)
                obtain ⟨a140, m140, c140⟩ := k140
                refine Ent.lenow m0 fun e140 l140 => ?_
                subst e140
                refine D.st 7 rfl rfl kr (fun _ => rfl) (N.call (a0K fc fc) rfl rfl rfl dc rfl (fun w Lp hA => ⟨hA.ro a2w, hA.ro a1C⟩)) (fun k142 _ => ?_)
                obtain ⟨⟨a142_0, m142_0, c142_0⟩, ⟨a142_1, m142_1, c142_1⟩⟩ := k142
                refine Ent.lenow m0 fun e142_0 l142_0 => ?_
                subst e142_0
                refine Ent.lenow (mS m0) fun e142_1 l142_1 => ?_
                subst e142_1
                refine D.st 8 rfl rfl kr (fun _ => rfl) (N.call (a1r fc) rfl rfl rfl dc rfl (fun w Lp hA => ⟨hA.ow (mS (mS (mS (mS m0)))), hA.ow (mS (mS (mS m0))), hA.ow (mS (mS m0)), hA.ow m0, hA.ow (mS m0)⟩)) (fun k143 _ => ?_)
                obtain ⟨a143, m143, c143⟩ := k143
                refine Ent.lenow m0 fun e143 l143 => ?_
                subst e143
                refine Dyp 9 rfl (Y.mv rfl) (Dyp 10 rfl (Y.ext rfl rfl) (Dyp 11 rfl (Y.ext rfl rfl) (Dyp 12 rfl (Y.as rfl) (Dyp 13 rfl (Y.as rfl) (D.done kr (Et (Eq_ (Ew Z9 (Emv rfl rfl (Emv rfl rfl (Est rfl (N.call0 P3 rfl rfl rfl dc (fun w Lp hA => ⟨hA.ow m0, hA.ow (mS (mS (mS (mS (mS (mS (mS (mS (mS (mS (mS (mS (mS (mS (mS (mS (mS (mS m0))))))))))))))))))⟩)) (fun _ _ => (Ent.b (fun q148 => ?_) (fun q148 => ?_))))))))))))))
                ·refine Ey rfl ((Y.not (b := true) rfl).yd) (Emv rfl rfl (Emv rfl rfl (Emv rfl rfl (Ey rfl ((Y.neqB kr rfl rfl).yd) (Ent.d (fun q153 => ?_) (fun q153 => ?_))))))
                 ·exact absurd rfl q153
                 ·refine Ey rfl ((Y.pkf rfl rfl).yd) (Eu (E.cf rfl (E.skipc (Et (Ew Z1 (Eas rfl rfl (Ev Z4 (Emv rfl rfl (Emv rfl rfl (Est rfl (N.call0 (a3C (a9P a0s b3P)) rfl rfl rfl dc (fun w Lp hA => ⟨hA.ow (mS (mS (mS (mS (mS (mS m0)))))), (by (try simp only [o5 a0s, o5 a5C, o5 a2r, o5 a2l, o5 a1x, o5 a2p, o5 a0p, o5 a0L, o5 a2e, o5 a2g, o5 a1p, o5 a1v, o5 Y2, o5 a0h, o5 a0v, o5 a0I, o5 a2f, o5 a2m, o5 a2h, o5 a2d]); omega), (by (try simp only [o5 a0s, o5 a5C, o5 a2r, o5 a2l, o5 a1x, o5 a2p, o5 a0p, o5 a0L, o5 a2e, o5 a2g, o5 a1p, o5 a1v, o5 Y2, o5 a0h, o5 a0v, o5 a0I, o5 a2f, o5 a2m, o5 a2h, o5 a2d]); omega)⟩)) (fun _ _ => (Eas rfl rfl (Eu (Eq_ (Ew Z2 (Emv rfl rfl (Ey rfl ((Y.lss rfl rfl).yd) (Ent.d (fun q159 => ?_) (fun q159 => ?_)))))))))))))))))))
                  ·exact absurd q159 om
                  ·refine Eu (E.cf rfl (E.skipc (Et (Eq_ (Ew Z3 (Emv rfl rfl (Emv rfl rfl (Ey rfl ((Y.neq rfl rfl).yd) (Ent.d (fun q162 => ?_) (fun q162 => ?_))))))))))
                   ·exact absurd (by simp only [o5 a0s, o5 a5C, o5 a2r, o5 a2l, o5 a1x, o5 a2p, o5 a0p, o5 a0L, o5 a2e, o5 a2g, o5 a1p, o5 a1v, o5 Y2, o5 a0h, o5 a0v, o5 a0I, o5 a2f, o5 a2m, o5 a2h, o5 a2d]) q162
                   ·refine Eu (E.cf rfl (E.skipc (Et (Ew Z1 (Eas rfl rfl ?_)))))
                    exact Eu (E.ret (Fg rfl rfl () rfl rfl))
                ·refine Ey rfl ((Y.not (b := false) rfl).yd) (Emv rfl rfl (Es rfl (Es rfl (Es rfl (Ey rfl ((Y.pkt rfl rfl).yd) (Eu (E.ct rfl (Ew Z1 (Eas rfl rfl ?_)))))))))
                 exact Eu (E.ret (E.thr (Fb rfl rfl (by simp_all))))
            ·refine Ey rfl ((Y.not (b := false) rfl).yd) (Ey rfl ((Y.pkf rfl rfl).yd) (Emv rfl rfl (Es rfl (Es rfl (Es rfl (Ey rfl ((Y.pkt rfl rfl).yd) (Eu (E.ct rfl (Ew Z1 (Eas rfl rfl ?_))))))))))
             exact Eu (E.ret (E.thr (Fb rfl rfl (by simp_all))))
          ·refine Dyp 4 rfl (Y.not (b := false) rfl) (D.done kr (Et (E.ct rfl (Ew Z1 (Eas rfl rfl ?_)))))
           exact Eu (E.ret (E.thr (Fb rfl rfl (by simp_all))))
         ·refine Ey rfl ((Y.not (b := false) rfl).yd) (Eu (E.ct rfl (Ew Z1 (Eas rfl rfl ?_))))
          exact Eu (E.ret (E.thr (Fb rfl rfl (by simp_all))))
        ·refine Ey rfl ((Y.not (b := false) rfl).yd) (Eu (E.ct rfl (Ew Z1 (Eas rfl rfl ?_))))
         exact Eu (E.ret (E.thr (Fb rfl rfl (by simp_all))))
       ·refine Ey rfl ((Y.not (b := false) rfl).yd) (Eu (E.ct rfl (Ew Z1 (Eas rfl rfl ?_))))
        exact Eu (E.ret (E.thr (Fb rfl rfl (by simp_all))))
     ·refine Ey rfl ((Y.not (b := false) rfl).yd) (Emv rfl rfl (Es rfl (Es rfl (Es rfl (Ey rfl ((Y.pkt rfl rfl).yd) (Eu (E.ct rfl (Ew Z1 (Eas rfl rfl ?_)))))))))
      exact Eu (E.ret (E.thr (Fb rfl rfl (by simp_all))))
end Go.Proofs.YtdopeopehgdccaaGreat
