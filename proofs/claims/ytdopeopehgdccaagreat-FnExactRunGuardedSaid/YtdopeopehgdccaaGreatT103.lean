import Derived.Test.YtdopeopehgdccaaGreatT101
import Derived.Test.YtdopeopehgdccaaGreatT102
namespace Go.Proofs.YtdopeopehgdccaaGreat
open Go.RowKit
set_option linter.all false
set_option maxHeartbeats 2000000
attribute [local irreducible] Nop Yd Yp Ent Has Tr FnP FnP2 Src R6 a0d a0I a1c H6
theorem a4D {a_aS : Option Addr} {m_aS c_aS : Nat} {aS : List Int} {a_aL : Option Addr} {m_aL c_aL : Nat} {aL : List (Int × List Int × Int × Int × Int)} {a3D : Option Addr} {a3E a3F : Nat} {a4o : List Int} {a3a : Option Addr} {a3b a3c : Nat} {a0Z : List (Int × List Int)} {a9i : Option Addr} {a9j a9k : Nat} {a5Y : List (Int × List Int)} {a_aFacts : Option Addr} {m_aFacts c_aFacts : Nat} {aFacts : List (Int × List Int)} : Tr Tryz.prog 6 [.slice a_aS m_aS c_aS, .slice a_aL m_aL c_aL, .agg #[.slice a3D a3E a3F, .slice a3a a3b a3c, .slice a9i a9j a9k], .slice a_aFacts m_aFacts c_aFacts] (fun w L => Ro w L eIs [.slice a_aS m_aS c_aS] aS ∧ Ro w L E6 [.slice a_aL m_aL c_aL] aL ∧ Ro w L eIs [.slice a3D a3E a3F] a4o ∧ Ro w L B7 [.slice a3a a3b a3c] a0Z ∧ Ro w L B7 [.slice a9i a9j a9k] a5Y ∧ Ro w L s8 [.slice a_aFacts m_aFacts c_aFacts] aFacts) [] (κ := Unit) (fun k => True) (fun k => .bool (true)) (fun k => []) := by
 refine n9 Tryz.func6 rfl (n := 200) rfl (by decide +kernel) bl (fr := [(0, .slice a_aS m_aS c_aS), (1, .slice a_aL m_aL c_aL), (2, .agg #[.slice a3D a3E a3F, .slice a3a a3b a3c, .slice a9i a9j a9k]), (3, .slice a_aFacts m_aFacts c_aFacts)]) rfl fun w L hR => ?_
 obtain ⟨haS, haL, a1a, a0v, a4u, haFacts⟩ := hR
 obtain ⟨rfl, laS⟩ := haS.slen
 obtain ⟨rfl, laL⟩ := haL.slen
 obtain ⟨rfl, b8a⟩ := a1a.slen
 obtain ⟨rfl, b7e⟩ := a0v.slen
 obtain ⟨rfl, c0O⟩ := a4u.slen
 obtain ⟨rfl, laFacts⟩ := haFacts.slen
 have jb_aS := a3s (l := aS)
 have jb_aL := a4F (c := I5) (t := (fun x => x.2.1.length)) (n := 4) (fun x => by simp only [I5, a3s]; omega) (l := aL)
 have jc_aL : I9 (fun x => x.2.1.length) aL = aL.length + r9 (fun x => x.2.1.length) aL := rfl
 have b6P := a3s (l := a4o)
 have b5Y := a4F (c := E2) (t := (fun x => x.2.length)) (n := 1) (fun x => by simp only [E2, a3s]; omega) (l := a0Z)
 have b5Z : I9 (fun x => x.2.length) a0Z = a0Z.length + r9 (fun x => x.2.length) a0Z := rfl
 have b9W := a4F (c := E2) (t := (fun x => x.2.length)) (n := 1) (fun x => by simp only [E2, a3s]; omega) (l := a5Y)
 have b9X : I9 (fun x => x.2.length) a5Y = a5Y.length + r9 (fun x => x.2.length) a5Y := rfl
 have jb_aFacts := a4F (c := H2) (t := (fun x => x.2.length)) (n := 1) (fun x => by simp only [H2, a3s]; omega) (l := aFacts)
 have jc_aFacts : I9 (fun x => x.2.length) aFacts = aFacts.length + r9 (fun x => x.2.length) aFacts := rfl
 obtain ⟨r1, r2⟩ := b8I (s := aS) (l := aL) (g := ((a4o, a0Z), a5Y)) (d8 := aFacts)
 refine Ew Z2 (Est rfl (N.box (cs := [_, _, _]) rfl dc rfl) (fun b6 _ => (Ei rfl (Eu (Eq_ (Ew Z3 (Em rfl (Ey rfl ((Y.len us_Is rfl).yd) (Ey rfl ((Y.gtr rfl rfl).yd) (o6 (fun q28 => ?_) (fun q28 => ?_)))))))))))
 ·refine Eu (o2 rfl (Ew Z1 (Ei rfl ?_)))
  exact Eu (E.ret (l4 (Fg rfl rfl () rfl rfl)))
 ·refine Eu (o3 rfl (j5 (Et (Ew Z1 (Ei rfl (Ev Z4 (Em rfl (Em rfl (Est rfl (n0 a8y rfl rfl rfl dc (fun w Lp hA => ⟨hA.ro haL, (by first | assumption | omega), (by first | assumption | omega)⟩)) (fun _ _ => (Ei rfl (Eu (Eq_ (Ew Z2 (Em rfl (Ey rfl ((Y.lss rfl rfl).yd) (o6 (fun q33 => ?_) (fun q33 => ?_))))))))))))))))))
  ·have z33 := a0X q33 om
   refine Eu (o2 rfl (Ew Z1 (Ei rfl ?_)))
   exact Eu (E.ret (l4 (Fg rfl rfl () rfl rfl)))
  ·obtain ⟨z33, y33⟩ := a1I q33 om
   refine Eu (o3 rfl (j5 (Et (Ew Z4 (Ey rfl (o9 (cs := [_, _, _]) ty_lGuarded rfl (Has.pt m0) rfl) (Em rfl (Est rfl (n0 a8G rfl rfl rfl dc (fun w Lp hA => ⟨hA.ro a1a, hA.ro a0v, hA.ro a4u, (by first | assumption | omega), (by first | assumption | omega)⟩)) (fun _ _ => (Ei rfl (Eu (Eq_ (Ew Z2 (Em rfl (Ey rfl ((Y.lss rfl rfl).yd) (o6 (fun q38 => ?_) (fun q38 => ?_))))))))))))))))
   ·have z38 := a0X q38 om
    refine Eu (o2 rfl (Ew Z1 (Ei rfl ?_)))
    exact Eu (E.ret (l4 (Fg rfl rfl () rfl rfl)))
   ·obtain ⟨z38, y38⟩ := a1I q38 om
    refine Eu (o3 rfl (j5 (Et (Ew Z4 (Em rfl (Em rfl (Est rfl (n0 b0z rfl rfl rfl dc (fun w Lp hA => ⟨hA.ro haFacts, (by first | assumption | omega), (by first | assumption | omega)⟩)) (fun _ _ => (Ei rfl (Eu (Eq_ (Ew Z2 (Em rfl (Ey rfl ((Y.lss rfl rfl).yd) (o6 (fun q43 => ?_) (fun q43 => ?_))))))))))))))))
    ·have z43 := a0X q43 om
     refine Eu (o2 rfl (Ew Z1 (Ei rfl ?_)))
     exact Eu (E.ret (l4 (Fg rfl rfl () rfl rfl)))
    ·obtain ⟨z43, y43⟩ := a1I q43 om
     refine Eu (o3 rfl (j5 (Et (Eq_ (D.region (fun j => true) mixed (Dyp 0 rfl (l3 rfl) (Dyp 2 rfl (l3 rfl) (Dy 4 rfl (o9 (cs := [_, _, _]) ty_lGuarded rfl (Has.pt m0) rfl) (Dyp 6 rfl (l3 rfl) (t8 1 rfl rfl kr (fun _ => rfl) (N.call (Y3 fc) rfl rfl rfl dc rfl (fun w Lp hA => hA.ro haS)) (fun k46 _ => ?_)))))))))))
     obtain ⟨a46, m46, c46⟩ := k46
     refine i9 m0 fun e46 l46 => ?_
     subst e46
     refine t8 3 rfl rfl kr (fun _ => rfl) (N.call (a2a fc) rfl rfl rfl dc rfl (fun w Lp hA => hA.ro haL)) (fun k48 _ => ?_)
     obtain ⟨a48, m48, c48⟩ := k48
     refine i9 m0 fun e48 l48 => ?_
     subst e48
     refine t8 5 rfl rfl kr (fun _ => rfl) (N.call (a1W fc fc fc) rfl rfl rfl dc rfl (fun w Lp hA => ⟨hA.ro a1a, hA.ro a0v, hA.ro a4u⟩)) (fun k50 _ => ?_)
     obtain ⟨⟨a50_0, m50_0, c50_0⟩, ⟨a50_1, m50_1, c50_1⟩, ⟨a50_2, m50_2, c50_2⟩⟩ := k50
     refine i9 m0 fun e50_0 l50_0 => ?_
     subst e50_0
     refine i9 (mS m0) fun e50_1 l50_1 => ?_
     subst e50_1
     refine i9 (mS (mS m0)) fun e50_2 l50_2 => ?_
     subst e50_2
     refine t8 7 rfl rfl kr (fun _ => rfl) (N.call (a2A fc) rfl rfl rfl dc rfl (fun w Lp hA => hA.ro haFacts)) (fun k52 _ => ?_)
     obtain ⟨a52, m52, c52⟩ := k52
     refine i9 m0 fun e52 l52 => ?_
     subst e52
     refine t8 8 rfl rfl kr (fun _ => rfl) (N.call (a8k fc fc) rfl rfl rfl dc rfl (fun w Lp hA => ⟨hA.ow (mS (mS (mS (mS (mS m0))))), hA.ow (mS (mS (mS (mS m0)))), hA.ow (mS m0), hA.ow (mS (mS m0)), hA.ow (mS (mS (mS m0))), hA.ow m0⟩)) (fun k53 _ => ?_)
     obtain ⟨⟨a53_0, m53_0, c53_0⟩, ⟨a53_1, m53_1, c53_1⟩⟩ := k53
     refine i9 m0 fun e53_0 l53_0 => ?_
     subst e53_0
     refine i9 (mS m0) fun e53_1 l53_1 => ?_
     subst e53_1
     refine Dyp 9 rfl (l3 rfl) (Dyp 10 rfl (Y.ext rfl rfl) (Dyp 11 rfl (Y.ext rfl rfl) (Dyp 12 rfl (Y.ext rfl rfl) (Dyp 13 rfl (F7 rfl) (Dyp 14 rfl (F7 rfl) (Dyp 15 rfl (F7 rfl) (r8 kr (Et (Ew Z3 (Em rfl (Est rfl (N.call (Y3 fc) rfl rfl rfl dc rfl (fun w Lp hA => hA.ro haS)) (fun k58 _ => ?_))))))))))))
     obtain ⟨a58, m58, c58⟩ := k58
     refine i9 m0 fun e58 l58 => ?_
     subst e58
     refine Ei rfl (Ev Z3 (Em rfl (Est rfl (N.call (a2a fc) rfl rfl rfl dc rfl (fun w Lp hA => hA.ro haL)) (fun k60 _ => ?_))))
     obtain ⟨a60, m60, c60⟩ := k60
     refine i9 m0 fun e60 l60 => ?_
     subst e60
     refine Ei rfl (Ev Z4 (Ey rfl (o9 (cs := [_, _, _]) ty_lGuarded rfl (Has.pt (mS (mS (mS (mS (mS (mS (mS (mS (mS (mS m0))))))))))) rfl) (Est rfl (N.call (a1W fc fc fc) rfl rfl rfl dc rfl (fun w Lp hA => ⟨hA.ro a1a, hA.ro a0v, hA.ro a4u⟩)) (fun k62 _ => ?_))))
     obtain ⟨⟨a62_0, m62_0, c62_0⟩, ⟨a62_1, m62_1, c62_1⟩, ⟨a62_2, m62_2, c62_2⟩⟩ := k62
     refine i9 m0 fun e62_0 l62_0 => ?_
     subst e62_0
     refine i9 (mS m0) fun e62_1 l62_1 => ?_
     subst e62_1
     refine i9 (mS (mS m0)) fun e62_2 l62_2 => ?_
     subst e62_2
     refine Est rfl (N.alloc ty_Guarded dc) (fun b15 _ => (Est rfl (Ns [_, _, _] ty_Guarded rfl) (fun _ _ => (Ev Z3 (Em rfl (Est rfl (N.call (a2A fc) rfl rfl rfl dc rfl (fun w Lp hA => hA.ro haFacts)) (fun k64 _ => ?_)))))))
     obtain ⟨a64, m64, c64⟩ := k64
     refine i9 m0 fun e64 l64 => ?_
     subst e64
     refine Ei rfl (Ev Z12 (Em rfl (Em rfl (Ey rfl (o9 (cs := [_, _, _]) ty_Guarded rfl (Has.pt (mS m0)) rfl) (Em rfl (Est rfl (N.call (a4q fc fc) rfl rfl rfl dc rfl (fun w Lp hA => ⟨hA.ow (mS (mS (mS (mS (mS (mS m0)))))), hA.ow (mS (mS (mS (mS (mS m0))))), hA.ow (mS (mS m0)), hA.ow (mS (mS (mS m0))), hA.ow (mS (mS (mS (mS m0)))), hA.ow m0⟩)) (fun k70 _ => ?_)))))))
     obtain ⟨⟨a70_0, m70_0, c70_0⟩, ⟨a70_1, m70_1, c70_1⟩⟩ := k70
     refine i9 m0 fun e70_0 l70_0 => ?_
     subst e70_0
     refine i9 (mS m0) fun e70_1 l70_1 => ?_
     subst e70_1
     refine Em rfl (Ey rfl ((Y.ext rfl rfl).yd) (Ey rfl ((Y.ext rfl rfl).yd) (Ey rfl ((Y.ext rfl rfl).yd) (Ei rfl (Ei rfl (Ei rfl (Eu (Eq_ (Ew Z15 (Em rfl (Em rfl (Est rfl (n0 a3K rfl rfl rfl dc (fun w Lp hA => ⟨hA.ow m0, hA.ow (mS (mS (mS (mS (mS (mS (mS (mS (mS m0)))))))))⟩)) (fun _ _ => (Ent.b (fun q76 => ?_) (fun q76 => ?_)))))))))))))))
     ·refine Ey rfl ((Y.not (b := true) rfl).yd) (Em rfl (Em rfl (Em rfl (Est rfl (n0 a2X rfl rfl rfl dc (fun w Lp hA => ⟨hA.ow (mS m0), hA.ow (mS (mS (mS (mS (mS (mS (mS (mS (mS (mS m0))))))))))⟩)) (fun _ _ => (Ent.b (fun q81 => ?_) (fun q81 => ?_)))))))
      ·refine Ey rfl ((Y.not (b := true) rfl).yd) (Ey rfl ((u0 rfl rfl).yd) (Em rfl (Em rfl (Em rfl (Ey rfl ((b3u kr rfl rfl).yd) (o6 (fun q87 => ?_) (fun q87 => ?_)))))))
       ·exact absurd rfl q87
       ·refine Ey rfl ((u0 rfl rfl).yd) (Eu (o3 rfl (j5 (Et (Eq_ (Ew Z5 (Em rfl (Em rfl (Est rfl (N.call (Y3 fc) rfl rfl rfl dc rfl (fun w Lp hA => hA.ro haS)) (fun k91 _ => ?_))))))))))
        obtain ⟨a91, m91, c91⟩ := k91
        refine i9 m0 fun e91 l91 => ?_
        subst e91
        refine Est rfl (n0 a0z rfl rfl rfl dc (fun w Lp hA => ⟨hA.ow (mS (mS (mS (mS (mS (mS (mS (mS (mS m0))))))))), hA.ow m0⟩)) (fun _ _ => (Ent.b (fun q92 => ?_) (fun q92 => ?_)))
        ·refine Ey rfl ((Y.not (b := true) rfl).yd) (Eu (o3 rfl (j5 (Et (Eq_ (Ew Z5 (Em rfl (Em rfl (Est rfl (N.call (a2a fc) rfl rfl rfl dc rfl (fun w Lp hA => hA.ro haL)) (fun k96 _ => ?_))))))))))
         obtain ⟨a96, m96, c96⟩ := k96
         refine i9 m0 fun e96 l96 => ?_
         subst e96
         refine Est rfl (n0 a8Y rfl rfl rfl dc (fun w Lp hA => ⟨hA.ow (mS (mS (mS (mS (mS (mS (mS (mS (mS m0))))))))), hA.ow m0⟩)) (fun _ _ => (Ent.b (fun q97 => ?_) (fun q97 => ?_)))
         ·refine Ey rfl ((Y.not (b := true) rfl).yd) (Eu (o3 rfl (j5 (Et (Eq_ (Eq_ (D.region (fun j => true) mixed (Dy 0 rfl (o9 (cs := [_, _, _]) ty_Guarded rfl (Has.pt (mS (mS (mS (mS (mS m0)))))) rfl) (Dy 1 rfl (o9 (cs := [_, _, _]) ty_lGuarded rfl (Has.pt (mS (mS (mS (mS (mS (mS (mS (mS (mS (mS (mS (mS (mS (mS (mS (mS (mS (mS (mS m0)))))))))))))))))))) rfl) (t8 2 rfl rfl kr (fun _ => rfl) (N.call (a1W fc fc fc) rfl rfl rfl dc rfl (fun w Lp hA => ⟨hA.ro a1a, hA.ro a0v, hA.ro a4u⟩)) (fun k101 _ => ?_)))))))))))
          obtain ⟨⟨a101_0, m101_0, c101_0⟩, ⟨a101_1, m101_1, c101_1⟩, ⟨a101_2, m101_2, c101_2⟩⟩ := k101
          refine i9 m0 fun e101_0 l101_0 => ?_
          subst e101_0
          refine i9 (mS m0) fun e101_1 l101_1 => ?_
          subst e101_1
          refine i9 (mS (mS m0)) fun e101_2 l101_2 => ?_
          subst e101_2
          refine t8 3 rfl rfl kr (fun _ => rfl) (n0 a8v rfl rfl rfl dc (fun w Lp hA => ⟨hA.ow (mS (mS (mS (mS (mS (mS (mS (mS (mS m0))))))))), hA.ow (mS (mS (mS (mS (mS (mS (mS (mS (mS (mS m0)))))))))), hA.ow (mS (mS (mS (mS (mS (mS (mS (mS (mS (mS (mS m0))))))))))), hA.ow m0, hA.ow (mS m0), hA.ow (mS (mS m0))⟩)) (fun _ _ => (Ent.b (fun q102 => ?_) (fun q102 => ?_)))
          ·refine Dyp 4 rfl (Y.not (b := true) rfl) (r8 kr (Et (o3 rfl (j5 (Et (Eq_ (Ew Z5 (Em rfl (Em rfl (Est rfl (N.call (a2A fc) rfl rfl rfl dc rfl (fun w Lp hA => hA.ro haFacts)) (fun k106 _ => ?_)))))))))))
           obtain ⟨a106, m106, c106⟩ := k106
           refine i9 m0 fun e106 l106 => ?_
           subst e106
           refine Est rfl (n0 b0o rfl rfl rfl dc (fun w Lp hA => ⟨hA.ow (mS (mS (mS (mS (mS (mS (mS (mS m0)))))))), hA.ow m0⟩)) (fun _ _ => (Ent.b (fun q107 => ?_) (fun q107 => ?_)))
           ·refine Ey rfl ((Y.not (b := true) rfl).yd) (Eu (o3 rfl (j5 (Et (Ew Z1 (Ei rfl (Ev Z4 (Em rfl (Em rfl (a6b (Est rfl (N.call (pre := [_]) X3 rfl rfl rfl dc rfl (fun w Lp hA => ⟨(by first | assumption | omega), (by first | assumption | omega)⟩)) (fun _ _ => (Ei rfl (Ev Z4 (Em rfl (Em rfl (a6b (Est rfl (N.call (pre := [_]) a7m rfl rfl rfl dc rfl (fun w Lp hA => ⟨(by first | assumption | omega), (by first | assumption | omega)⟩)) (fun _ _ => (Ei rfl (Ev Z4 (Ey rfl (o9 (cs := [_, _, _]) ty_Guarded rfl (Has.pt (mS (mS (mS (mS (mS (mS (mS (mS (mS (mS (mS m0)))))))))))) rfl) (Em rfl (a6b (a6b (a6b (Est rfl (N.call (pre := [_, _, _]) a7h rfl rfl rfl dc rfl (fun w Lp hA => ⟨(by first | assumption | omega), (by first | assumption | omega)⟩)) (fun _ _ => (Ei rfl (Ev Z4 (Em rfl (Em rfl (G1 (Est rfl (N.call (pre := [_]) a9h rfl rfl rfl dc rfl (fun w Lp hA => ⟨(by first | assumption | omega), (by first | assumption | omega)⟩)) (fun _ _ => (Ei rfl (Eu (Eq_ (Ew Z19 (Em rfl (Ey rfl ((Y.lss rfl rfl).yd) (o6 (fun q122 => ?_) (fun q122 => ?_)))))))))))))))))))))))))))))))))))))))))))
            ·exact absurd q122 om
            ·refine Em rfl (Em rfl (Em rfl (Est rfl (n0 a3K rfl rfl rfl dc (fun w Lp hA => ⟨hA.ow (mS (mS (mS (mS (mS (mS (mS (mS (mS (mS (mS (mS m0)))))))))))), hA.ow (mS (mS (mS (mS (mS (mS (mS (mS (mS (mS (mS (mS (mS (mS (mS m0)))))))))))))))⟩)) (fun _ _ => (Ent.b (fun q126 => ?_) (fun q126 => ?_))))))
             ·refine Ey rfl ((Y.not (b := true) rfl).yd) (Ey rfl ((u0 rfl rfl).yd) (Em rfl (Em rfl (Em rfl (Est rfl (n0 a2X rfl rfl rfl dc (fun w Lp hA => ⟨hA.ow (mS (mS (mS (mS (mS (mS (mS (mS (mS (mS (mS (mS (mS m0))))))))))))), hA.ow (mS (mS (mS (mS (mS (mS (mS (mS (mS (mS (mS (mS (mS (mS (mS (mS m0))))))))))))))))⟩)) (fun _ _ => (Ent.b (fun q132 => ?_) (fun q132 => ?_))))))))
              ·refine Ey rfl ((Y.not (b := true) rfl).yd) (Ey rfl ((u0 rfl rfl).yd) (Em rfl (Em rfl (Em rfl (Ey rfl ((b3u kr rfl rfl).yd) (o6 (fun q138 => ?_) (fun q138 => ?_)))))))
               ·exact absurd rfl q138
               ·refine Ey rfl ((u0 rfl rfl).yd) (Eu (o3 rfl (j5 (Et (Ew Z1 (Ei rfl (Ev Z4 (Em rfl (Em rfl (H4 (Est rfl (N.call (pre := [_]) a9c rfl rfl rfl dc rfl (fun w Lp hA => ⟨(by first | assumption | omega), (by first | assumption | omega)⟩)) (fun _ _ => (Ei rfl (Ev Z4 (Em rfl (Em rfl (G1 (Est rfl (N.call (pre := [_]) a7e rfl rfl rfl dc rfl (fun w Lp hA => ⟨(by first | assumption | omega), (by first | assumption | omega)⟩)) (fun _ _ => (Ei rfl (Ev Z1 (Ei rfl (Ev Z4 (Em rfl (Em rfl (Est rfl (n0 (a4M (a3B a2l b6X)) rfl rfl rfl dc (fun w Lp hA => ⟨hA.ow (mS m0), (by (try simp only [o1 a0K, o1 a2l, o1 a0Y, o1 a0A, o1 a0q, o1 a0F, o1 Q9, o1 V5, o1 a0S, o1 a0E, o1 a0b, o1 Y5, o1 U4, o1 T7, o1 W4, o1 V6, o1 a0V, o1 a0D, o1 a0W, o1 a0G]); omega), (by (try simp only [o1 a0K, o1 a2l, o1 a0Y, o1 a0A, o1 a0q, o1 a0F, o1 Q9, o1 V5, o1 a0S, o1 a0E, o1 a0b, o1 Y5, o1 U4, o1 T7, o1 W4, o1 V6, o1 a0V, o1 a0D, o1 a0W, o1 a0G]); omega)⟩)) (fun _ _ => (Ei rfl (Eu (Eq_ (Ew Z2 (Em rfl (Ey rfl ((Y.lss rfl rfl).yd) (o6 (fun q150 => ?_) (fun q150 => ?_)))))))))))))))))))))))))))))))))))
                ·exact absurd q150 om
                ·refine Eu (o3 rfl (j5 (Et (Ew Z4 (Em rfl (Em rfl (Est rfl (n0 (a4g (by first | exact a3B Q9 a5b | (simp only [o1 a0K, o1 a2l, o1 a0Y, o1 a0A, o1 a0q, o1 a0F, o1 Q9, o1 V5, o1 a0S, o1 a0E, o1 a0b, o1 Y5, o1 U4, o1 T7, o1 W4, o1 V6, o1 a0V, o1 a0D, o1 a0W, o1 a0G]; exact a3B Q9 a5b))) rfl rfl rfl dc (fun w Lp hA => ⟨hA.ow m0, (by (try simp only [o1 a0K, o1 a2l, o1 a0Y, o1 a0A, o1 a0q, o1 a0F, o1 Q9, o1 V5, o1 a0S, o1 a0E, o1 a0b, o1 Y5, o1 U4, o1 T7, o1 W4, o1 V6, o1 a0V, o1 a0D, o1 a0W, o1 a0G]); omega), (by (try simp only [o1 a0K, o1 a2l, o1 a0Y, o1 a0A, o1 a0q, o1 a0F, o1 Q9, o1 V5, o1 a0S, o1 a0E, o1 a0b, o1 Y5, o1 U4, o1 T7, o1 W4, o1 V6, o1 a0V, o1 a0D, o1 a0W, o1 a0G]); omega)⟩)) (fun _ _ => (Ei rfl (Eu (Eq_ (Ew Z2 (Em rfl (Ey rfl ((Y.lss rfl rfl).yd) (o6 (fun q155 => ?_) (fun q155 => ?_))))))))))))))))
                 ·exact absurd q155 om
                 ·refine Eu (o3 rfl (j5 (Et (Eq_ (Ew Z3 (Em rfl (Em rfl (Ey rfl ((Y.neq rfl rfl).yd) (o6 (fun q158 => ?_) (fun q158 => ?_))))))))))
                  ·exact absurd (by simp only [o1 a0K, o1 a2l, o1 a0Y, o1 a0A, o1 a0q, o1 a0F, o1 Q9, o1 V5, o1 a0S, o1 a0E, o1 a0b, o1 Y5, o1 U4, o1 T7, o1 W4, o1 V6, o1 a0V, o1 a0D, o1 a0W, o1 a0G]) q158
                  ·refine Eu (o3 rfl (j5 (Et (Eq_ (D.region (fun j => true) mixed (Dyp 0 rfl (l3 rfl) (Dyp 2 rfl (l3 rfl) (Dy 4 rfl (o9 (cs := [_, _, _]) ty_lGuarded rfl (Has.pt (mS (mS (mS (mS (mS (mS (mS (mS (mS (mS (mS (mS (mS (mS (mS (mS (mS (mS (mS (mS (mS (mS (mS m0)))))))))))))))))))))))) rfl) (Dyp 6 rfl (l3 rfl) (t8 1 rfl rfl kr (fun _ => rfl) (N.call (Y3 fc) rfl rfl rfl dc rfl (fun w Lp hA => hA.ro haS)) (fun k161 _ => ?_)))))))))))
                   obtain ⟨a161, m161, c161⟩ := k161
                   refine i9 m0 fun e161 l161 => ?_
                   subst e161
                   refine t8 3 rfl rfl kr (fun _ => rfl) (N.call (a2a fc) rfl rfl rfl dc rfl (fun w Lp hA => hA.ro haL)) (fun k163 _ => ?_)
                   obtain ⟨a163, m163, c163⟩ := k163
                   refine i9 m0 fun e163 l163 => ?_
                   subst e163
                   refine t8 5 rfl rfl kr (fun _ => rfl) (N.call (a1W fc fc fc) rfl rfl rfl dc rfl (fun w Lp hA => ⟨hA.ro a1a, hA.ro a0v, hA.ro a4u⟩)) (fun k165 _ => ?_)
                   obtain ⟨⟨a165_0, m165_0, c165_0⟩, ⟨a165_1, m165_1, c165_1⟩, ⟨a165_2, m165_2, c165_2⟩⟩ := k165
                   refine i9 m0 fun e165_0 l165_0 => ?_
                   subst e165_0
                   refine i9 (mS m0) fun e165_1 l165_1 => ?_
                   subst e165_1
                   refine i9 (mS (mS m0)) fun e165_2 l165_2 => ?_
                   subst e165_2
                   refine t8 7 rfl rfl kr (fun _ => rfl) (N.call (a2A fc) rfl rfl rfl dc rfl (fun w Lp hA => hA.ro haFacts)) (fun k167 _ => ?_)
                   obtain ⟨a167, m167, c167⟩ := k167
                   refine i9 m0 fun e167 l167 => ?_
                   subst e167
                   refine t8 8 rfl rfl kr (fun _ => rfl) (N.call (a4q fc fc) rfl rfl rfl dc rfl (fun w Lp hA => ⟨hA.ow (mS (mS (mS (mS (mS m0))))), hA.ow (mS (mS (mS (mS m0)))), hA.ow (mS m0), hA.ow (mS (mS m0)), hA.ow (mS (mS (mS m0))), hA.ow m0⟩)) (fun k168 _ => ?_)
                   obtain ⟨⟨a168_0, m168_0, c168_0⟩, ⟨a168_1, m168_1, c168_1⟩⟩ := k168
                   refine i9 m0 fun e168_0 l168_0 => ?_
                   subst e168_0
                   refine i9 (mS m0) fun e168_1 l168_1 => ?_
                   subst e168_1
                   refine Dyp 9 rfl (l3 rfl) (Dyp 10 rfl (Y.ext rfl rfl) (Dyp 11 rfl (Y.ext rfl rfl) (Dyp 12 rfl (Y.ext rfl rfl) (Dyp 13 rfl (F7 rfl) (Dyp 14 rfl (F7 rfl) (Dyp 15 rfl (F7 rfl) (r8 kr (Et (Eq_ (Ew Z15 (Em rfl (Em rfl (Est rfl (n0 a3K rfl rfl rfl dc (fun w Lp hA => ⟨hA.ow m0, hA.ow (mS (mS (mS (mS (mS (mS (mS (mS (mS (mS (mS (mS (mS (mS (mS (mS (mS (mS (mS (mS (mS (mS (mS m0)))))))))))))))))))))))⟩)) (fun _ _ => (Ent.b (fun q174 => ?_) (fun q174 => ?_))))))))))))))))
                   ·refine Ey rfl ((Y.not (b := true) rfl).yd) (Em rfl (Em rfl (Em rfl (Est rfl (n0 a2X rfl rfl rfl dc (fun w Lp hA => ⟨hA.ow (mS m0), hA.ow (mS (mS (mS (mS (mS (mS (mS (mS (mS (mS (mS (mS (mS (mS (mS (mS (mS (mS (mS (mS (mS (mS (mS (mS m0))))))))))))))))))))))))⟩)) (fun _ _ => (Ent.b (fun q179 => ?_) (fun q179 => ?_)))))))
                    ·refine Ey rfl ((Y.not (b := true) rfl).yd) (Ey rfl ((u0 rfl rfl).yd) (Em rfl (Em rfl (Em rfl (Ey rfl ((b3u kr rfl rfl).yd) (o6 (fun q185 => ?_) (fun q185 => ?_)))))))
                     ·exact absurd rfl q185
                     ·refine Ey rfl ((u0 rfl rfl).yd) (Eu (o3 rfl (j5 (Et (Ew Z1 (Ei rfl (Ev Z4 (Em rfl (Em rfl (Est rfl (n0 (a4M (a3B a2l b6X)) rfl rfl rfl dc (fun w Lp hA => ⟨hA.ow (mS (mS (mS (mS (mS (mS (mS (mS (mS m0))))))))), (by (try simp only [o1 a0K, o1 a2l, o1 a0Y, o1 a0A, o1 a0q, o1 a0F, o1 Q9, o1 V5, o1 a0S, o1 a0E, o1 a0b, o1 Y5, o1 U4, o1 T7, o1 W4, o1 V6, o1 a0V, o1 a0D, o1 a0W, o1 a0G]); omega), (by (try simp only [o1 a0K, o1 a2l, o1 a0Y, o1 a0A, o1 a0q, o1 a0F, o1 Q9, o1 V5, o1 a0S, o1 a0E, o1 a0b, o1 Y5, o1 U4, o1 T7, o1 W4, o1 V6, o1 a0V, o1 a0D, o1 a0W, o1 a0G]); omega)⟩)) (fun _ _ => (Ei rfl (Eu (Eq_ (Ew Z2 (Em rfl (Ey rfl ((Y.lss rfl rfl).yd) (o6 (fun q191 => ?_) (fun q191 => ?_)))))))))))))))))))
                      ·exact absurd q191 om
                      ·refine Eu (o3 rfl (j5 (Et (Ew Z4 (Em rfl (Em rfl (Est rfl (n0 (a4g (by first | exact a3B Q9 a5b | (simp only [o1 a0K, o1 a2l, o1 a0Y, o1 a0A, o1 a0q, o1 a0F, o1 Q9, o1 V5, o1 a0S, o1 a0E, o1 a0b, o1 Y5, o1 U4, o1 T7, o1 W4, o1 V6, o1 a0V, o1 a0D, o1 a0W, o1 a0G]; exact a3B Q9 a5b))) rfl rfl rfl dc (fun w Lp hA => ⟨hA.ow (mS (mS (mS (mS (mS (mS (mS (mS m0)))))))), (by (try simp only [o1 a0K, o1 a2l, o1 a0Y, o1 a0A, o1 a0q, o1 a0F, o1 Q9, o1 V5, o1 a0S, o1 a0E, o1 a0b, o1 Y5, o1 U4, o1 T7, o1 W4, o1 V6, o1 a0V, o1 a0D, o1 a0W, o1 a0G]); omega), (by (try simp only [o1 a0K, o1 a2l, o1 a0Y, o1 a0A, o1 a0q, o1 a0F, o1 Q9, o1 V5, o1 a0S, o1 a0E, o1 a0b, o1 Y5, o1 U4, o1 T7, o1 W4, o1 V6, o1 a0V, o1 a0D, o1 a0W, o1 a0G]); omega)⟩)) (fun _ _ => (Ei rfl (Eu (Eq_ (Ew Z2 (Em rfl (Ey rfl ((Y.lss rfl rfl).yd) (o6 (fun q196 => ?_) (fun q196 => ?_))))))))))))))))
                       ·exact absurd q196 om
                       ·refine Eu (o3 rfl (j5 (Et (Eq_ (Ew Z3 (Em rfl (Em rfl (Ey rfl ((Y.neq rfl rfl).yd) (o6 (fun q199 => ?_) (fun q199 => ?_))))))))))
                        ·exact absurd (by simp only [o1 a0K, o1 a2l, o1 a0Y, o1 a0A, o1 a0q, o1 a0F, o1 Q9, o1 V5, o1 a0S, o1 a0E, o1 a0b, o1 Y5, o1 U4, o1 T7, o1 W4, o1 V6, o1 a0V, o1 a0D, o1 a0W, o1 a0G]) q199
                        ·refine Eu (o3 rfl (j5 (Et (Ew Z1 (Ei rfl ?_)))))
                         exact Eu (E.ret (Fg rfl rfl () rfl rfl))
                    ·refine Ey rfl ((Y.not (b := false) rfl).yd) (Ey rfl ((u0 rfl rfl).yd) (Em rfl (Es rfl (Es rfl (Es rfl (Ey rfl ((u7 rfl rfl).yd) (Eu (o2 rfl (Ew Z1 (Ei rfl ?_))))))))))
                     exact Eu (E.ret (l4 (Fb rfl rfl (by simp_all))))
                   ·refine Ey rfl ((Y.not (b := false) rfl).yd) (Em rfl (Es rfl (Es rfl (Es rfl (Es rfl (Ey rfl ((u7 rfl rfl).yd) (Em rfl (Es rfl (Es rfl (Es rfl (Ey rfl ((u7 rfl rfl).yd) (Eu (o2 rfl (Ew Z1 (Ei rfl ?_)))))))))))))))
                    exact Eu (E.ret (l4 (Fb rfl rfl (by simp_all))))
              ·refine Ey rfl ((Y.not (b := false) rfl).yd) (Ey rfl ((u0 rfl rfl).yd) (Em rfl (Es rfl (Es rfl (Es rfl (Ey rfl ((u7 rfl rfl).yd) (Eu (o2 rfl (Ew Z1 (Ei rfl ?_))))))))))
               exact Eu (E.ret (l4 (Fb rfl rfl (by simp_all))))
             ·refine Ey rfl ((Y.not (b := false) rfl).yd) (Ey rfl ((u0 rfl rfl).yd) (Em rfl (Es rfl (Es rfl (Es rfl (Es rfl (Ey rfl ((u7 rfl rfl).yd) (Em rfl (Es rfl (Es rfl (Es rfl (Ey rfl ((u7 rfl rfl).yd) (Eu (o2 rfl (Ew Z1 (Ei rfl ?_))))))))))))))))
              exact Eu (E.ret (l4 (Fb rfl rfl (by simp_all))))
           ·refine Ey rfl ((Y.not (b := false) rfl).yd) (Eu (o2 rfl (Ew Z1 (Ei rfl ?_))))
            exact Eu (E.ret (l4 (Fb rfl rfl (by simp_all))))
          ·refine Dyp 4 rfl (Y.not (b := false) rfl) (r8 kr (Et (o2 rfl (Ew Z1 (Ei rfl ?_)))))
           exact Eu (E.ret (l4 (Fb rfl rfl (by simp_all))))
         ·refine Ey rfl ((Y.not (b := false) rfl).yd) (Eu (o2 rfl (Ew Z1 (Ei rfl ?_))))
          exact Eu (E.ret (l4 (Fb rfl rfl (by simp_all))))
        ·refine Ey rfl ((Y.not (b := false) rfl).yd) (Eu (o2 rfl (Ew Z1 (Ei rfl ?_))))
         exact Eu (E.ret (l4 (Fb rfl rfl (by simp_all))))
      ·refine Ey rfl ((Y.not (b := false) rfl).yd) (Ey rfl ((u0 rfl rfl).yd) (Em rfl (Es rfl (Es rfl (Es rfl (Ey rfl ((u7 rfl rfl).yd) (Eu (o2 rfl (Ew Z1 (Ei rfl ?_))))))))))
       exact Eu (E.ret (l4 (Fb rfl rfl (by simp_all))))
     ·refine Ey rfl ((Y.not (b := false) rfl).yd) (Em rfl (Es rfl (Es rfl (Es rfl (Es rfl (Ey rfl ((u7 rfl rfl).yd) (Em rfl (Es rfl (Es rfl (Es rfl (Ey rfl ((u7 rfl rfl).yd) (Eu (o2 rfl (Ew Z1 (Ei rfl ?_)))))))))))))))
      exact Eu (E.ret (l4 (Fb rfl rfl (by simp_all))))
end Go.Proofs.YtdopeopehgdccaaGreat
