import Derived.Test.YtonkkkjgdohooaaGreatBs
import Derived.Test.YtonkkkjgdohooaaGreatT17
import Derived.Test.YtonkkkjgdohooaaGreatT11
import Derived.Test.YtonkkkjgdohooaaGreatT14
import Derived.Test.YtonkkkjgdohooaaGreatT1
import Derived.Test.YtonkkkjgdohooaaGreatBc
import Derived.Test.YtonkkkjgdohooaaGreatT5
import Derived.Test.YtonkkkjgdohooaaGreatBd
import Derived.Test.YtonkkkjgdohooaaGreatDw
import Derived.Test.YtonkkkjgdohooaaGreatBh
namespace Go.Proofs.YtonkkkjgdohooaaGreat
open Go.RowKit
set_option linter.unusedVariables false
set_option linter.unusedSimpArgs false
set_option maxHeartbeats 2000000
attribute [local irreducible] Nop Yd Yp Ent Has Tr FnP FnP2 Src listsF opnF opn1 opnR chainB
theorem t_impl_ConstantsOf {a_q_Head : Option Addr} {m_q_Head c_q_Head : Nat} {q_Head : List Int} {a_q_Atoms : Option Addr} {m_q_Atoms c_q_Atoms : Nat} {q_Atoms : List (Int × List Int)} (hz : totL (fun x => x.2.length) q_Atoms ≤ 1048576) : Tr Tryz.prog 161 [.agg #[.slice a_q_Head m_q_Head c_q_Head, .slice a_q_Atoms m_q_Atoms c_q_Atoms]] (fun w L => Ro w L eIs [.slice a_q_Head m_q_Head c_q_Head] q_Head ∧ Ro w L eAtoms [.slice a_q_Atoms m_q_Atoms c_q_Atoms] q_Atoms) [] (κ := Option Addr × Nat × Nat) (fun k => True) (fun k => .slice k.1 k.2.1 k.2.2) (fun k => [ow eIs [.slice k.1 k.2.1 k.2.2] (termsF (fun t => inR t 0 9) q_Atoms)]) := by
  refine Tr.intro Tryz.func161 rfl (n := 6) rfl (by decide +kernel) bl (fr := [(0, .agg #[.slice a_q_Head m_q_Head c_q_Head, .slice a_q_Atoms m_q_Atoms c_q_Atoms])]) rfl fun w L hR => ?_
  obtain ⟨hq_Head, hq_Atoms⟩ := hR
  obtain ⟨rfl, lq_Head⟩ := hq_Head.slen
  obtain ⟨rfl, lq_Atoms⟩ := hq_Atoms.slen
  refine Ew Z2 (Est rfl (N.box (cs := [_, _]) rfl dc rfl) (fun b1 _ => (Eas rfl rfl (Ev Z4 (Ey rfl ((Y.fld fo_Query_1 ty_Atoms dc rfl).yd) (Ey rfl (Y.ld1 ty_Atoms rfl ((Has.pt m0).sub (cs' := [_]) 1 rfl) rfl) (Est rfl (N.call (t_impl_termsOf (is := (fun n => inR n 0 9)) (D_is := (fun _ => True)) fc (by intros; exact trivial)) rfl rfl rfl dc rfl (fun w Lp hA => ⟨hA.ro hq_Atoms, FnP.ofI (D := (fun _ => True)) (RR := fun _ _ => True) (fun hd => Tr.wk t_impl_isValue (fun _ _ _ => trivial)) (fun w' hk => trivial)⟩)) (fun k5 _ => ?_))))))))
  obtain ⟨a5, m5, c5⟩ := k5
  refine Ent.lenow m0 fun e5 l5 => ?_
  subst e5
  refine Eas rfl rfl (Eu (E.ret (Ent.cv (congrArg (ow eIs [_]) (show _ = termsF (fun t => inR t 0 9) q_Atoms by grind [d1, d2, t1, t2])) ?_)))
  exact Fg rfl rfl (_, _, _) rfl rfl
theorem t_spec_ConstantsOf {a_q_Head : Option Addr} {m_q_Head c_q_Head : Nat} {q_Head : List Int} {a_q_Atoms : Option Addr} {m_q_Atoms c_q_Atoms : Nat} {q_Atoms : List (Int × List Int)} (hz : totL (fun x => x.2.length) q_Atoms ≤ 1048576) : Tr Tryz.prog 152 [.agg #[.slice a_q_Head m_q_Head c_q_Head, .slice a_q_Atoms m_q_Atoms c_q_Atoms]] (fun w L => Ro w L eIs [.slice a_q_Head m_q_Head c_q_Head] q_Head ∧ Ro w L eAtoms [.slice a_q_Atoms m_q_Atoms c_q_Atoms] q_Atoms) [] (κ := Option Addr × Nat × Nat) (fun k => True) (fun k => .slice k.1 k.2.1 k.2.2) (fun k => [ow eIs [.slice k.1 k.2.1 k.2.2] (termsF (fun t => inR t 0 9) q_Atoms)]) := by
  refine Tr.intro Tryz.func152 rfl (n := 47) rfl (by decide +kernel) bl (fr := [(0, .agg #[.slice a_q_Head m_q_Head c_q_Head, .slice a_q_Atoms m_q_Atoms c_q_Atoms])]) rfl fun w L hR => ?_
  obtain ⟨hq_Head, hq_Atoms⟩ := hR
  obtain ⟨rfl, lq_Head⟩ := hq_Head.slen
  obtain ⟨rfl, lq_Atoms⟩ := hq_Atoms.slen
  have jv := hq_Atoms.i64A
  refine Ew Z2 (Est rfl (N.box (cs := [_, _]) rfl dc rfl) (fun b1 _ => (Eas rfl rfl (Ev Z2 (Est rfl (N.bsl (pvs := []) (cs := []) us_Is ty_I rfl dc dc (fillZ rfl rfl) rfl dc) (fun b6 _ => (Ent.drop (Eas rfl rfl (Eu (Eq_ (Ew Z1 (Eas rfl rfl (Eu (E.block (Ent.mkow (A := []) (Own.nil (E := Enc.int) (e := tI) (a := (some ⟨b6, 0, none⟩))) rfl (Ent.cv (congrArg (ow eIs [_]) (show [] = setI (((q_Atoms.take 0).flatMap (fun a : Int × List Int => a.2)).filter (fun t => inR t 0 9)) from by first | rfl | (simp; done) | grind [termsF, setI_app, setI_snoc, d1, d2, t1, t2])) (E.loop (κ := Nat × Option Addr × Nat × Nat) (fun g => g.1 ≤ q_Atoms.length ∧ True) (fun g => [(1, .pointer (some ⟨b1, 0, none⟩)), (3, .slice g.2.1 g.2.2.1 g.2.2.2), (4, .int .i64 (↑g.1 : Int))]) (fun g => [ow eIs [.slice g.2.1 g.2.2.1 g.2.2.2] (setI (((q_Atoms.take g.1).flatMap (fun a : Int × List Int => a.2)).filter (fun t => inR t 0 9))), pt b1 55 [.slice a_q_Head q_Head.length c_q_Head, .slice a_q_Atoms q_Atoms.length c_q_Atoms]]) (fun g => q_Atoms.length - g.1) (0, (some ⟨b6, 0, none⟩), 0, 0) ⟨Nat.zero_le _, by simp⟩ ⟨rfl, rfl, rfl, trivial⟩ (.refl _) (fun g pg => ?_))))))))))))))))))
  obtain ⟨g, aA0_0, mA0_0, cA0_0⟩ := g
  try dsimp only at pg
  try dsimp only
  obtain ⟨pk, pa⟩ := pg
  refine Ent.lenow m0 fun eaA0_0 laA0_0 => ?_
  subst eaA0_0
  refine Eq_ (Ew Z5 (Emv rfl rfl (Ey rfl ((Y.fld fo_Query_1 ty_Atoms dc rfl).yd) (Ey rfl (Y.ld1 ty_Atoms rfl ((Has.pt (mS m0)).sub (cs' := [_]) 1 rfl) rfl) (Ey rfl ((Y.len us_Atoms rfl).yd) (Ey rfl ((Y.lss rfl rfl).yd) (Ent.d (fun q11 => ?_) (fun q11 => ?_))))))))
  · refine Eu (E.ct rfl (E.skipc (Et (Eq_ (E.block (Ew Z1 (Eas rfl rfl (Eu (E.block (Ent.cv (congrArg (ow eIs [_]) (show setI (((q_Atoms.take g).flatMap (fun a : Int × List Int => a.2)).filter (fun t => inR t 0 9)) = setI (((q_Atoms.take g).flatMap (fun a : Int × List Int => a.2)).filter (fun t => inR t 0 9) ++ (q_Atoms[g].2.take 0).filter (fun t => inR t 0 9)) from by first | rfl | (simp; done) | grind [termsF, setI_app, setI_snoc, d1, d2, t1, t2])) (E.loop (κ := Nat × Option Addr × Nat × Nat) (fun h => h.1 ≤ q_Atoms[g].2.length ∧ True) (fun h => [(1, .pointer (some ⟨b1, 0, none⟩)), (3, .slice h.2.1 h.2.2.1 h.2.2.2), (4, .int .i64 (g : Int)), (5, .int .i64 (↑h.1 : Int))]) (fun h => [ow eIs [.slice h.2.1 h.2.2.1 h.2.2.2] (setI (((q_Atoms.take g).flatMap (fun a : Int × List Int => a.2)).filter (fun t => inR t 0 9) ++ (q_Atoms[g].2.take h.1).filter (fun t => inR t 0 9))), pt b1 55 [.slice a_q_Head q_Head.length c_q_Head, .slice a_q_Atoms q_Atoms.length c_q_Atoms]]) (fun h => q_Atoms[g].2.length - h.1) (0, aA0_0, (setI (((q_Atoms.take g).flatMap (fun a : Int × List Int => a.2)).filter (fun t => inR t 0 9))).length, cA0_0) ⟨Nat.zero_le _, by simp⟩ ⟨rfl, rfl, rfl, rfl, trivial⟩ (.refl _) (fun h ph => ?_))))))))))))
    obtain ⟨h, aA1_0, mA1_0, cA1_0⟩ := h
    try dsimp only at ph
    try dsimp only
    obtain ⟨pk, pa⟩ := ph
    have ju := terms_len2 (is := (fun t => inR t 0 9)) (g := g) (h := h) hz om
    have jw := setI_len (l := ((q_Atoms.take g).flatMap (fun a : Int × List Int => a.2)).filter (fun t => inR t 0 9) ++ (q_Atoms[g].2.take h).filter (fun t => inR t 0 9))
    refine Ent.lenow m0 fun eaA1_0 laA1_0 => ?_
    subst eaA1_0
    refine Eq_ (Ew Z9 (Emv rfl rfl (Ey rfl ((Y.fld fo_Query_1 ty_Atoms dc rfl).yd) (Ey rfl (Y.ld1 ty_Atoms rfl ((Has.pt (mS m0)).sub (cs' := [_]) 1 rfl) rfl) (Emv rfl rfl ?_)))))
    obtain ⟨eb18, eo18, ec18, ea18, er18, el18, eh18⟩ := hq_Atoms.elem g om
    obtain ⟨xa18_0, xc18_0, rfl, ei18_0, xh18_0⟩ := Ro.pAtom er18
    have := xh18_0.slen.2
    refine Ey rfl ((Y.ix us_Atoms ty_Atom rfl ea18 rfl g rfl om).yd) (Ey rfl ((Y.fld fo_Atom_1 ty_Is dc rfl).yd) (Ey rfl (Y.ld1 ty_Is rfl ((eh18 _).sub (cs' := [_]) 1 rfl) rfl) (Ey rfl ((Y.len us_Is rfl).yd) (Ey rfl ((Y.lss rfl rfl).yd) (Ent.d (fun q22 => ?_) (fun q22 => ?_))))))
    · refine Eu (E.ct rfl (E.skipc (Et (Eq_ (E.block (Ew Z10 (Ey rfl ((Y.fld fo_Query_1 ty_Atoms dc rfl).yd) (Ey rfl (Y.ld1 ty_Atoms rfl ((Has.pt (mS m0)).sub (cs' := [_]) 1 rfl) rfl) (Emv rfl rfl (Ey rfl ((Y.ix us_Atoms ty_Atom rfl ea18 rfl g rfl om).yd) (Ey rfl ((Y.fld fo_Atom_1 ty_Is dc rfl).yd) (Ey rfl (Y.ld1 ty_Is rfl ((eh18 _).sub (cs' := [_]) 1 rfl) rfl) (Emv rfl rfl ?_)))))))))))))
      obtain ⟨eb32, eo32, ea32, ei32, eh32⟩ := xh18_0.elemI h om
      refine Ey rfl ((Y.ix us_Is ty_I rfl ea32 rfl h rfl om).yd) (Ey rfl (Y.ld1 ty_I rfl (eh32 _) rfl) (Est rfl (N.call0 t_spec_l1In rfl rfl rfl dc (fun w Lp hA => trivial)) (fun _ _ => (Ent.b (fun q34 => ?_) (fun q34 => ?_)))))
      · refine Eu (E.ct rfl (Ez Z12 (Emv rfl rfl (Ey rfl ((Y.fld fo_Query_1 ty_Atoms dc rfl).yd) (Ey rfl (Y.ld1 ty_Atoms rfl ((Has.pt (mS m0)).sub (cs' := [_]) 1 rfl) rfl) (Emv rfl rfl (Ey rfl ((Y.ix us_Atoms ty_Atom rfl ea18 rfl g rfl om).yd) (Ey rfl ((Y.fld fo_Atom_1 ty_Is dc rfl).yd) (Ey rfl (Y.ld1 ty_Is rfl ((eh18 _).sub (cs' := [_]) 1 rfl) rfl) (Emv rfl rfl (Ey rfl ((Y.ix us_Is ty_I rfl ea32 rfl h rfl om).yd) (Ey rfl (Y.ld1 ty_I rfl (eh32 _) rfl) (Est rfl (N.call (pre := [_]) (t_spec_l3Put fc) rfl rfl rfl dc rfl (fun w Lp hA => ei32)) (fun k45 _ => ?_))))))))))))))
        obtain ⟨a45, m45, c45⟩ := k45
        refine Ent.lenow m0 fun e45 l45 => ?_
        subst e45
        refine Eas rfl rfl (En (E.bln (Et (Ez Z3 (Emv rfl rfl (Ey rfl ((Y.add rfl rfl om om).yd) (Eas rfl rfl (Eu (Ent.cv (congrArg (ow eIs [_]) (show putI (setI (((q_Atoms.take g).flatMap (fun a : Int × List Int => a.2)).filter (fun t => inR t 0 9) ++ (q_Atoms[g].2.take h).filter (fun t => inR t 0 9))) q_Atoms[g].2[h] = setI (((q_Atoms.take g).flatMap (fun a : Int × List Int => a.2)).filter (fun t => inR t 0 9) ++ (q_Atoms[g].2.take (h + 1)).filter (fun t => inR t 0 9)) from by grind [termsF, setI_app, setI_snoc, d1, d2, t1, t2])) (Ent.p1 (Ent.p1 ?_)))))))))))
        exact E.again br (h + 1, a45, (putI (setI (((q_Atoms.take g).flatMap (fun a : Int × List Int => a.2)).filter (fun t => inR t 0 9) ++ (q_Atoms[g].2.take h).filter (fun t => inR t 0 9))) q_Atoms[g].2[h]).length, c45) ⟨rfl, rfl, rfl, rfl, trivial⟩ (.refl _) ⟨(show h + 1 ≤ q_Atoms[g].2.length from by omega), trivial⟩ (show q_Atoms[g].2.length - (h + 1) < q_Atoms[g].2.length - h from by omega)
      · refine Eu (E.cf rfl (E.skipc (E.bln (Et (Ez Z3 (Emv rfl rfl (Ey rfl ((Y.add rfl rfl om om).yd) (Eas rfl rfl (Eu (Ent.cv (congrArg (ow eIs [_]) (show setI (((q_Atoms.take g).flatMap (fun a : Int × List Int => a.2)).filter (fun t => inR t 0 9) ++ (q_Atoms[g].2.take h).filter (fun t => inR t 0 9)) = setI (((q_Atoms.take g).flatMap (fun a : Int × List Int => a.2)).filter (fun t => inR t 0 9) ++ (q_Atoms[g].2.take (h + 1)).filter (fun t => inR t 0 9)) from by grind [termsF, setI_app, setI_snoc, d1, d2, t1, t2])) (Ent.p1 (Ent.p1 ?_))))))))))))
        exact E.again br (h + 1, aA1_0, (setI (((q_Atoms.take g).flatMap (fun a : Int × List Int => a.2)).filter (fun t => inR t 0 9) ++ (q_Atoms[g].2.take h).filter (fun t => inR t 0 9))).length, cA1_0) ⟨rfl, rfl, rfl, rfl, trivial⟩ (.refl _) ⟨(show h + 1 ≤ q_Atoms[g].2.length from by omega), trivial⟩ (show q_Atoms[g].2.length - (h + 1) < q_Atoms[g].2.length - h from by omega)
    · refine Eu (E.cf rfl (E.exit (E.the (E.the (E.blh (E.bln (Et (Ez Z3 (Emv rfl rfl (Ey rfl ((Y.add rfl rfl om om).yd) (Eas rfl rfl (Eu (Ent.cv (congrArg (ow eIs [_]) (show setI (((q_Atoms.take g).flatMap (fun a : Int × List Int => a.2)).filter (fun t => inR t 0 9) ++ (q_Atoms[g].2.take h).filter (fun t => inR t 0 9)) = setI (((q_Atoms.take (g + 1)).flatMap (fun a : Int × List Int => a.2)).filter (fun t => inR t 0 9)) from by grind [termsF, setI_app, setI_snoc, d1, d2, t1, t2])) (Ent.p1 (Ent.p1 ?_)))))))))))))))
      exact E.again br (g + 1, aA1_0, (setI (((q_Atoms.take g).flatMap (fun a : Int × List Int => a.2)).filter (fun t => inR t 0 9) ++ (q_Atoms[g].2.take h).filter (fun t => inR t 0 9))).length, cA1_0) ⟨rfl, rfl, rfl, trivial⟩ (.refl _) ⟨(show g + 1 ≤ q_Atoms.length from by omega), trivial⟩ (show q_Atoms.length - (g + 1) < q_Atoms.length - g from by omega)
  · refine Eu (E.cf rfl (E.exit (E.the (E.the (E.blh (Et (Ew Z2 (Emv rfl rfl (Eas rfl rfl (Eu (E.ret (Ent.cv (congrArg (ow eIs [_]) (show _ = termsF (fun t => inR t 0 9) q_Atoms by grind [termsF, setI_app, setI_snoc, d1, d2, t1, t2])) ?_))))))))))))
    exact Fg rfl rfl (_, _, _) rfl rfl
end Go.Proofs.YtonkkkjgdohooaaGreat
