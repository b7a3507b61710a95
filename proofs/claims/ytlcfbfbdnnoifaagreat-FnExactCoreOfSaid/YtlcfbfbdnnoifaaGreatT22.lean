import Derived.Test.YtlcfbfbdnnoifaaGreatT17
import Derived.Test.YtlcfbfbdnnoifaaGreatT11
import Derived.Test.YtlcfbfbdnnoifaaGreatT15
import Derived.Test.YtlcfbfbdnnoifaaGreatT16
import Derived.Test.YtlcfbfbdnnoifaaGreatDr
import Derived.Test.YtlcfbfbdnnoifaaGreatBh
namespace Go.Proofs.YtlcfbfbdnnoifaaGreat
open Go.RowKit
set_option linter.unusedVariables false
set_option linter.unusedSimpArgs false
set_option maxHeartbeats 2000000
attribute [local irreducible] Nop Yd Yp Ent Has Tr FnP FnP2 Src listsF opnF opn1 opnR chainB
theorem t_impl_ConstantsOf {a_q_Head : Option Addr} {m_q_Head c_q_Head : Nat} {q_Head : List Int} {a_q_Atoms : Option Addr} {m_q_Atoms c_q_Atoms : Nat} {q_Atoms : List (Int × List Int)} (hz : totL (fun x => x.2.length) q_Atoms ≤ 1048576) : Tr Tryz.prog 126 [.agg #[.slice a_q_Head m_q_Head c_q_Head, .slice a_q_Atoms m_q_Atoms c_q_Atoms]] (fun w L => Ro w L eIs [.slice a_q_Head m_q_Head c_q_Head] q_Head ∧ Ro w L eAtoms [.slice a_q_Atoms m_q_Atoms c_q_Atoms] q_Atoms) [] (κ := Option Addr × Nat × Nat) (fun k => True) (fun k => .slice k.1 k.2.1 k.2.2) (fun k => [ow eIs [.slice k.1 k.2.1 k.2.2] (termsF (fun t => inR t 0 9) q_Atoms)]) := by
  refine Tr.intro Tryz.func126 rfl (n := 6) rfl (by decide +kernel) (Nat.le_of_ble_eq_true rfl) (fr := [(0, .agg #[.slice a_q_Head m_q_Head c_q_Head, .slice a_q_Atoms m_q_Atoms c_q_Atoms])]) rfl fun w L hR => ?_
  obtain ⟨hq_Head, hq_Atoms⟩ := hR
  obtain ⟨rfl, lq_Head⟩ := hq_Head.slen
  obtain ⟨rfl, lq_Atoms⟩ := hq_Atoms.slen
  refine E.seq (E.region (l := [0, 1]) rfl (E.st rfl rfl (N.box (cs := [_, _]) rfl (by decide) rfl) (fun b1 _ => ?_)))
  refine E.y rfl rfl (by decide) ((Y.as rfl).yd) ?_
  refine E.nil (E.thn (E.seq (E.region (l := [0, 1, 2, 3]) rfl (E.y rfl rfl (by decide) ((Y.fld fo_Query_1 ty_Atoms (by decide) rfl).yd) ?_))))
  refine E.y rfl rfl (by decide) (Y.ld1 ty_Atoms rfl ((Has.pt m0).sub (cs' := [_]) 1 rfl) rfl) ?_
  refine E.st rfl rfl (N.call (t_impl_termsOf (is := (fun n => inR n 0 9)) (D_is := (fun _ => True)) (by first | omega | assumption | (constructor <;> omega)) (by intros; exact trivial)) rfl rfl rfl (by decide) rfl (fun w Lp hA => ⟨hA.ro hq_Atoms, FnP.ofI (D := (fun _ => True)) (RR := fun _ _ => True) (fun hd => Tr.wk t_impl_isValue (fun _ _ _ => trivial)) (fun w' hk => trivial)⟩)) (fun k5 _ => ?_)
  obtain ⟨a5, m5, c5⟩ := k5
  refine Ent.lenow m0 fun e5 l5 => ?_
  subst e5
  refine E.y rfl rfl (by decide) ((Y.as rfl).yd) ?_
  refine E.nil (E.thn (E.ret (Ent.cv (congrArg (ow eIs [_]) (show _ = termsF (fun t => inR t 0 9) q_Atoms by grind [List.drop_eq_getElem_cons, List.drop_eq_nil_of_le, List.take_succ_eq_append_getElem, List.take_of_length_le])) ?_)))
  exact F.r1 (Back.refl _ _) rfl rfl (_, _, _) trivial rfl (J := _) (.refl _) (.inl rfl)
theorem t_spec_ConstantsOf {a_q_Head : Option Addr} {m_q_Head c_q_Head : Nat} {q_Head : List Int} {a_q_Atoms : Option Addr} {m_q_Atoms c_q_Atoms : Nat} {q_Atoms : List (Int × List Int)} (hz : totL (fun x => x.2.length) q_Atoms ≤ 1048576) : Tr Tryz.prog 113 [.agg #[.slice a_q_Head m_q_Head c_q_Head, .slice a_q_Atoms m_q_Atoms c_q_Atoms]] (fun w L => Ro w L eIs [.slice a_q_Head m_q_Head c_q_Head] q_Head ∧ Ro w L eAtoms [.slice a_q_Atoms m_q_Atoms c_q_Atoms] q_Atoms) [] (κ := Option Addr × Nat × Nat) (fun k => True) (fun k => .slice k.1 k.2.1 k.2.2) (fun k => [ow eIs [.slice k.1 k.2.1 k.2.2] (termsF (fun t => inR t 0 9) q_Atoms)]) := by
  refine Tr.intro Tryz.func113 rfl (n := 47) rfl (by decide +kernel) (Nat.le_of_ble_eq_true rfl) (fr := [(0, .agg #[.slice a_q_Head m_q_Head c_q_Head, .slice a_q_Atoms m_q_Atoms c_q_Atoms])]) rfl fun w L hR => ?_
  obtain ⟨hq_Head, hq_Atoms⟩ := hR
  obtain ⟨rfl, lq_Head⟩ := hq_Head.slen
  obtain ⟨rfl, lq_Atoms⟩ := hq_Atoms.slen
  have jv := hq_Atoms.i64A
  refine E.seq (E.region (l := [0, 1]) rfl (E.st rfl rfl (N.box (cs := [_, _]) rfl (by decide) rfl) (fun b1 _ => ?_)))
  refine E.y rfl rfl (by decide) ((Y.as rfl).yd) ?_
  refine E.nil (E.thn (E.seq (E.region (l := [0, 1]) rfl (E.st rfl rfl (N.bsl (pvs := []) (cs := []) us_Is ty_I rfl (by decide) (by decide) (fillZ rfl rfl) rfl (by decide)) (fun b6 _ => ?_)))))
  refine Ent.drop ?_
  refine E.y rfl rfl (by decide) ((Y.as rfl).yd) ?_
  refine E.nil (E.thn (E.seq (E.seq (E.region (l := [0]) rfl (E.y rfl rfl (by decide) ((Y.as rfl).yd) ?_)))))
  refine E.nil (E.thn (E.block (Ent.mkow (A := []) (Own.nil (E := Enc.int) (e := tI) (a := (some ⟨b6, 0, none⟩))) rfl ?_)))
  refine Ent.cv (congrArg (ow eIs [_]) (show [] = setI (((q_Atoms.take 0).flatMap (fun a : Int × List Int => a.2)).filter (fun t => inR t 0 9)) from by first | rfl | (simp; done) | grind [termsF, setI_app, setI_snoc, List.drop_eq_getElem_cons, List.drop_eq_nil_of_le, List.take_succ_eq_append_getElem, List.take_of_length_le])) ?_
  refine E.loop (κ := Nat × Option Addr × Nat × Nat) (fun g => g.1 ≤ q_Atoms.length ∧ True) (fun g => [(1, .pointer (some ⟨b1, 0, none⟩)), (3, .slice g.2.1 g.2.2.1 g.2.2.2), (4, .int .i64 (↑g.1 : Int))]) (fun g => [ow eIs [.slice g.2.1 g.2.2.1 g.2.2.2] (setI (((q_Atoms.take g.1).flatMap (fun a : Int × List Int => a.2)).filter (fun t => inR t 0 9))), pt b1 31 [.slice a_q_Head q_Head.length c_q_Head, .slice a_q_Atoms q_Atoms.length c_q_Atoms]]) (fun g => q_Atoms.length - g.1) (0, (some ⟨b6, 0, none⟩), 0, 0) ⟨Nat.zero_le _, by simp⟩ ⟨rfl, rfl, rfl, trivial⟩ (.refl _) (fun g pg => ?_)
  obtain ⟨g, aA0_0, mA0_0, cA0_0⟩ := g
  try dsimp only at pg
  show Ent _ _ _ [(1, .pointer (some ⟨b1, 0, none⟩)), (3, .slice aA0_0 mA0_0 cA0_0), (4, .int .i64 (↑g : Int))] [ow eIs [.slice aA0_0 mA0_0 cA0_0] (setI (((q_Atoms.take g).flatMap (fun a : Int × List Int => a.2)).filter (fun t => inR t 0 9))), pt b1 31 [.slice a_q_Head q_Head.length c_q_Head, .slice a_q_Atoms q_Atoms.length c_q_Atoms]] _
  obtain ⟨pk, pa⟩ := pg
  refine Ent.lenow m0 fun eaA0_0 laA0_0 => ?_
  subst eaA0_0
  refine E.seq (E.seq (E.region (l := [0, 1, 2, 3, 4]) rfl (E.y rfl rfl (by decide) ((Y.mv rfl).yd) ?_)))
  refine E.y rfl rfl (by decide) ((Y.fld fo_Query_1 ty_Atoms (by decide) rfl).yd) ?_
  refine E.y rfl rfl (by decide) (Y.ld1 ty_Atoms rfl ((Has.pt (mS m0)).sub (cs' := [_]) 1 rfl) rfl) ?_
  refine E.y rfl rfl (by decide) ((Y.len us_Atoms rfl).yd) ?_
  refine E.y rfl rfl (by decide) ((Y.lss rfl rfl).yd) (Ent.d (fun q11 => ?_) (fun q11 => ?_))
  · refine E.nil (E.thn (E.ct rfl (E.skipc (E.thn (E.seq (E.block (E.seq (E.region (l := [0]) rfl (E.y rfl rfl (by decide) ((Y.as rfl).yd) ?_)))))))))
    refine E.nil (E.thn (E.block (Ent.cv (congrArg (ow eIs [_]) (show setI (((q_Atoms.take g).flatMap (fun a : Int × List Int => a.2)).filter (fun t => inR t 0 9)) = setI (((q_Atoms.take g).flatMap (fun a : Int × List Int => a.2)).filter (fun t => inR t 0 9) ++ (q_Atoms[g].2.take 0).filter (fun t => inR t 0 9)) from by first | rfl | (simp; done) | grind [termsF, setI_app, setI_snoc, List.drop_eq_getElem_cons, List.drop_eq_nil_of_le, List.take_succ_eq_append_getElem, List.take_of_length_le])) ?_)))
    refine E.loop (κ := Nat × Option Addr × Nat × Nat) (fun h => h.1 ≤ q_Atoms[g].2.length ∧ True) (fun h => [(1, .pointer (some ⟨b1, 0, none⟩)), (3, .slice h.2.1 h.2.2.1 h.2.2.2), (4, .int .i64 (↑g : Int)), (5, .int .i64 (↑h.1 : Int))]) (fun h => [ow eIs [.slice h.2.1 h.2.2.1 h.2.2.2] (setI (((q_Atoms.take g).flatMap (fun a : Int × List Int => a.2)).filter (fun t => inR t 0 9) ++ (q_Atoms[g].2.take h.1).filter (fun t => inR t 0 9))), pt b1 31 [.slice a_q_Head q_Head.length c_q_Head, .slice a_q_Atoms q_Atoms.length c_q_Atoms]]) (fun h => q_Atoms[g].2.length - h.1) (0, aA0_0, (setI (((q_Atoms.take g).flatMap (fun a : Int × List Int => a.2)).filter (fun t => inR t 0 9))).length, cA0_0) ⟨Nat.zero_le _, by simp⟩ ⟨rfl, rfl, rfl, rfl, trivial⟩ (.refl _) (fun h ph => ?_)
    obtain ⟨h, aA1_0, mA1_0, cA1_0⟩ := h
    try dsimp only at ph
    show Ent _ _ _ [(1, .pointer (some ⟨b1, 0, none⟩)), (3, .slice aA1_0 mA1_0 cA1_0), (4, .int .i64 (↑g : Int)), (5, .int .i64 (↑h : Int))] [ow eIs [.slice aA1_0 mA1_0 cA1_0] (setI (((q_Atoms.take g).flatMap (fun a : Int × List Int => a.2)).filter (fun t => inR t 0 9) ++ (q_Atoms[g].2.take h).filter (fun t => inR t 0 9))), pt b1 31 [.slice a_q_Head q_Head.length c_q_Head, .slice a_q_Atoms q_Atoms.length c_q_Atoms]] _
    obtain ⟨pk, pa⟩ := ph
    have ju := terms_len2 (is := (fun t => inR t 0 9)) (g := g) (h := h) hz (by omega)
    have jw := setI_len (l := ((q_Atoms.take g).flatMap (fun a : Int × List Int => a.2)).filter (fun t => inR t 0 9) ++ (q_Atoms[g].2.take h).filter (fun t => inR t 0 9))
    refine Ent.lenow m0 fun eaA1_0 laA1_0 => ?_
    subst eaA1_0
    refine E.seq (E.seq (E.region (l := [0, 1, 2, 3, 4, 5, 6, 7, 8]) rfl (E.y rfl rfl (by decide) ((Y.mv rfl).yd) ?_)))
    refine E.y rfl rfl (by decide) ((Y.fld fo_Query_1 ty_Atoms (by decide) rfl).yd) ?_
    refine E.y rfl rfl (by decide) (Y.ld1 ty_Atoms rfl ((Has.pt (mS m0)).sub (cs' := [_]) 1 rfl) rfl) ?_
    refine E.y rfl rfl (by decide) ((Y.mv rfl).yd) ?_
    obtain ⟨eb18, eo18, ec18, ea18, er18, el18, eh18⟩ := hq_Atoms.elem g (by omega)
    obtain ⟨xa18_0, xc18_0, rfl, ei18_0, xh18_0⟩ := Ro.pAtom er18
    have := xh18_0.slen.2
    refine E.y rfl rfl (by decide) ((Y.ix us_Atoms ty_Atom rfl ea18 rfl g rfl (by omega)).yd) ?_
    refine E.y rfl rfl (by decide) ((Y.fld fo_Atom_1 ty_Is (by decide) rfl).yd) ?_
    refine E.y rfl rfl (by decide) (Y.ld1 ty_Is rfl ((eh18 _).sub (cs' := [_]) 1 rfl) rfl) ?_
    refine E.y rfl rfl (by decide) ((Y.len us_Is rfl).yd) ?_
    refine E.y rfl rfl (by decide) ((Y.lss rfl rfl).yd) (Ent.d (fun q22 => ?_) (fun q22 => ?_))
    · refine E.nil (E.thn (E.ct rfl (E.skipc (E.thn (E.seq (E.block (E.seq (E.region (l := [0, 1, 2, 3, 4, 5, 6, 7, 8, 9]) rfl (E.y rfl rfl (by decide) ((Y.fld fo_Query_1 ty_Atoms (by decide) rfl).yd) ?_)))))))))
      refine E.y rfl rfl (by decide) (Y.ld1 ty_Atoms rfl ((Has.pt (mS m0)).sub (cs' := [_]) 1 rfl) rfl) ?_
      refine E.y rfl rfl (by decide) ((Y.mv rfl).yd) ?_
      refine E.y rfl rfl (by decide) ((Y.ix us_Atoms ty_Atom rfl ea18 rfl g rfl (by omega)).yd) ?_
      refine E.y rfl rfl (by decide) ((Y.fld fo_Atom_1 ty_Is (by decide) rfl).yd) ?_
      refine E.y rfl rfl (by decide) (Y.ld1 ty_Is rfl ((eh18 _).sub (cs' := [_]) 1 rfl) rfl) ?_
      refine E.y rfl rfl (by decide) ((Y.mv rfl).yd) ?_
      obtain ⟨eb32, eo32, ea32, ei32, eh32⟩ := xh18_0.elemI h (by omega)
      refine E.y rfl rfl (by decide) ((Y.ix us_Is ty_I rfl ea32 rfl h rfl (by omega)).yd) ?_
      refine E.y rfl rfl (by decide) (Y.ld1 ty_I rfl (eh32 _) rfl) ?_
      refine E.st rfl rfl (N.call0 t_spec_l1In rfl rfl rfl (by decide) (fun w Lp hA => trivial)) (fun _ _ => (Ent.b (fun q34 => ?_) (fun q34 => ?_)))
      · refine E.nil (E.thn (E.ct rfl (E.region (l := [0, 1, 2, 3, 4, 5, 6, 7, 8, 9, 10, 11]) rfl (E.y rfl rfl (by decide) ((Y.mv rfl).yd) ?_))))
        refine E.y rfl rfl (by decide) ((Y.fld fo_Query_1 ty_Atoms (by decide) rfl).yd) ?_
        refine E.y rfl rfl (by decide) (Y.ld1 ty_Atoms rfl ((Has.pt (mS m0)).sub (cs' := [_]) 1 rfl) rfl) ?_
        refine E.y rfl rfl (by decide) ((Y.mv rfl).yd) ?_
        refine E.y rfl rfl (by decide) ((Y.ix us_Atoms ty_Atom rfl ea18 rfl g rfl (by omega)).yd) ?_
        refine E.y rfl rfl (by decide) ((Y.fld fo_Atom_1 ty_Is (by decide) rfl).yd) ?_
        refine E.y rfl rfl (by decide) (Y.ld1 ty_Is rfl ((eh18 _).sub (cs' := [_]) 1 rfl) rfl) ?_
        refine E.y rfl rfl (by decide) ((Y.mv rfl).yd) ?_
        refine E.y rfl rfl (by decide) ((Y.ix us_Is ty_I rfl ea32 rfl h rfl (by omega)).yd) ?_
        refine E.y rfl rfl (by decide) (Y.ld1 ty_I rfl (eh32 _) rfl) ?_
        refine E.st rfl rfl (N.call (pre := [_]) (t_spec_l3Put (by first | omega | assumption | (constructor <;> omega))) rfl rfl rfl (by decide) rfl (fun w Lp hA => ei32)) (fun k45 _ => ?_)
        obtain ⟨a45, m45, c45⟩ := k45
        refine Ent.lenow m0 fun e45 l45 => ?_
        subst e45
        refine E.y rfl rfl (by decide) ((Y.as rfl).yd) ?_
        refine E.nil (E.bln (E.thn (E.region (l := [0, 1, 2]) rfl (E.y rfl rfl (by decide) ((Y.mv rfl).yd) ?_))))
        refine E.y rfl rfl (by decide) ((Y.add rfl rfl (by omega) (by omega)).yd) ?_
        refine E.y rfl rfl (by decide) ((Y.as rfl).yd) ?_
        refine E.nil (E.thn (Ent.cv (congrArg (ow eIs [_]) (show putI (setI (((q_Atoms.take g).flatMap (fun a : Int × List Int => a.2)).filter (fun t => inR t 0 9) ++ (q_Atoms[g].2.take h).filter (fun t => inR t 0 9))) q_Atoms[g].2[h] = setI (((q_Atoms.take g).flatMap (fun a : Int × List Int => a.2)).filter (fun t => inR t 0 9) ++ (q_Atoms[g].2.take (h + 1)).filter (fun t => inR t 0 9)) from by grind [termsF, setI_app, setI_snoc, List.drop_eq_getElem_cons, List.drop_eq_nil_of_le, List.take_succ_eq_append_getElem, List.take_of_length_le])) ?_))
        refine Ent.p1 ?_
        refine Ent.p1 ?_
        exact E.again (Back.refl _ _) (h + 1, a45, (putI (setI (((q_Atoms.take g).flatMap (fun a : Int × List Int => a.2)).filter (fun t => inR t 0 9) ++ (q_Atoms[g].2.take h).filter (fun t => inR t 0 9))) q_Atoms[g].2[h]).length, c45) ⟨rfl, rfl, rfl, rfl, trivial⟩ (.refl _) ⟨(show h + 1 ≤ q_Atoms[g].2.length from by omega), (show True from by grind [List.drop_eq_getElem_cons, List.drop_eq_nil_of_le, List.take_succ_eq_append_getElem, List.take_of_length_le])⟩ (show q_Atoms[g].2.length - (h + 1) < q_Atoms[g].2.length - h from by omega)
      · refine E.nil (E.thn (E.cf rfl (E.skipc (E.bln (E.thn (E.region (l := [0, 1, 2]) rfl (E.y rfl rfl (by decide) ((Y.mv rfl).yd) ?_)))))))
        refine E.y rfl rfl (by decide) ((Y.add rfl rfl (by omega) (by omega)).yd) ?_
        refine E.y rfl rfl (by decide) ((Y.as rfl).yd) ?_
        refine E.nil (E.thn (Ent.cv (congrArg (ow eIs [_]) (show setI (((q_Atoms.take g).flatMap (fun a : Int × List Int => a.2)).filter (fun t => inR t 0 9) ++ (q_Atoms[g].2.take h).filter (fun t => inR t 0 9)) = setI (((q_Atoms.take g).flatMap (fun a : Int × List Int => a.2)).filter (fun t => inR t 0 9) ++ (q_Atoms[g].2.take (h + 1)).filter (fun t => inR t 0 9)) from by grind [termsF, setI_app, setI_snoc, List.drop_eq_getElem_cons, List.drop_eq_nil_of_le, List.take_succ_eq_append_getElem, List.take_of_length_le])) ?_))
        refine Ent.p1 ?_
        refine Ent.p1 ?_
        exact E.again (Back.refl _ _) (h + 1, aA1_0, (setI (((q_Atoms.take g).flatMap (fun a : Int × List Int => a.2)).filter (fun t => inR t 0 9) ++ (q_Atoms[g].2.take h).filter (fun t => inR t 0 9))).length, cA1_0) ⟨rfl, rfl, rfl, rfl, trivial⟩ (.refl _) ⟨(show h + 1 ≤ q_Atoms[g].2.length from by omega), (show True from by grind [List.drop_eq_getElem_cons, List.drop_eq_nil_of_le, List.take_succ_eq_append_getElem, List.take_of_length_le])⟩ (show q_Atoms[g].2.length - (h + 1) < q_Atoms[g].2.length - h from by omega)
    · refine E.nil (E.thn (E.cf rfl (E.exit (E.the (E.the (E.blh (E.bln (E.thn (E.region (l := [0, 1, 2]) rfl (E.y rfl rfl (by decide) ((Y.mv rfl).yd) ?_))))))))))
      refine E.y rfl rfl (by decide) ((Y.add rfl rfl (by omega) (by omega)).yd) ?_
      refine E.y rfl rfl (by decide) ((Y.as rfl).yd) ?_
      refine E.nil (E.thn (Ent.cv (congrArg (ow eIs [_]) (show setI (((q_Atoms.take g).flatMap (fun a : Int × List Int => a.2)).filter (fun t => inR t 0 9) ++ (q_Atoms[g].2.take h).filter (fun t => inR t 0 9)) = setI (((q_Atoms.take (g + 1)).flatMap (fun a : Int × List Int => a.2)).filter (fun t => inR t 0 9)) from by grind [termsF, setI_app, setI_snoc, List.drop_eq_getElem_cons, List.drop_eq_nil_of_le, List.take_succ_eq_append_getElem, List.take_of_length_le])) ?_))
      refine Ent.p1 ?_
      refine Ent.p1 ?_
      exact E.again (Back.refl _ _) (g + 1, aA1_0, (setI (((q_Atoms.take g).flatMap (fun a : Int × List Int => a.2)).filter (fun t => inR t 0 9) ++ (q_Atoms[g].2.take h).filter (fun t => inR t 0 9))).length, cA1_0) ⟨rfl, rfl, rfl, trivial⟩ (.refl _) ⟨(show g + 1 ≤ q_Atoms.length from by omega), (show True from by grind [List.drop_eq_getElem_cons, List.drop_eq_nil_of_le, List.take_succ_eq_append_getElem, List.take_of_length_le])⟩ (show q_Atoms.length - (g + 1) < q_Atoms.length - g from by omega)
  · refine E.nil (E.thn (E.cf rfl (E.exit (E.the (E.the (E.blh (E.thn (E.seq (E.region (l := [0, 1]) rfl (E.y rfl rfl (by decide) ((Y.mv rfl).yd) ?_))))))))))
    refine E.y rfl rfl (by decide) ((Y.as rfl).yd) ?_
    refine E.nil (E.thn (E.ret (Ent.cv (congrArg (ow eIs [_]) (show _ = termsF (fun t => inR t 0 9) q_Atoms by grind [termsF, setI_app, setI_snoc, List.drop_eq_getElem_cons, List.drop_eq_nil_of_le, List.take_succ_eq_append_getElem, List.take_of_length_le])) ?_)))
    exact F.r1 (Back.refl _ _) rfl rfl (_, _, _) trivial rfl (J := _) (.refl _) (.inl rfl)
theorem t_impl_freeze {a_q_Head : Option Addr} {m_q_Head c_q_Head : Nat} {q_Head : List Int} {a_q_Atoms : Option Addr} {m_q_Atoms c_q_Atoms : Nat} {q_Atoms : List (Int × List Int)} {a_without : Option Addr} {m_without c_without : Nat} {without : List Int} (hz : totL (fun x => x.2.length) q_Atoms ≤ 1048576) (hu : ∀ x ∈ without, 0 ≤ x ∧ x ≤ 9) : Tr Tryz.prog 124 [.agg #[.slice a_q_Head m_q_Head c_q_Head, .slice a_q_Atoms m_q_Atoms c_q_Atoms], .slice a_without m_without c_without] (fun w L => Ro w L eIs [.slice a_q_Head m_q_Head c_q_Head] q_Head ∧ Ro w L eAtoms [.slice a_q_Atoms m_q_Atoms c_q_Atoms] q_Atoms ∧ Ro w L eIs [.slice a_without m_without c_without] without) [] (κ := (Option Addr × Nat × Nat) × (Option Addr × Nat × Nat) × (Option Addr × Nat × Nat)) (fun k => True) (fun k => .tuple #[.slice k.1.1 k.1.2.1 k.1.2.2, .agg #[.slice k.2.1.1 k.2.1.2.1 k.2.1.2.2, .slice k.2.2.1 k.2.2.2.1 k.2.2.2.2], .bool (fzB without q_Atoms)]) (fun k => [ow eFacts [.slice k.1.1 k.1.2.1 k.1.2.2] (fzF without q_Atoms), ow eIs [.slice k.2.1.1 k.2.1.2.1 k.2.1.2.2] (fzV without q_Atoms), ow eIs [.slice k.2.2.1 k.2.2.2.1 k.2.2.2.2] (fzX without q_Atoms)]) := by
  refine Tr.intro Tryz.func124 rfl (n := 62) rfl (by decide +kernel) (Nat.le_of_ble_eq_true rfl) (fr := [(0, .agg #[.slice a_q_Head m_q_Head c_q_Head, .slice a_q_Atoms m_q_Atoms c_q_Atoms]), (1, .slice a_without m_without c_without)]) rfl fun w L hR => ?_
  obtain ⟨hq_Head, hq_Atoms, hwithout⟩ := hR
  obtain ⟨rfl, lq_Head⟩ := hq_Head.slen
  obtain ⟨rfl, lq_Atoms⟩ := hq_Atoms.slen
  obtain ⟨rfl, lwithout⟩ := hwithout.slen
  refine E.seq (E.region (l := [0, 1, 2, 3]) rfl (E.st rfl rfl (N.box (cs := [_, _]) rfl (by decide) rfl) (fun b2 _ => ?_)))
  refine E.y rfl rfl (by decide) ((Y.as rfl).yd) ?_
  refine E.st rfl rfl (N.alloc ty_Binding (by decide)) (fun b5 _ => ?_)
  refine E.y rfl rfl (by decide) ((Y.as rfl).yd) ?_
  refine E.nil (E.thn (E.seq (E.region (l := [0, 1, 2]) rfl (E.y rfl rfl (by decide) ((Y.bld (pvs := []) (cs := [_, _]) ty_Binding pl_Binding rfl rfl).yd) ?_))))
  refine E.st rfl rfl (N.alloc ty_Binding (by decide)) (fun b7 _ => ?_)
  refine E.st rfl rfl (N.sto (vs := [_, _]) (cs' := [_, _]) ty_Binding rfl rfl rfl rfl rfl (Nat.le_of_ble_eq_true rfl) rfl) (fun _ _ => ?_)
  refine E.nil (E.thn (E.seq (E.region (l := [0]) rfl (E.y rfl rfl (by decide) ((Y.as rfl).yd) ?_))))
  refine E.nil (E.thn (E.seq (E.seq (E.region (l := [0, 1, 2, 3]) rfl (E.y rfl rfl (by decide) (Y.ldS (cs := [_, _]) ty_Query rfl (Has.pt (mS (mS m0))) rfl) ?_)))))
  refine E.st rfl rfl (N.call (t_impl_VarsOf (by first | omega | assumption)) rfl rfl rfl (by decide) rfl (fun w Lp hA => ⟨hA.ro hq_Head, hA.ro hq_Atoms⟩)) (fun k16 _ => ?_)
  obtain ⟨a16, m16, c16⟩ := k16
  refine Ent.lenow m0 fun e16 l16 => ?_
  subst e16
  refine Ent.rebase (A := [_]) rfl fun wb1 Lb1 hB1 hA1 => ?_
  have hq_Head := hA1.ro hq_Head
  have hq_Atoms := hA1.ro hq_Atoms
  have hwithout := hA1.ro hwithout
  have rb1 : Ro wb1 Lb1 eIs [.slice a16 (termsF (fun t => inR t 10 17) q_Atoms).length c16] (termsF (fun t => inR t 10 17) q_Atoms) := hA1.ow m0
  refine E.y rfl rfl (by decide) ((Y.len us_Is rfl).yd) ?_
  refine E.y rfl rfl (by decide) ((Y.mv rfl).yd) ?_
  refine E.nil (E.thn (E.block (Ent.mkow (A := []) (Own.nil (E := Enc.int) (e := tI) (a := none)) rfl ?_)))
  refine Ent.cv (congrArg (ow eIs [_]) (show [] = (termsF (fun t => inR t 10 17) q_Atoms).take 0 from by first | rfl | (simp; done) | grind [frzF_nil, frzF_snoc, frzV_zero, frzV_snoc, fzN, factO, List.drop_eq_getElem_cons, List.drop_eq_nil_of_le, List.take_succ_eq_append_getElem, List.take_of_length_le])) ?_
  refine Ent.mkow (A := []) (Own.nil (E := Enc.int) (e := tI) (a := none)) rfl ?_
  refine Ent.cv (congrArg (ow eIs [_]) (show [] = frzV (without) 0 from by first | rfl | (simp; done) | grind [frzF_nil, frzF_snoc, frzV_zero, frzV_snoc, fzN, factO, List.drop_eq_getElem_cons, List.drop_eq_nil_of_le, List.take_succ_eq_append_getElem, List.take_of_length_le])) ?_
  refine E.loop (κ := Nat × Option Addr × Nat × Nat × Option Addr × Nat × Nat) (fun g => g.1 ≤ (termsF (fun t => inR t 10 17) q_Atoms).length ∧ ∀ i, i < g.1 → nextV (without) (fzN (without) i) ≤ 9) (fun g => [(1, .slice a_without without.length c_without), (2, .pointer (some ⟨b2, 0, none⟩)), (5, .pointer (some ⟨b5, 0, none⟩)), (7, .pointer (some ⟨b7, 0, none⟩)), (8, .int .i64 (↑(fzN (without) g.1) : Int)), (16, .slice a16 (termsF (fun t => inR t 10 17) q_Atoms).length c16), (17, .int .i64 (↑((termsF (fun t => inR t 10 17) q_Atoms).length) : Int)), (18, .int .i64 (↑g.1 : Int))]) (fun g => [ow eIs [.slice g.2.2.2.2.1 g.2.2.2.2.2.1 g.2.2.2.2.2.2] (frzV (without) g.1), ow eIs [.slice g.2.1 g.2.2.1 g.2.2.2.1] ((termsF (fun t => inR t 10 17) q_Atoms).take g.1), pt b7 80 [.slice g.2.1 g.2.2.1 g.2.2.2.1, .slice g.2.2.2.2.1 g.2.2.2.2.2.1 g.2.2.2.2.2.2], pt b5 80 [.slice none 0 0, .slice none 0 0], pt b2 31 [.slice a_q_Head q_Head.length c_q_Head, .slice a_q_Atoms q_Atoms.length c_q_Atoms]]) (fun g => (termsF (fun t => inR t 10 17) q_Atoms).length - g.1) (0, none, 0, 0, none, 0, 0) ⟨Nat.zero_le _, by simp⟩ ⟨rfl, rfl, rfl, rfl, frI (by first | rfl | (simp; done) | grind [frzF_nil, frzF_snoc, frzV_zero, frzV_snoc, fzN, factO, List.drop_eq_getElem_cons, List.drop_eq_nil_of_le, List.take_succ_eq_append_getElem, List.take_of_length_le]), rfl, rfl, rfl, trivial⟩ (.refl _) (fun g pg => ?_)
  obtain ⟨g, aA0_1, mA0_1, cA0_1, aA0_2, mA0_2, cA0_2⟩ := g
  try dsimp only at pg
  show Ent _ _ _ [(1, .slice a_without without.length c_without), (2, .pointer (some ⟨b2, 0, none⟩)), (5, .pointer (some ⟨b5, 0, none⟩)), (7, .pointer (some ⟨b7, 0, none⟩)), (8, .int .i64 (↑(fzN (without) g) : Int)), (16, .slice a16 (termsF (fun t => inR t 10 17) q_Atoms).length c16), (17, .int .i64 (↑((termsF (fun t => inR t 10 17) q_Atoms).length) : Int)), (18, .int .i64 (↑g : Int))] [ow eIs [.slice aA0_2 mA0_2 cA0_2] (frzV (without) g), ow eIs [.slice aA0_1 mA0_1 cA0_1] ((termsF (fun t => inR t 10 17) q_Atoms).take g), pt b7 80 [.slice aA0_1 mA0_1 cA0_1, .slice aA0_2 mA0_2 cA0_2], pt b5 80 [.slice none 0 0, .slice none 0 0], pt b2 31 [.slice a_q_Head q_Head.length c_q_Head, .slice a_q_Atoms q_Atoms.length c_q_Atoms]] _
  obtain ⟨pk, pa⟩ := pg
  have pa0 := pa
  have jz := fzN_le pa
  have jl := vars_few (atoms := q_Atoms)
  have jy := frzV_len (u := (without)) (n := g)
  have jp := List.length_take_le g (termsF (fun t => inR t 10 17) q_Atoms)
  refine Ent.lenow (mS m0) fun eaA0_1 laA0_1 => ?_
  subst eaA0_1
  refine Ent.lenow m0 fun eaA0_2 laA0_2 => ?_
  subst eaA0_2
  refine E.seq (E.region (l := [0]) rfl (E.y rfl rfl (by decide) ((Y.lss rfl rfl).yd) (Ent.d (fun q19 => ?_) (fun q19 => ?_))))
  · obtain ⟨eb20, eo20, ea20, ei20, eh20⟩ := rb1.elemI g (by omega)
    refine E.nil (E.thn (E.seq (E.ct rfl (E.skipc (E.thn (E.seq (E.block (E.seq (E.region (l := [0, 1, 2]) rfl (E.y rfl rfl (by decide) ((Y.ix us_Is ty_I rfl ea20 rfl g rfl (by omega)).yd) ?_))))))))))
    refine E.y rfl rfl (by decide) (Y.ld1 ty_I rfl (eh20 _) rfl) ?_
    refine E.y rfl rfl (by decide) ((Y.as rfl).yd) ?_
    refine E.nil (E.thn (E.seq (E.block (E.loop (κ := Nat) (fun k => k ≤ 11 ∧ nextV (without) (fzN (without) g + k) = nextV (without) (fzN (without) g) ∧ fzN (without) g + k ≤ 10) (fun k => [(1, .slice a_without without.length c_without), (2, .pointer (some ⟨b2, 0, none⟩)), (5, .pointer (some ⟨b5, 0, none⟩)), (7, .pointer (some ⟨b7, 0, none⟩)), (8, .int .i64 (↑(fzN (without) g + k) : Int)), (10, .int .i64 ((termsF (fun t => inR t 10 17) q_Atoms)[g])), (16, .slice a16 (termsF (fun t => inR t 10 17) q_Atoms).length c16), (17, .int .i64 (↑((termsF (fun t => inR t 10 17) q_Atoms).length) : Int)), (18, .int .i64 (↑g : Int))]) (fun k => [ow eIs [.slice aA0_2 (frzV (without) g).length cA0_2] (frzV (without) g), ow eIs [.slice aA0_1 ((termsF (fun t => inR t 10 17) q_Atoms).take g).length cA0_1] ((termsF (fun t => inR t 10 17) q_Atoms).take g), pt b7 80 [.slice aA0_1 ((termsF (fun t => inR t 10 17) q_Atoms).take g).length cA0_1, .slice aA0_2 (frzV (without) g).length cA0_2], pt b5 80 [.slice none 0 0, .slice none 0 0], pt b2 31 [.slice a_q_Head q_Head.length c_q_Head, .slice a_q_Atoms q_Atoms.length c_q_Atoms]]) (fun k => 11 - k) (0) ⟨Nat.zero_le _, by exact ⟨rfl, by omega⟩⟩ ⟨rfl, rfl, rfl, rfl, frI (by first | rfl | (simp; done) | grind [frzF_nil, frzF_snoc, frzV_zero, frzV_snoc, fzN, factO, List.drop_eq_getElem_cons, List.drop_eq_nil_of_le, List.take_succ_eq_append_getElem, List.take_of_length_le]), rfl, rfl, rfl, rfl, trivial⟩ (.refl _) (fun k pk => ?_)))))
    show Ent _ _ _ [(1, .slice a_without without.length c_without), (2, .pointer (some ⟨b2, 0, none⟩)), (5, .pointer (some ⟨b5, 0, none⟩)), (7, .pointer (some ⟨b7, 0, none⟩)), (8, .int .i64 (↑(fzN (without) g + k) : Int)), (10, .int .i64 ((termsF (fun t => inR t 10 17) q_Atoms)[g])), (16, .slice a16 (termsF (fun t => inR t 10 17) q_Atoms).length c16), (17, .int .i64 (↑((termsF (fun t => inR t 10 17) q_Atoms).length) : Int)), (18, .int .i64 (↑g : Int))] [ow eIs [.slice aA0_2 (frzV (without) g).length cA0_2] (frzV (without) g), ow eIs [.slice aA0_1 ((termsF (fun t => inR t 10 17) q_Atoms).take g).length cA0_1] ((termsF (fun t => inR t 10 17) q_Atoms).take g), pt b7 80 [.slice aA0_1 ((termsF (fun t => inR t 10 17) q_Atoms).take g).length cA0_1, .slice aA0_2 (frzV (without) g).length cA0_2], pt b5 80 [.slice none 0 0, .slice none 0 0], pt b2 31 [.slice a_q_Head q_Head.length c_q_Head, .slice a_q_Atoms q_Atoms.length c_q_Atoms]] _
    obtain ⟨pk, pa⟩ := pk
    refine E.seq (E.seq (E.region (l := [0, 1, 2]) rfl (E.y rfl rfl (by decide) ((Y.mv rfl).yd) ?_)))
    refine E.y rfl rfl (by decide) ((Y.mv rfl).yd) ?_
    refine E.st rfl rfl (N.call0 t_slices_Contains_int_int rfl rfl rfl (by decide) (fun w Lp hA => hA.ro hwithout)) (fun _ _ => (Ent.b (fun q24 => ?_) (fun q24 => ?_)))
    · refine E.nil (E.thn (E.ct rfl (E.skipc (E.thn (E.block (E.region (l := [0, 1, 2]) rfl (E.y rfl rfl (by decide) ((Y.mv rfl).yd) ?_)))))))
      refine E.y rfl rfl (by decide) ((Y.add rfl rfl (by omega) (by omega)).yd) ?_
      refine E.y rfl rfl (by decide) ((Y.as rfl).yd) ?_
      have j1 := hasI_le hu q24
      have j2 := nextV_hit hu q24
      refine E.nil (E.bln (E.thn (Ent.p4 ?_)))
      refine Ent.p4 ?_
      refine Ent.p4 ?_
      refine Ent.p4 ?_
      refine Ent.p4 ?_
      exact E.again (Back.refl _ _) (k + 1) ⟨rfl, rfl, rfl, rfl, frI (by grind [frzF_nil, frzF_snoc, frzV_zero, frzV_snoc, fzN, factO, List.drop_eq_getElem_cons, List.drop_eq_nil_of_le, List.take_succ_eq_append_getElem, List.take_of_length_le]), rfl, rfl, rfl, rfl, trivial⟩ (.refl _) ⟨(show k + 1 ≤ 11 from by omega), (show nextV (without) (fzN (without) g + (k + 1)) = nextV (without) (fzN (without) g) ∧ fzN (without) g + (k + 1) ≤ 10 from by exact ⟨j2.trans pa.1, by omega⟩)⟩ (show 11 - (k + 1) < 11 - k from by omega)
    · have jm := nextV_miss q24
      have jn := pa.1
      refine E.nil (E.thn (E.cf rfl (E.exit (E.the (E.the (E.blh (E.thn (E.seq (E.seq (E.region (l := [0, 1, 2]) rfl (E.y rfl rfl (by decide) ((Y.mv rfl).yd) ?_)))))))))))
      refine E.st rfl rfl (N.call0 t_impl_isValue rfl rfl rfl (by decide) (fun w Lp hA => trivial)) (fun _ _ => (Ent.b (fun q28 => ?_) (fun q28 => ?_)))
      · have j9 : nextV without (fzN without g) ≤ 9 := by simp only [inR, decide_eq_true_eq] at q28; omega
        refine E.y rfl rfl (by decide) ((Y.not (b := true) rfl).yd) ?_
        refine E.nil (E.thn (E.cf rfl (E.skipc (E.thn (E.seq (E.mid (κ := (Option Addr × Nat) × (Option Addr × Nat)) (fun _ => True) (fun kM => [(1, .slice a_without without.length c_without), (2, .pointer (some ⟨b2, 0, none⟩)), (5, .pointer (some ⟨b5, 0, none⟩)), (7, .pointer (some ⟨b7, 0, none⟩)), (8, .int .i64 (↑(fzN (without) g + k) : Int)), (16, .slice a16 (termsF (fun t => inR t 10 17) q_Atoms).length c16), (17, .int .i64 (↑((termsF (fun t => inR t 10 17) q_Atoms).length) : Int)), (18, .int .i64 (↑g : Int))]) (fun kM => [pt b7 80 [.slice kM.1.1 (((termsF (fun t => inR t 10 17) q_Atoms).take g).length + 1) kM.1.2, .slice kM.2.1 ((frzV (without) g).length + 1) kM.2.2], ow eIs [.slice kM.2.1 ((frzV (without) g).length + 1) kM.2.2] ((frzV (without) g) ++ [(↑(fzN (without) g + k) : Int)]), ow eIs [.slice kM.1.1 (((termsF (fun t => inR t 10 17) q_Atoms).take g).length + 1) kM.1.2] (((termsF (fun t => inR t 10 17) q_Atoms).take g) ++ [(termsF (fun t => inR t 10 17) q_Atoms)[g]]), pt b5 80 [.slice none 0 0, .slice none 0 0], pt b2 31 [.slice a_q_Head q_Head.length c_q_Head, .slice a_q_Atoms q_Atoms.length c_q_Atoms]]) ?_ (fun kM _ => ?_)))))))
        · refine D.Kregion [b7, b5, b2] (fun j => !(Nat.beq j 11) && !(Nat.beq j 13)) mixed (D.Kyp 0 rfl rfl (by decide) (Y.fld fo_Binding_0 ty_Is (by decide) rfl) (by kernel_rfl) ?_)
          refine D.Ky 1 rfl rfl (by decide) (Y.ldK1 ty_Is rfl ((HasK.pt (mS (mS m0)) (by simp)).sub (cs' := [_]) 0 rfl) rfl) (by kernel_rfl) ?_
          refine D.Kyp 2 rfl rfl (by decide) (Y.mv rfl) (by kernel_rfl) ?_
          refine D.Kyp 5 rfl rfl (by decide) (Y.fld fo_Binding_1 ty_Is (by decide) rfl) (by kernel_rfl) ?_
          refine D.Ky 6 rfl rfl (by decide) (Y.ldK1 ty_Is rfl ((HasK.pt (mS (mS m0)) (by simp)).sub (cs' := [_]) 1 rfl) rfl) (by kernel_rfl) ?_
          refine D.Kyp 7 rfl rfl (by decide) (Y.mv rfl) (by kernel_rfl) ?_
          refine D.Kch2 (i := 3) (j := 8) (by kernel_rfl) ?_ ?_
          · refine D.Kpk 3 rfl rfl (fun _ _ => SameI.out) (N.bsl (pvs := [_]) (cs := [_]) us_Is ty_I rfl (by decide) (by decide) (fillZ rfl rfl) rfl (by decide)) (fun b34 _ => ?_)
            refine D.Kch2 (i := 4) (j := 8) (by kernel_rfl) ?_ ?_
            · refine Ent.p2 ?_
              refine D.Kpk 4 rfl rfl (fun _ _ => SameI.out) (N.push (E := Enc.int) (ex := (termsF (fun t => inR t 10 17) q_Atoms)[g]) us_Is ty_I rfl rfl rfl (Own.int ei20) rfl (by first | omega | (simp only [List.length_map, List.length_take, List.length_append, List.length_drop, List.length_cons, List.length_nil]; omega)) (by first | omega | (simp only [List.length_map, List.length_take, List.length_append, List.length_drop, List.length_cons, List.length_nil]; omega)) (by decide)) (fun p35 _ => ?_)
              refine D.Kyp 10 rfl rfl (by decide) (Y.fld fo_Binding_0 ty_Is (by decide) rfl) (by kernel_rfl) ?_
              refine D.Kst 8 rfl rfl (by kernel_rfl) (fun _ _ => SameI.out) (N.bsl (pvs := [_]) (cs := [_]) us_Is ty_I rfl (by decide) (by decide) (fillZ rfl rfl) rfl (by decide)) (fun b39 _ => ?_)
              refine Ent.p2 ?_
              refine D.Kst 9 rfl rfl (by kernel_rfl) (fun _ _ => SameI.out) (N.push (E := Enc.int) (ex := (↑(fzN (without) g + k) : Int)) us_Is ty_I rfl rfl rfl (Own.int (by first | assumption | (unfold I64; (try dsimp only); omega) | grind)) rfl (by first | omega | (simp only [List.length_map, List.length_take, List.length_append, List.length_drop, List.length_cons, List.length_nil]; omega)) (by first | omega | (simp only [List.length_map, List.length_take, List.length_append, List.length_drop, List.length_cons, List.length_nil]; omega)) (by decide)) (fun p40 _ => ?_)
              refine Ent.p2 ?_
              refine D.Kst 11 rfl rfl (by kernel_rfl) (fun h => by cases h) (N.sto (vs := [_]) (cs' := [_, _]) ty_Is rfl rfl rfl rfl rfl (Nat.le_of_ble_eq_true rfl) rfl) (fun _ _ => ?_)
              refine D.Kyp 12 rfl rfl (by decide) (Y.fld fo_Binding_1 ty_Is (by decide) rfl) (by kernel_rfl) ?_
              refine D.Kst 13 rfl rfl (by kernel_rfl) (fun h => by cases h) (N.sto (vs := [_]) (cs' := [_, _]) ty_Is rfl rfl rfl rfl rfl (Nat.le_of_ble_eq_true rfl) rfl) (fun _ _ => ?_)
              refine D.Kdone (by kernel_rfl) (Ent.p4 ?_)
              refine Ent.p4 ?_
              refine Ent.p4 ?_
              refine Ent.p4 ?_
              refine Ent.p4 ?_
              exact E.mdn (p35, p40) trivial ⟨rfl, rfl, rfl, rfl, rfl, rfl, rfl, rfl, trivial⟩ (.refl _)
            · refine D.Kpk 8 rfl rfl (fun _ _ => SameI.out) (N.bsl (pvs := [_]) (cs := [_]) us_Is ty_I rfl (by decide) (by decide) (fillZ rfl rfl) rfl (by decide)) (fun b39 _ => ?_)
              refine Ent.p1 ?_
              refine Ent.p3 ?_
              refine D.Kst 4 rfl rfl (by kernel_rfl) (fun _ _ => SameI.out) (N.push (E := Enc.int) (ex := (termsF (fun t => inR t 10 17) q_Atoms)[g]) us_Is ty_I rfl rfl rfl (Own.int ei20) rfl (by first | omega | (simp only [List.length_map, List.length_take, List.length_append, List.length_drop, List.length_cons, List.length_nil]; omega)) (by first | omega | (simp only [List.length_map, List.length_take, List.length_append, List.length_drop, List.length_cons, List.length_nil]; omega)) (by decide)) (fun p35 _ => ?_)
              refine D.Kyp 10 rfl rfl (by decide) (Y.fld fo_Binding_0 ty_Is (by decide) rfl) (by kernel_rfl) ?_
              refine Ent.p1 ?_
              refine Ent.p2 ?_
              refine D.Kst 9 rfl rfl (by kernel_rfl) (fun _ _ => SameI.out) (N.push (E := Enc.int) (ex := (↑(fzN (without) g + k) : Int)) us_Is ty_I rfl rfl rfl (Own.int (by first | assumption | (unfold I64; (try dsimp only); omega) | grind)) rfl (by first | omega | (simp only [List.length_map, List.length_take, List.length_append, List.length_drop, List.length_cons, List.length_nil]; omega)) (by first | omega | (simp only [List.length_map, List.length_take, List.length_append, List.length_drop, List.length_cons, List.length_nil]; omega)) (by decide)) (fun p40 _ => ?_)
              refine Ent.p2 ?_
              refine D.Kst 11 rfl rfl (by kernel_rfl) (fun h => by cases h) (N.sto (vs := [_]) (cs' := [_, _]) ty_Is rfl rfl rfl rfl rfl (Nat.le_of_ble_eq_true rfl) rfl) (fun _ _ => ?_)
              refine D.Kyp 12 rfl rfl (by decide) (Y.fld fo_Binding_1 ty_Is (by decide) rfl) (by kernel_rfl) ?_
              refine D.Kst 13 rfl rfl (by kernel_rfl) (fun h => by cases h) (N.sto (vs := [_]) (cs' := [_, _]) ty_Is rfl rfl rfl rfl rfl (Nat.le_of_ble_eq_true rfl) rfl) (fun _ _ => ?_)
              refine D.Kdone (by kernel_rfl) (Ent.p4 ?_)
              refine Ent.p4 ?_
              refine Ent.p4 ?_
              refine Ent.p4 ?_
              refine Ent.p4 ?_
              exact E.mdn (p35, p40) trivial ⟨rfl, rfl, rfl, rfl, rfl, rfl, rfl, rfl, trivial⟩ (.refl _)
          · refine D.Kpk 8 rfl rfl (fun _ _ => SameI.out) (N.bsl (pvs := [_]) (cs := [_]) us_Is ty_I rfl (by decide) (by decide) (fillZ rfl rfl) rfl (by decide)) (fun b39 _ => ?_)
            refine D.Kst 3 rfl rfl (by kernel_rfl) (fun _ _ => SameI.out) (N.bsl (pvs := [_]) (cs := [_]) us_Is ty_I rfl (by decide) (by decide) (fillZ rfl rfl) rfl (by decide)) (fun b34 _ => ?_)
            refine Ent.p3 ?_
            refine D.Kst 4 rfl rfl (by kernel_rfl) (fun _ _ => SameI.out) (N.push (E := Enc.int) (ex := (termsF (fun t => inR t 10 17) q_Atoms)[g]) us_Is ty_I rfl rfl rfl (Own.int ei20) rfl (by first | omega | (simp only [List.length_map, List.length_take, List.length_append, List.length_drop, List.length_cons, List.length_nil]; omega)) (by first | omega | (simp only [List.length_map, List.length_take, List.length_append, List.length_drop, List.length_cons, List.length_nil]; omega)) (by decide)) (fun p35 _ => ?_)
            refine D.Kyp 10 rfl rfl (by decide) (Y.fld fo_Binding_0 ty_Is (by decide) rfl) (by kernel_rfl) ?_
            refine Ent.p1 ?_
            refine Ent.p2 ?_
            refine D.Kst 9 rfl rfl (by kernel_rfl) (fun _ _ => SameI.out) (N.push (E := Enc.int) (ex := (↑(fzN (without) g + k) : Int)) us_Is ty_I rfl rfl rfl (Own.int (by first | assumption | (unfold I64; (try dsimp only); omega) | grind)) rfl (by first | omega | (simp only [List.length_map, List.length_take, List.length_append, List.length_drop, List.length_cons, List.length_nil]; omega)) (by first | omega | (simp only [List.length_map, List.length_take, List.length_append, List.length_drop, List.length_cons, List.length_nil]; omega)) (by decide)) (fun p40 _ => ?_)
            refine Ent.p2 ?_
            refine D.Kst 11 rfl rfl (by kernel_rfl) (fun h => by cases h) (N.sto (vs := [_]) (cs' := [_, _]) ty_Is rfl rfl rfl rfl rfl (Nat.le_of_ble_eq_true rfl) rfl) (fun _ _ => ?_)
            refine D.Kyp 12 rfl rfl (by decide) (Y.fld fo_Binding_1 ty_Is (by decide) rfl) (by kernel_rfl) ?_
            refine D.Kst 13 rfl rfl (by kernel_rfl) (fun h => by cases h) (N.sto (vs := [_]) (cs' := [_, _]) ty_Is rfl rfl rfl rfl rfl (Nat.le_of_ble_eq_true rfl) rfl) (fun _ _ => ?_)
            refine D.Kdone (by kernel_rfl) (Ent.p4 ?_)
            refine Ent.p4 ?_
            refine Ent.p4 ?_
            refine Ent.p4 ?_
            refine Ent.p4 ?_
            exact E.mdn (p35, p40) trivial ⟨rfl, rfl, rfl, rfl, rfl, rfl, rfl, rfl, trivial⟩ (.refl _)
        · obtain ⟨p35, p40⟩ := kM
          show Ent _ _ _ [(1, .slice a_without without.length c_without), (2, .pointer (some ⟨b2, 0, none⟩)), (5, .pointer (some ⟨b5, 0, none⟩)), (7, .pointer (some ⟨b7, 0, none⟩)), (8, .int .i64 (↑(fzN (without) g + k) : Int)), (16, .slice a16 (termsF (fun t => inR t 10 17) q_Atoms).length c16), (17, .int .i64 (↑((termsF (fun t => inR t 10 17) q_Atoms).length) : Int)), (18, .int .i64 (↑g : Int))] [pt b7 80 [.slice p35.1 (((termsF (fun t => inR t 10 17) q_Atoms).take g).length + 1) p35.2, .slice p40.1 ((frzV (without) g).length + 1) p40.2], ow eIs [.slice p40.1 ((frzV (without) g).length + 1) p40.2] ((frzV (without) g) ++ [(↑(fzN (without) g + k) : Int)]), ow eIs [.slice p35.1 (((termsF (fun t => inR t 10 17) q_Atoms).take g).length + 1) p35.2] (((termsF (fun t => inR t 10 17) q_Atoms).take g) ++ [(termsF (fun t => inR t 10 17) q_Atoms)[g]]), pt b5 80 [.slice none 0 0, .slice none 0 0], pt b2 31 [.slice a_q_Head q_Head.length c_q_Head, .slice a_q_Atoms q_Atoms.length c_q_Atoms]] _
          refine E.thn (E.region (l := [0, 1, 2]) rfl (E.y rfl rfl (by decide) ((Y.mv rfl).yd) ?_))
          refine E.y rfl rfl (by decide) ((Y.add rfl rfl (by omega) (by omega)).yd) ?_
          refine E.y rfl rfl (by decide) ((Y.as rfl).yd) ?_
          refine E.nil (E.bln (E.thn (E.region (l := [0, 1]) rfl (E.y rfl rfl (by decide) ((Y.add rfl rfl (by omega) (by omega)).yd) ?_))))
          refine E.y rfl rfl (by decide) ((Y.mv rfl).yd) ?_
          refine E.nil (E.thn (Ent.p2 ?_))
          refine Ent.cv (congrArg (ow eIs [_]) (show ((termsF (fun t => inR t 10 17) q_Atoms).take g) ++ [(termsF (fun t => inR t 10 17) q_Atoms)[g]] = (termsF (fun t => inR t 10 17) q_Atoms).take (g + 1) from by grind [frzF_nil, frzF_snoc, frzV_zero, frzV_snoc, fzN, factO, List.drop_eq_getElem_cons, List.drop_eq_nil_of_le, List.take_succ_eq_append_getElem, List.take_of_length_le])) ?_
          refine Ent.p2 ?_
          refine Ent.cv (congrArg (ow eIs [_]) (show (frzV (without) g) ++ [(↑(fzN (without) g + k) : Int)] = frzV (without) (g + 1) from by grind [frzF_nil, frzF_snoc, frzV_zero, frzV_snoc, fzN, factO, List.drop_eq_getElem_cons, List.drop_eq_nil_of_le, List.take_succ_eq_append_getElem, List.take_of_length_le])) ?_
          refine Ent.p4 ?_
          refine Ent.p4 ?_
          refine Ent.p4 ?_
          refine Ent.p4 ?_
          refine Ent.p4 ?_
          exact E.again (Back.refl _ _) (g + 1, p35.1, (((termsF (fun t => inR t 10 17) q_Atoms).take g).length + 1), p35.2, p40.1, ((frzV (without) g).length + 1), p40.2) ⟨rfl, rfl, rfl, rfl, frI (by grind [frzF_nil, frzF_snoc, frzV_zero, frzV_snoc, fzN, factO, List.drop_eq_getElem_cons, List.drop_eq_nil_of_le, List.take_succ_eq_append_getElem, List.take_of_length_le]), rfl, rfl, rfl, trivial⟩ (.refl _) ⟨(show g + 1 ≤ (termsF (fun t => inR t 10 17) q_Atoms).length from by omega), (show ∀ i, i < (g + 1) → nextV (without) (fzN (without) i) ≤ 9 from by exact fz_step pa0 (by omega))⟩ (show (termsF (fun t => inR t 10 17) q_Atoms).length - (g + 1) < (termsF (fun t => inR t 10 17) q_Atoms).length - g from by omega)
      · have jb : fzB without q_Atoms = false := frzOk_no (i := g) (show g < (varsF q_Atoms).length by unfold varsF; omega) (by simp only [inR, decide_eq_false_iff_not] at q28; omega)
        refine E.y rfl rfl (by decide) ((Y.not (b := false) rfl).yd) ?_
        refine E.nil (E.thn (E.ct rfl (E.seq (E.region (l := [0, 1, 2, 3]) rfl (E.y rfl rfl (by decide) ((Y.bld (pvs := []) (cs := [_, _]) ty_Binding pl_Binding rfl rfl).yd) ?_)))))
        refine E.y rfl rfl (by decide) ((Y.as rfl).yd) ?_
        refine Ent.p3 ?_
        refine E.st rfl rfl (N.sto (vs := [_, _]) (cs' := [_, _]) ty_Binding rfl rfl rfl rfl rfl (Nat.le_of_ble_eq_true rfl) rfl) (fun _ _ => ?_)
        refine E.y rfl rfl (by decide) ((Y.as rfl).yd) ?_
        refine E.nil (E.thn (E.ret (E.thr (E.blr (E.thr (E.thr (E.blr (E.thr (Ent.mkow (A := []) (Own.nil (E := Enc.int) (e := tI) (a := none)) rfl ?_)))))))))
        refine Ent.cv (congrArg (ow eIs [_]) (show _ = fzX without q_Atoms by first | (simp only [fzF, fzV, fzX, jb, cond_false]; done) | (simp only [fzF, fzV, fzX, jb, cond_true]; unfold varsF; rw [← jg]; done) | (simp only [fzF, fzV, fzX, jb, cond_true]; unfold varsF; rw [← jg]; grind [List.take_of_length_le]) | (simp only [fzF, fzV, fzX, jb, cond_true]; unfold varsF; rw [jg]; grind [List.take_of_length_le]))) ?_
        refine Ent.mkow (A := []) (Own.nil (E := Enc.int) (e := tI) (a := none)) rfl ?_
        refine Ent.cv (congrArg (ow eIs [_]) (show _ = fzV without q_Atoms by first | (simp only [fzF, fzV, fzX, jb, cond_false]; done) | (simp only [fzF, fzV, fzX, jb, cond_true]; unfold varsF; rw [← jg]; done) | (simp only [fzF, fzV, fzX, jb, cond_true]; unfold varsF; rw [← jg]; grind [List.take_of_length_le]) | (simp only [fzF, fzV, fzX, jb, cond_true]; unfold varsF; rw [jg]; grind [List.take_of_length_le]))) ?_
        refine Ent.mkow (A := []) (Own.nil (E := eFact) (e := tFact) (a := none)) rfl ?_
        refine Ent.cv (congrArg (ow eFacts [_]) (show _ = fzF without q_Atoms by first | (simp only [fzF, fzV, fzX, jb, cond_false]; done) | (simp only [fzF, fzV, fzX, jb, cond_true]; unfold varsF; rw [← jg]; done) | (simp only [fzF, fzV, fzX, jb, cond_true]; unfold varsF; rw [← jg]; grind [List.take_of_length_le]) | (simp only [fzF, fzV, fzX, jb, cond_true]; unfold varsF; rw [jg]; grind [List.take_of_length_le]))) ?_
        refine Ent.p2 ?_
        refine Ent.p2 ?_
        refine Ent.p2 ?_
        exact F.c3 hB1 rfl rfl rfl rfl (mS (mS (mS m0))) ty_Binding rfl ((none, 0, 0), (none, 0, 0), (none, 0, 0)) trivial (by rw [show (fzB without q_Atoms) = (false) from (by first | (simp only [fzF, fzV, fzX, jb, cond_false]; done) | (simp only [fzF, fzV, fzX, jb, cond_true]; unfold varsF; rw [← jg]; done) | (simp only [fzF, fzV, fzX, jb, cond_true]; unfold varsF; rw [← jg]; grind [List.take_of_length_le]) | (simp only [fzF, fzV, fzX, jb, cond_true]; unfold varsF; rw [jg]; grind [List.take_of_length_le]))]; try rfl) (J := _) (.refl _) (.inl rfl)
  · have jb : fzB without q_Atoms = true := frzOk_yes (fun i hi => pa i (by unfold varsF at hi; omega))
    have jg : g = (termsF (fun t => inR t 10 17) q_Atoms).length := by omega
    refine E.nil (E.thn (E.seq (E.cf rfl (E.exit (E.the (E.the (E.blh (E.thn (E.seq (E.region (l := [0, 1]) rfl (E.st rfl rfl (N.bsl (pvs := []) (cs := []) us_Facts ty_Fact rfl (by decide) (by decide) (fillZ rfl rfl) rfl (by decide)) (fun b46 _ => ?_))))))))))))
    refine Ent.drop ?_
    refine E.y rfl rfl (by decide) ((Y.as rfl).yd) ?_
    refine E.nil (E.thn (E.seq (E.seq (E.region (l := [0, 1, 2, 3]) rfl (E.y rfl rfl (by decide) ((Y.fld fo_Query_1 ty_Atoms (by decide) rfl).yd) ?_)))))
    refine E.y rfl rfl (by decide) (Y.ld1 ty_Atoms rfl ((Has.pt (mS (mS (mS (mS m0))))).sub (cs' := [_]) 1 rfl) rfl) ?_
    refine E.y rfl rfl (by decide) ((Y.len us_Atoms rfl).yd) ?_
    refine E.y rfl rfl (by decide) ((Y.mv rfl).yd) ?_
    refine E.nil (E.thn (E.block (Ent.mkow (A := []) (Own.nil (E := eFact) (e := tFact) (a := (some ⟨b46, 0, none⟩))) rfl ?_)))
    refine Ent.cv (congrArg (ow eFacts [_]) (show [] = frzF (q_Atoms.take 0) ((termsF (fun t => inR t 10 17) q_Atoms).take g, frzV without g) from by first | rfl | (simp; done) | grind [frzF_nil, frzF_snoc, frzV_zero, frzV_snoc, fzN, factO, List.drop_eq_getElem_cons, List.drop_eq_nil_of_le, List.take_succ_eq_append_getElem, List.take_of_length_le])) ?_
    refine E.loop (κ := Nat × Option Addr × Nat × Nat) (fun r => r.1 ≤ q_Atoms.length ∧ True) (fun r => [(5, .pointer (some ⟨b5, 0, none⟩)), (7, .pointer (some ⟨b7, 0, none⟩)), (11, .slice r.2.1 r.2.2.1 r.2.2.2), (48, .slice a_q_Atoms q_Atoms.length c_q_Atoms), (49, .int .i64 (↑q_Atoms.length : Int)), (50, .int .i64 (↑r.1 : Int))]) (fun r => [ow eFacts [.slice r.2.1 r.2.2.1 r.2.2.2] (frzF (q_Atoms.take r.1) ((termsF (fun t => inR t 10 17) q_Atoms).take g, frzV without g)), ow eIs [.slice aA0_2 (frzV (without) g).length cA0_2] (frzV (without) g), ow eIs [.slice aA0_1 ((termsF (fun t => inR t 10 17) q_Atoms).take g).length cA0_1] ((termsF (fun t => inR t 10 17) q_Atoms).take g), pt b7 80 [.slice aA0_1 ((termsF (fun t => inR t 10 17) q_Atoms).take g).length cA0_1, .slice aA0_2 (frzV (without) g).length cA0_2], pt b5 80 [.slice none 0 0, .slice none 0 0], pt b2 31 [.slice a_q_Head q_Head.length c_q_Head, .slice a_q_Atoms q_Atoms.length c_q_Atoms]]) (fun r => q_Atoms.length - r.1) (0, (some ⟨b46, 0, none⟩), 0, 0) ⟨Nat.zero_le _, by simp⟩ ⟨rfl, rfl, rfl, rfl, rfl, rfl, trivial⟩ (.refl _) (fun r pr => ?_)
    obtain ⟨r, aA2_0, mA2_0, cA2_0⟩ := r
    try dsimp only at pr
    show Ent _ _ _ [(5, .pointer (some ⟨b5, 0, none⟩)), (7, .pointer (some ⟨b7, 0, none⟩)), (11, .slice aA2_0 mA2_0 cA2_0), (48, .slice a_q_Atoms q_Atoms.length c_q_Atoms), (49, .int .i64 (↑q_Atoms.length : Int)), (50, .int .i64 (↑r : Int))] [ow eFacts [.slice aA2_0 mA2_0 cA2_0] (frzF (q_Atoms.take r) ((termsF (fun t => inR t 10 17) q_Atoms).take g, frzV without g)), ow eIs [.slice aA0_2 (frzV (without) g).length cA0_2] (frzV (without) g), ow eIs [.slice aA0_1 ((termsF (fun t => inR t 10 17) q_Atoms).take g).length cA0_1] ((termsF (fun t => inR t 10 17) q_Atoms).take g), pt b7 80 [.slice aA0_1 ((termsF (fun t => inR t 10 17) q_Atoms).take g).length cA0_1, .slice aA0_2 (frzV (without) g).length cA0_2], pt b5 80 [.slice none 0 0, .slice none 0 0], pt b2 31 [.slice a_q_Head q_Head.length c_q_Head, .slice a_q_Atoms q_Atoms.length c_q_Atoms]] _
    obtain ⟨pk, pa⟩ := pr
    have jo := frz_len (atoms := q_Atoms.take r) (b := ((termsF (fun t => inR t 10 17) q_Atoms).take g, frzV without g))
    have jq := List.length_take_le r q_Atoms
    have jt := atoms_len hz
    have ju2 : q_Atoms.length ≤ 1048576 := by unfold totL at hz; omega
    refine Ent.lenow m0 fun eaA2_0 laA2_0 => ?_
    subst eaA2_0
    refine E.seq (E.region (l := [0]) rfl (E.y rfl rfl (by decide) ((Y.lss rfl rfl).yd) (Ent.d (fun q51 => ?_) (fun q51 => ?_))))
    · obtain ⟨eb52, eo52, ec52, ea52, er52, el52, eh52⟩ := hq_Atoms.elem r (by omega)
      obtain ⟨xa52_0, xc52_0, rfl, ei52_0, xh52_0⟩ := Ro.pAtom er52
      have := xh52_0.slen.2
      refine E.nil (E.thn (E.seq (E.ct rfl (E.skipc (E.thn (E.seq (E.block (E.seq (E.region (l := [0, 1, 2, 3]) rfl (E.y rfl rfl (by decide) ((Y.ix us_Atoms ty_Atom rfl ea52 rfl r rfl (by omega)).yd) ?_))))))))))
      refine E.y rfl rfl (by decide) (Y.ldS (cs := [_, _]) ty_Atom rfl (eh52 _) rfl) ?_
      refine E.st rfl rfl (N.alloc ty_Atom (by decide)) (fun b13 _ => ?_)
      refine E.st rfl rfl (N.sto (vs := [_, _]) (cs' := [_, _]) ty_Atom rfl rfl rfl rfl rfl (Nat.le_of_ble_eq_true rfl) rfl) (fun _ _ => ?_)
      refine E.nil (E.thn (E.region (l := [0, 1, 2, 3, 4, 5]) rfl (E.y rfl rfl (by decide) ((Y.mv rfl).yd) ?_)))
      refine E.y rfl rfl (by decide) (Y.ldS (cs := [_, _]) ty_Atom rfl (Has.pt m0) rfl) ?_
      refine E.y rfl rfl (by decide) (Y.ldS (cs := [_, _]) ty_Binding rfl (Has.pt (mS (mS (mS (mS m0))))) rfl) ?_
      refine E.st rfl rfl (N.call (t_impl_factOf (jt _ (List.getElem_mem (by omega)))) rfl rfl rfl (by decide) rfl (fun w Lp hA => ⟨ei52_0, hA.ro xh52_0, hA.ow (mS (mS (mS m0))), hA.ow (mS (mS m0))⟩)) (fun k57 _ => ?_)
      obtain ⟨a57, m57, c57⟩ := k57
      refine Ent.lenow m0 fun e57 l57 => ?_
      subst e57
      refine Ent.p2 ?_
      refine E.st rfl rfl (N.call (pre := [_]) (t_impl_added (by omega) (by simp only [factO, List.length_map]; exact jt _ (List.getElem_mem (by omega)))) rfl rfl rfl (by decide) rfl (fun w Lp hA => ⟨(by first | assumption | (unfold I64; (try dsimp only); omega) | grind), hA.ow m0⟩)) (fun k58 _ => ?_)
      obtain ⟨a58, m58, c58⟩ := k58
      refine Ent.lenow m0 fun e58 l58 => ?_
      subst e58
      refine E.y rfl rfl (by decide) ((Y.as rfl).yd) ?_
      refine E.nil (E.bln (E.thn (E.region (l := [0, 1]) rfl (E.y rfl rfl (by decide) ((Y.add rfl rfl (by omega) (by omega)).yd) ?_))))
      refine E.y rfl rfl (by decide) ((Y.mv rfl).yd) ?_
      refine E.nil (E.thn (Ent.p1 ?_))
      refine Ent.drop ?_
      refine Ent.p1 ?_
      refine Ent.drop ?_
      refine Ent.cv (congrArg (ow eFacts [_]) (show addF (frzF (q_Atoms.take r) ((termsF (fun t => inR t 10 17) q_Atoms).take g, frzV without g)) (((factO q_Atoms[r] (((termsF (fun t => inR t 10 17) q_Atoms).take g), (frzV (without) g))).1), ((factO q_Atoms[r] (((termsF (fun t => inR t 10 17) q_Atoms).take g), (frzV (without) g))).2)) = frzF (q_Atoms.take (r + 1)) ((termsF (fun t => inR t 10 17) q_Atoms).take g, frzV without g) from by grind [frzF_nil, frzF_snoc, frzV_zero, frzV_snoc, fzN, factO, List.drop_eq_getElem_cons, List.drop_eq_nil_of_le, List.take_succ_eq_append_getElem, List.take_of_length_le])) ?_
      refine Ent.p5 ?_
      refine Ent.p5 ?_
      refine Ent.p5 ?_
      refine Ent.p5 ?_
      refine Ent.p5 ?_
      refine Ent.p5 ?_
      exact E.again (Back.refl _ _) (r + 1, a58, (addF (frzF (q_Atoms.take r) ((termsF (fun t => inR t 10 17) q_Atoms).take g, frzV without g)) (((factO q_Atoms[r] (((termsF (fun t => inR t 10 17) q_Atoms).take g), (frzV (without) g))).1), ((factO q_Atoms[r] (((termsF (fun t => inR t 10 17) q_Atoms).take g), (frzV (without) g))).2))).length, c58) ⟨rfl, rfl, rfl, rfl, rfl, rfl, trivial⟩ (.refl _) ⟨(show r + 1 ≤ q_Atoms.length from by omega), (show True from by grind [List.drop_eq_getElem_cons, List.drop_eq_nil_of_le, List.take_succ_eq_append_getElem, List.take_of_length_le])⟩ (show q_Atoms.length - (r + 1) < q_Atoms.length - r from by omega)
    · refine E.nil (E.thn (E.seq (E.cf rfl (E.exit (E.the (E.the (E.blh (E.thn (E.seq (D.region (fun j => !(Nat.beq j 3)) mixed (D.yp 0 rfl rfl (by decide) (Y.mv rfl) (by kernel_rfl) ?_)))))))))))
      refine D.y 1 rfl rfl (by decide) (Y.ldS (cs := [_, _]) ty_Binding rfl (Has.pt (mS (mS (mS m0)))) rfl) (by kernel_rfl) ?_
      refine D.yp 2 rfl rfl (by decide) (Y.as rfl) (by kernel_rfl) ?_
      refine Ent.p4 ?_
      refine D.st 3 rfl rfl (by kernel_rfl) (fun h => by cases h) (N.sto (vs := [_, _]) (cs' := [_, _]) ty_Binding rfl rfl rfl rfl rfl (Nat.le_of_ble_eq_true rfl) rfl) (fun _ _ => ?_)
      refine D.yp 4 rfl rfl (by decide) (Y.as rfl) (by kernel_rfl) ?_
      refine D.done (by kernel_rfl) (E.thn (E.ret (Ent.p2 ?_)))
      refine Ent.cv (congrArg (ow eIs [_]) (show _ = fzX without q_Atoms by first | (simp only [fzF, fzV, fzX, jb, cond_false]; done) | (simp only [fzF, fzV, fzX, jb, cond_true]; unfold varsF; rw [← jg]; done) | (simp only [fzF, fzV, fzX, jb, cond_true]; unfold varsF; rw [← jg]; grind [List.take_of_length_le]) | (simp only [fzF, fzV, fzX, jb, cond_true]; unfold varsF; rw [jg]; grind [List.take_of_length_le]))) ?_
      refine Ent.p3 ?_
      refine Ent.cv (congrArg (ow eIs [_]) (show _ = fzV without q_Atoms by first | (simp only [fzF, fzV, fzX, jb, cond_false]; done) | (simp only [fzF, fzV, fzX, jb, cond_true]; unfold varsF; rw [← jg]; done) | (simp only [fzF, fzV, fzX, jb, cond_true]; unfold varsF; rw [← jg]; grind [List.take_of_length_le]) | (simp only [fzF, fzV, fzX, jb, cond_true]; unfold varsF; rw [jg]; grind [List.take_of_length_le]))) ?_
      refine Ent.p3 ?_
      refine Ent.cv (congrArg (ow eFacts [_]) (show _ = fzF without q_Atoms by first | (simp only [fzF, fzV, fzX, jb, cond_false]; done) | (simp only [fzF, fzV, fzX, jb, cond_true]; unfold varsF; rw [← jg]; done) | (simp only [fzF, fzV, fzX, jb, cond_true]; unfold varsF; rw [← jg]; grind [List.take_of_length_le]) | (simp only [fzF, fzV, fzX, jb, cond_true]; unfold varsF; rw [jg]; grind [List.take_of_length_le]))) ?_
      refine Ent.p2 ?_
      refine Ent.p2 ?_
      refine Ent.p2 ?_
      exact F.c3 hB1 rfl rfl rfl rfl (mS (mS (mS m0))) ty_Binding rfl ((_, _, _), (_, _, _), (_, _, _)) trivial (by rw [show (fzB without q_Atoms) = (true) from (by first | (simp only [fzF, fzV, fzX, jb, cond_false]; done) | (simp only [fzF, fzV, fzX, jb, cond_true]; unfold varsF; rw [← jg]; done) | (simp only [fzF, fzV, fzX, jb, cond_true]; unfold varsF; rw [← jg]; grind [List.take_of_length_le]) | (simp only [fzF, fzV, fzX, jb, cond_true]; unfold varsF; rw [jg]; grind [List.take_of_length_le]))]; try rfl) (J := _) (.refl _) (.inl rfl)
theorem t_spec_FreezeQuery {a_q_Head : Option Addr} {m_q_Head c_q_Head : Nat} {q_Head : List Int} {a_q_Atoms : Option Addr} {m_q_Atoms c_q_Atoms : Nat} {q_Atoms : List (Int × List Int)} (hz : totL (fun x => x.2.length) q_Atoms ≤ 1048576) : Tr Tryz.prog 114 [.agg #[.slice a_q_Head m_q_Head c_q_Head, .slice a_q_Atoms m_q_Atoms c_q_Atoms]] (fun w L => Ro w L eIs [.slice a_q_Head m_q_Head c_q_Head] q_Head ∧ Ro w L eAtoms [.slice a_q_Atoms m_q_Atoms c_q_Atoms] q_Atoms) [] (κ := (Option Addr × Nat × Nat) × (Option Addr × Nat × Nat) × (Option Addr × Nat × Nat)) (fun k => True) (fun k => .tuple #[.slice k.1.1 k.1.2.1 k.1.2.2, .agg #[.slice k.2.1.1 k.2.1.2.1 k.2.1.2.2, .slice k.2.2.1 k.2.2.2.1 k.2.2.2.2], .bool (fzB (termsF (fun t => inR t 0 9) q_Atoms) q_Atoms)]) (fun k => [ow eFacts [.slice k.1.1 k.1.2.1 k.1.2.2] (fzF (termsF (fun t => inR t 0 9) q_Atoms) q_Atoms), ow eIs [.slice k.2.1.1 k.2.1.2.1 k.2.1.2.2] (fzV (termsF (fun t => inR t 0 9) q_Atoms) q_Atoms), ow eIs [.slice k.2.2.1 k.2.2.2.1 k.2.2.2.2] (fzX (termsF (fun t => inR t 0 9) q_Atoms) q_Atoms)]) := by
  refine Tr.intro Tryz.func114 rfl (n := 90) rfl (by decide +kernel) (Nat.le_of_ble_eq_true rfl) (fr := [(0, .agg #[.slice a_q_Head m_q_Head c_q_Head, .slice a_q_Atoms m_q_Atoms c_q_Atoms])]) rfl fun w L hR => ?_
  obtain ⟨hq_Head, hq_Atoms⟩ := hR
  obtain ⟨rfl, lq_Head⟩ := hq_Head.slen
  obtain ⟨rfl, lq_Atoms⟩ := hq_Atoms.slen
  have hu : ∀ x ∈ termsF (fun t => inR t 0 9) q_Atoms, 0 ≤ x ∧ x ≤ 9 := cons_in (atoms := q_Atoms)
  have jv := hq_Atoms.i64A
  refine E.seq (E.region (l := [0, 1, 2, 3]) rfl (E.st rfl rfl (N.box (cs := [_, _]) rfl (by decide) rfl) (fun b1 _ => ?_)))
  refine E.y rfl rfl (by decide) ((Y.as rfl).yd) ?_
  refine E.st rfl rfl (N.alloc ty_Binding (by decide)) (fun b3 _ => ?_)
  refine E.y rfl rfl (by decide) ((Y.as rfl).yd) ?_
  refine E.nil (E.thn (E.seq (E.region (l := [0, 1, 2]) rfl (E.y rfl rfl (by decide) (Y.ldS (cs := [_, _]) ty_Query rfl (Has.pt (mS m0)) rfl) ?_))))
  refine E.st rfl rfl (N.call (t_spec_ConstantsOf (by first | omega | assumption)) rfl rfl rfl (by decide) rfl (fun w Lp hA => ⟨hA.ro hq_Head, hA.ro hq_Atoms⟩)) (fun k15 _ => ?_)
  obtain ⟨a15, m15, c15⟩ := k15
  refine Ent.lenow m0 fun e15 l15 => ?_
  subst e15
  refine Ent.rebase (A := [_]) rfl fun wb2 Lb2 hB2 hA2 => ?_
  have hq_Head := hA2.ro hq_Head
  have hq_Atoms := hA2.ro hq_Atoms
  have rb2 : Ro wb2 Lb2 eIs [.slice a15 (termsF (fun t => inR t 0 9) q_Atoms).length c15] (termsF (fun t => inR t 0 9) q_Atoms) := hA2.ow m0
  refine E.y rfl rfl (by decide) ((Y.as rfl).yd) ?_
  refine E.nil (E.thn (E.seq (E.region (l := [0, 1, 2]) rfl (E.y rfl rfl (by decide) (Y.ldS (cs := [_, _]) ty_Query rfl (Has.pt (mS m0)) rfl) ?_))))
  refine E.st rfl rfl (N.call (t_spec_VarsOf (by first | omega | assumption)) rfl rfl rfl (by decide) rfl (fun w Lp hA => ⟨hA.ro hq_Head, hA.ro hq_Atoms⟩)) (fun k17 _ => ?_)
  obtain ⟨a17, m17, c17⟩ := k17
  refine Ent.lenow m0 fun e17 l17 => ?_
  subst e17
  refine Ent.rebase (A := [_]) rfl fun wb3 Lb3 hB3 hA3 => ?_
  have hq_Head := hA3.ro hq_Head
  have hq_Atoms := hA3.ro hq_Atoms
  have rb2 := hA3.ro rb2
  have rb3 : Ro wb3 Lb3 eIs [.slice a17 (termsF (fun t => inR t 10 17) q_Atoms).length c17] (termsF (fun t => inR t 10 17) q_Atoms) := hA3.ow m0
  refine E.y rfl rfl (by decide) ((Y.as rfl).yd) ?_
  refine E.nil (E.thn (E.seq (E.region (l := [0, 1, 2]) rfl (E.y rfl rfl (by decide) ((Y.bld (pvs := []) (cs := [_, _]) ty_Binding pl_Binding rfl rfl).yd) ?_))))
  refine E.st rfl rfl (N.alloc ty_Binding (by decide)) (fun b7 _ => ?_)
  refine E.st rfl rfl (N.sto (vs := [_, _]) (cs' := [_, _]) ty_Binding rfl rfl rfl rfl rfl (Nat.le_of_ble_eq_true rfl) rfl) (fun _ _ => ?_)
  refine E.nil (E.thn (E.seq (E.region (l := [0]) rfl (E.y rfl rfl (by decide) ((Y.as rfl).yd) ?_))))
  refine E.nil (E.thn (E.seq (E.seq (E.region (l := [0]) rfl (E.y rfl rfl (by decide) ((Y.as rfl).yd) ?_)))))
  refine E.nil (E.thn (E.block (Ent.mkow (A := []) (Own.nil (E := Enc.int) (e := tI) (a := none)) rfl ?_)))
  refine Ent.cv (congrArg (ow eIs [_]) (show [] = (termsF (fun t => inR t 10 17) q_Atoms).take 0 from by first | rfl | (simp; done) | grind [frzF_nil, frzF_snoc, frzV_zero, frzV_snoc, fzN, factO, List.drop_eq_getElem_cons, List.drop_eq_nil_of_le, List.take_succ_eq_append_getElem, List.take_of_length_le])) ?_
  refine Ent.mkow (A := []) (Own.nil (E := Enc.int) (e := tI) (a := none)) rfl ?_
  refine Ent.cv (congrArg (ow eIs [_]) (show [] = frzV (termsF (fun t => inR t 0 9) q_Atoms) 0 from by first | rfl | (simp; done) | grind [frzF_nil, frzF_snoc, frzV_zero, frzV_snoc, fzN, factO, List.drop_eq_getElem_cons, List.drop_eq_nil_of_le, List.take_succ_eq_append_getElem, List.take_of_length_le])) ?_
  refine E.loop (κ := Nat × Option Addr × Nat × Nat × Option Addr × Nat × Nat) (fun g => g.1 ≤ (termsF (fun t => inR t 10 17) q_Atoms).length ∧ ∀ i, i < g.1 → nextV (termsF (fun t => inR t 0 9) q_Atoms) (fzN (termsF (fun t => inR t 0 9) q_Atoms) i) ≤ 9) (fun g => [(1, .pointer (some ⟨b1, 0, none⟩)), (3, .pointer (some ⟨b3, 0, none⟩)), (5, .slice a15 (termsF (fun t => inR t 0 9) q_Atoms).length c15), (6, .slice a17 (termsF (fun t => inR t 10 17) q_Atoms).length c17), (7, .pointer (some ⟨b7, 0, none⟩)), (8, .int .i64 (↑(fzN (termsF (fun t => inR t 0 9) q_Atoms) g.1) : Int)), (9, .int .i64 (↑g.1 : Int))]) (fun g => [ow eIs [.slice g.2.2.2.2.1 g.2.2.2.2.2.1 g.2.2.2.2.2.2] (frzV (termsF (fun t => inR t 0 9) q_Atoms) g.1), ow eIs [.slice g.2.1 g.2.2.1 g.2.2.2.1] ((termsF (fun t => inR t 10 17) q_Atoms).take g.1), pt b7 80 [.slice g.2.1 g.2.2.1 g.2.2.2.1, .slice g.2.2.2.2.1 g.2.2.2.2.2.1 g.2.2.2.2.2.2], pt b3 80 [.slice none 0 0, .slice none 0 0], pt b1 31 [.slice a_q_Head q_Head.length c_q_Head, .slice a_q_Atoms q_Atoms.length c_q_Atoms]]) (fun g => (termsF (fun t => inR t 10 17) q_Atoms).length - g.1) (0, none, 0, 0, none, 0, 0) ⟨Nat.zero_le _, by simp⟩ ⟨rfl, rfl, rfl, rfl, rfl, frI (by first | rfl | (simp; done) | grind [frzF_nil, frzF_snoc, frzV_zero, frzV_snoc, fzN, factO, List.drop_eq_getElem_cons, List.drop_eq_nil_of_le, List.take_succ_eq_append_getElem, List.take_of_length_le]), rfl, trivial⟩ (.refl _) (fun g pg => ?_)
  obtain ⟨g, aA0_1, mA0_1, cA0_1, aA0_2, mA0_2, cA0_2⟩ := g
  try dsimp only at pg
  show Ent _ _ _ [(1, .pointer (some ⟨b1, 0, none⟩)), (3, .pointer (some ⟨b3, 0, none⟩)), (5, .slice a15 (termsF (fun t => inR t 0 9) q_Atoms).length c15), (6, .slice a17 (termsF (fun t => inR t 10 17) q_Atoms).length c17), (7, .pointer (some ⟨b7, 0, none⟩)), (8, .int .i64 (↑(fzN (termsF (fun t => inR t 0 9) q_Atoms) g) : Int)), (9, .int .i64 (↑g : Int))] [ow eIs [.slice aA0_2 mA0_2 cA0_2] (frzV (termsF (fun t => inR t 0 9) q_Atoms) g), ow eIs [.slice aA0_1 mA0_1 cA0_1] ((termsF (fun t => inR t 10 17) q_Atoms).take g), pt b7 80 [.slice aA0_1 mA0_1 cA0_1, .slice aA0_2 mA0_2 cA0_2], pt b3 80 [.slice none 0 0, .slice none 0 0], pt b1 31 [.slice a_q_Head q_Head.length c_q_Head, .slice a_q_Atoms q_Atoms.length c_q_Atoms]] _
  obtain ⟨pk, pa⟩ := pg
  have pa0 := pa
  have jz := fzN_le pa
  have jl := vars_few (atoms := q_Atoms)
  have jy := frzV_len (u := (termsF (fun t => inR t 0 9) q_Atoms)) (n := g)
  have jp := List.length_take_le g (termsF (fun t => inR t 10 17) q_Atoms)
  refine Ent.lenow (mS m0) fun eaA0_1 laA0_1 => ?_
  subst eaA0_1
  refine Ent.lenow m0 fun eaA0_2 laA0_2 => ?_
  subst eaA0_2
  refine E.seq (E.seq (E.region (l := [0, 1, 2, 3]) rfl (E.y rfl rfl (by decide) ((Y.mv rfl).yd) ?_)))
  refine E.y rfl rfl (by decide) ((Y.mv rfl).yd) ?_
  refine E.y rfl rfl (by decide) ((Y.len us_Is rfl).yd) ?_
  refine E.y rfl rfl (by decide) ((Y.lss rfl rfl).yd) (Ent.d (fun q22 => ?_) (fun q22 => ?_))
  · refine E.nil (E.thn (E.ct rfl (E.skipc (E.thn (E.seq (E.block (E.seq (E.block (E.loop (κ := Nat) (fun k => k ≤ 11 ∧ nextV (termsF (fun t => inR t 0 9) q_Atoms) (fzN (termsF (fun t => inR t 0 9) q_Atoms) g + k) = nextV (termsF (fun t => inR t 0 9) q_Atoms) (fzN (termsF (fun t => inR t 0 9) q_Atoms) g) ∧ fzN (termsF (fun t => inR t 0 9) q_Atoms) g + k ≤ 10) (fun k => [(1, .pointer (some ⟨b1, 0, none⟩)), (3, .pointer (some ⟨b3, 0, none⟩)), (5, .slice a15 (termsF (fun t => inR t 0 9) q_Atoms).length c15), (6, .slice a17 (termsF (fun t => inR t 10 17) q_Atoms).length c17), (7, .pointer (some ⟨b7, 0, none⟩)), (8, .int .i64 (↑(fzN (termsF (fun t => inR t 0 9) q_Atoms) g + k) : Int)), (9, .int .i64 (↑g : Int))]) (fun k => [ow eIs [.slice aA0_2 (frzV (termsF (fun t => inR t 0 9) q_Atoms) g).length cA0_2] (frzV (termsF (fun t => inR t 0 9) q_Atoms) g), ow eIs [.slice aA0_1 ((termsF (fun t => inR t 10 17) q_Atoms).take g).length cA0_1] ((termsF (fun t => inR t 10 17) q_Atoms).take g), pt b7 80 [.slice aA0_1 ((termsF (fun t => inR t 10 17) q_Atoms).take g).length cA0_1, .slice aA0_2 (frzV (termsF (fun t => inR t 0 9) q_Atoms) g).length cA0_2], pt b3 80 [.slice none 0 0, .slice none 0 0], pt b1 31 [.slice a_q_Head q_Head.length c_q_Head, .slice a_q_Atoms q_Atoms.length c_q_Atoms]]) (fun k => 11 - k) (0) ⟨Nat.zero_le _, by exact ⟨rfl, by omega⟩⟩ ⟨rfl, rfl, rfl, rfl, rfl, frI (by first | rfl | (simp; done) | grind [frzF_nil, frzF_snoc, frzV_zero, frzV_snoc, fzN, factO, List.drop_eq_getElem_cons, List.drop_eq_nil_of_le, List.take_succ_eq_append_getElem, List.take_of_length_le]), rfl, trivial⟩ (.refl _) (fun k pk => ?_))))))))))
    show Ent _ _ _ [(1, .pointer (some ⟨b1, 0, none⟩)), (3, .pointer (some ⟨b3, 0, none⟩)), (5, .slice a15 (termsF (fun t => inR t 0 9) q_Atoms).length c15), (6, .slice a17 (termsF (fun t => inR t 10 17) q_Atoms).length c17), (7, .pointer (some ⟨b7, 0, none⟩)), (8, .int .i64 (↑(fzN (termsF (fun t => inR t 0 9) q_Atoms) g + k) : Int)), (9, .int .i64 (↑g : Int))] [ow eIs [.slice aA0_2 (frzV (termsF (fun t => inR t 0 9) q_Atoms) g).length cA0_2] (frzV (termsF (fun t => inR t 0 9) q_Atoms) g), ow eIs [.slice aA0_1 ((termsF (fun t => inR t 10 17) q_Atoms).take g).length cA0_1] ((termsF (fun t => inR t 10 17) q_Atoms).take g), pt b7 80 [.slice aA0_1 ((termsF (fun t => inR t 10 17) q_Atoms).take g).length cA0_1, .slice aA0_2 (frzV (termsF (fun t => inR t 0 9) q_Atoms) g).length cA0_2], pt b3 80 [.slice none 0 0, .slice none 0 0], pt b1 31 [.slice a_q_Head q_Head.length c_q_Head, .slice a_q_Atoms q_Atoms.length c_q_Atoms]] _
    obtain ⟨pk, pa⟩ := pk
    refine E.seq (E.seq (E.region (l := [0, 1, 2]) rfl (E.y rfl rfl (by decide) ((Y.mv rfl).yd) ?_)))
    refine E.y rfl rfl (by decide) ((Y.mv rfl).yd) ?_
    refine E.st rfl rfl (N.call0 t_spec_l2Has rfl rfl rfl (by decide) (fun w Lp hA => hA.ro rb2)) (fun _ _ => (Ent.b (fun q27 => ?_) (fun q27 => ?_)))
    · refine E.nil (E.thn (E.ct rfl (E.skipc (E.thn (E.block (E.region (l := [0, 1, 2]) rfl (E.y rfl rfl (by decide) ((Y.mv rfl).yd) ?_)))))))
      refine E.y rfl rfl (by decide) ((Y.add rfl rfl (by omega) (by omega)).yd) ?_
      refine E.y rfl rfl (by decide) ((Y.as rfl).yd) ?_
      have j1 := hasI_le hu q27
      have j2 := nextV_hit hu q27
      refine E.nil (E.bln (E.thn (Ent.p4 ?_)))
      refine Ent.p4 ?_
      refine Ent.p4 ?_
      refine Ent.p4 ?_
      refine Ent.p4 ?_
      exact E.again (Back.refl _ _) (k + 1) ⟨rfl, rfl, rfl, rfl, rfl, frI (by grind [frzF_nil, frzF_snoc, frzV_zero, frzV_snoc, fzN, factO, List.drop_eq_getElem_cons, List.drop_eq_nil_of_le, List.take_succ_eq_append_getElem, List.take_of_length_le]), rfl, trivial⟩ (.refl _) ⟨(show k + 1 ≤ 11 from by omega), (show nextV (termsF (fun t => inR t 0 9) q_Atoms) (fzN (termsF (fun t => inR t 0 9) q_Atoms) g + (k + 1)) = nextV (termsF (fun t => inR t 0 9) q_Atoms) (fzN (termsF (fun t => inR t 0 9) q_Atoms) g) ∧ fzN (termsF (fun t => inR t 0 9) q_Atoms) g + (k + 1) ≤ 10 from by exact ⟨j2.trans pa.1, by omega⟩)⟩ (show 11 - (k + 1) < 11 - k from by omega)
    · have jm := nextV_miss q27
      have jn := pa.1
      refine E.nil (E.thn (E.cf rfl (E.exit (E.the (E.the (E.blh (E.thn (E.seq (E.seq (E.region (l := [0, 1]) rfl (E.y rfl rfl (by decide) ((Y.mv rfl).yd) ?_)))))))))))
      refine E.y rfl rfl (by decide) ((Y.gtr rfl rfl).yd) (Ent.d (fun q31 => ?_) (fun q31 => ?_))
      · have jb : fzB (termsF (fun t => inR t 0 9) q_Atoms) q_Atoms = false := frzOk_no (i := g) (show g < (varsF q_Atoms).length by unfold varsF; omega) (by omega)
        refine E.nil (E.thn (E.ct rfl (E.seq (E.region (l := [0, 1, 2, 3, 4]) rfl (E.st rfl rfl (N.bsl (pvs := []) (cs := []) us_Facts ty_Fact rfl (by decide) (by decide) (fillZ rfl rfl) rfl (by decide)) (fun b32 _ => ?_))))))
        refine Ent.drop ?_
        refine E.y rfl rfl (by decide) ((Y.bld (pvs := []) (cs := [_, _]) ty_Binding pl_Binding rfl rfl).yd) ?_
        refine E.y rfl rfl (by decide) ((Y.as rfl).yd) ?_
        refine Ent.p3 ?_
        refine E.st rfl rfl (N.sto (vs := [_, _]) (cs' := [_, _]) ty_Binding rfl rfl rfl rfl rfl (Nat.le_of_ble_eq_true rfl) rfl) (fun _ _ => ?_)
        refine E.y rfl rfl (by decide) ((Y.as rfl).yd) ?_
        refine E.nil (E.thn (E.ret (E.thr (E.blr (E.thr (E.thr (E.blr (E.thr (Ent.mkow (A := []) (Own.nil (E := Enc.int) (e := tI) (a := none)) rfl ?_)))))))))
        refine Ent.cv (congrArg (ow eIs [_]) (show _ = fzX (termsF (fun t => inR t 0 9) q_Atoms) q_Atoms by first | (simp only [fzF, fzV, fzX, jb, cond_false]; done) | (simp only [fzF, fzV, fzX, jb, cond_true]; unfold varsF; rw [← jg]; done) | (simp only [fzF, fzV, fzX, jb, cond_true]; unfold varsF; rw [← jg]; grind [List.take_of_length_le]) | (simp only [fzF, fzV, fzX, jb, cond_true]; unfold varsF; rw [jg]; grind [List.take_of_length_le]))) ?_
        refine Ent.mkow (A := []) (Own.nil (E := Enc.int) (e := tI) (a := none)) rfl ?_
        refine Ent.cv (congrArg (ow eIs [_]) (show _ = fzV (termsF (fun t => inR t 0 9) q_Atoms) q_Atoms by first | (simp only [fzF, fzV, fzX, jb, cond_false]; done) | (simp only [fzF, fzV, fzX, jb, cond_true]; unfold varsF; rw [← jg]; done) | (simp only [fzF, fzV, fzX, jb, cond_true]; unfold varsF; rw [← jg]; grind [List.take_of_length_le]) | (simp only [fzF, fzV, fzX, jb, cond_true]; unfold varsF; rw [jg]; grind [List.take_of_length_le]))) ?_
        refine Ent.mkow (A := []) (Own.nil (E := eFact) (e := tFact) (a := (some ⟨b32, 0, none⟩))) rfl ?_
        refine Ent.cv (congrArg (ow eFacts [_]) (show _ = fzF (termsF (fun t => inR t 0 9) q_Atoms) q_Atoms by first | (simp only [fzF, fzV, fzX, jb, cond_false]; done) | (simp only [fzF, fzV, fzX, jb, cond_true]; unfold varsF; rw [← jg]; done) | (simp only [fzF, fzV, fzX, jb, cond_true]; unfold varsF; rw [← jg]; grind [List.take_of_length_le]) | (simp only [fzF, fzV, fzX, jb, cond_true]; unfold varsF; rw [jg]; grind [List.take_of_length_le]))) ?_
        refine Ent.p2 ?_
        refine Ent.p2 ?_
        refine Ent.p2 ?_
        exact F.c3 (hB2.comp hB3) rfl rfl rfl rfl (mS (mS (mS m0))) ty_Binding rfl (((some ⟨b32, 0, none⟩), 0, 0), (none, 0, 0), (none, 0, 0)) trivial (by rw [show (fzB (termsF (fun t => inR t 0 9) q_Atoms) q_Atoms) = (false) from (by first | (simp only [fzF, fzV, fzX, jb, cond_false]; done) | (simp only [fzF, fzV, fzX, jb, cond_true]; unfold varsF; rw [← jg]; done) | (simp only [fzF, fzV, fzX, jb, cond_true]; unfold varsF; rw [← jg]; grind [List.take_of_length_le]) | (simp only [fzF, fzV, fzX, jb, cond_true]; unfold varsF; rw [jg]; grind [List.take_of_length_le]))]; try rfl) (J := _) (.refl _) (.inl rfl)
      · have j9 : nextV (termsF (fun t => inR t 0 9) q_Atoms) (fzN (termsF (fun t => inR t 0 9) q_Atoms) g) ≤ 9 := by omega
        refine E.nil (E.thn (E.cf rfl (E.skipc (E.thn (E.seq (D.region (fun j => !(Nat.beq j 7)) mixed (D.y 0 rfl rfl (by decide) (Y.ldS (cs := [_, _]) ty_Binding rfl (Has.pt (mS (mS m0))) rfl) (by kernel_rfl) ?_)))))))
        refine D.yp 1 rfl rfl (by decide) (Y.mv rfl) (by kernel_rfl) ?_
        refine D.yp 2 rfl rfl (by decide) (Y.mv rfl) (by kernel_rfl) ?_
        obtain ⟨eb37, eo37, ea37, ei37, eh37⟩ := rb3.elemI g (by omega)
        refine D.yp 3 rfl rfl (by decide) (Y.ix us_Is ty_I rfl ea37 rfl g rfl (by omega)) (by kernel_rfl) ?_
        refine D.y 4 rfl rfl (by decide) (Y.ld1 ty_I rfl (eh37 _) rfl) (by kernel_rfl) ?_
        refine D.yp 5 rfl rfl (by decide) (Y.mv rfl) (by kernel_rfl) ?_
        refine D.st 6 rfl rfl (by kernel_rfl) (fun _ => rfl) (N.call (t_spec_l4Bind (by simp only [List.length_take, frzV_len]; omega) (by simp only [List.length_take, frzV_len]; omega)) rfl rfl rfl (by decide) rfl (fun w Lp hA => ⟨hA.ow (mS m0), hA.ow m0, ei37, (by first | assumption | (unfold I64; (try dsimp only); omega) | grind)⟩)) (fun k40 _ => ?_)
        obtain ⟨⟨a40_0, m40_0, c40_0⟩, ⟨a40_1, m40_1, c40_1⟩⟩ := k40
        refine Ent.lenow m0 fun e40_0 l40_0 => ?_
        subst e40_0
        refine Ent.lenow (mS m0) fun e40_1 l40_1 => ?_
        subst e40_1
        refine Ent.p4 ?_
        refine D.st 7 rfl rfl (by kernel_rfl) (fun h => by cases h) (N.sto (vs := [_, _]) (cs' := [_, _]) ty_Binding rfl rfl rfl rfl rfl (Nat.le_of_ble_eq_true rfl) rfl) (fun _ _ => ?_)
        refine D.done (by kernel_rfl) (E.thn (E.region (l := [0, 1, 2]) rfl (E.y rfl rfl (by decide) ((Y.mv rfl).yd) ?_)))
        refine E.y rfl rfl (by decide) ((Y.add rfl rfl (by omega) (by omega)).yd) ?_
        refine E.y rfl rfl (by decide) ((Y.as rfl).yd) ?_
        refine E.nil (E.bln (E.thn (E.region (l := [0, 1, 2]) rfl (E.y rfl rfl (by decide) ((Y.mv rfl).yd) ?_))))
        refine E.y rfl rfl (by decide) ((Y.add rfl rfl (by omega) (by omega)).yd) ?_
        refine E.y rfl rfl (by decide) ((Y.as rfl).yd) ?_
        refine E.nil (E.thn (Ent.p3 ?_))
        refine Ent.drop ?_
        refine Ent.p3 ?_
        refine Ent.drop ?_
        refine Ent.p1 ?_
        refine Ent.cv (congrArg (ow eIs [_]) (show ((termsF (fun t => inR t 10 17) q_Atoms).take g) ++ [((termsF (fun t => inR t 10 17) q_Atoms)[g])] = (termsF (fun t => inR t 10 17) q_Atoms).take (g + 1) from by grind [frzF_nil, frzF_snoc, frzV_zero, frzV_snoc, fzN, factO, List.drop_eq_getElem_cons, List.drop_eq_nil_of_le, List.take_succ_eq_append_getElem, List.take_of_length_le])) ?_
        refine Ent.p2 ?_
        refine Ent.cv (congrArg (ow eIs [_]) (show (frzV (termsF (fun t => inR t 0 9) q_Atoms) g) ++ [(↑(fzN (termsF (fun t => inR t 0 9) q_Atoms) g + k) : Int)] = frzV (termsF (fun t => inR t 0 9) q_Atoms) (g + 1) from by grind [frzF_nil, frzF_snoc, frzV_zero, frzV_snoc, fzN, factO, List.drop_eq_getElem_cons, List.drop_eq_nil_of_le, List.take_succ_eq_append_getElem, List.take_of_length_le])) ?_
        refine Ent.p4 ?_
        refine Ent.p4 ?_
        refine Ent.p4 ?_
        refine Ent.p4 ?_
        refine Ent.p4 ?_
        exact E.again (Back.refl _ _) (g + 1, a40_0, (((termsF (fun t => inR t 10 17) q_Atoms).take g) ++ [((termsF (fun t => inR t 10 17) q_Atoms)[g])]).length, c40_0, a40_1, ((frzV (termsF (fun t => inR t 0 9) q_Atoms) g) ++ [(↑(fzN (termsF (fun t => inR t 0 9) q_Atoms) g + k) : Int)]).length, c40_1) ⟨rfl, rfl, rfl, rfl, rfl, frI (by grind [frzF_nil, frzF_snoc, frzV_zero, frzV_snoc, fzN, factO, List.drop_eq_getElem_cons, List.drop_eq_nil_of_le, List.take_succ_eq_append_getElem, List.take_of_length_le]), rfl, trivial⟩ (.refl _) ⟨(show g + 1 ≤ (termsF (fun t => inR t 10 17) q_Atoms).length from by omega), (show ∀ i, i < (g + 1) → nextV (termsF (fun t => inR t 0 9) q_Atoms) (fzN (termsF (fun t => inR t 0 9) q_Atoms) i) ≤ 9 from by exact fz_step pa0 (by omega))⟩ (show (termsF (fun t => inR t 10 17) q_Atoms).length - (g + 1) < (termsF (fun t => inR t 10 17) q_Atoms).length - g from by omega)
  · have jfr := frzV_i64 pa
    have jb : fzB (termsF (fun t => inR t 0 9) q_Atoms) q_Atoms = true := frzOk_yes (fun i hi => pa i (by unfold varsF at hi; omega))
    have jg : g = (termsF (fun t => inR t 10 17) q_Atoms).length := by omega
    refine E.nil (E.thn (E.cf rfl (E.exit (E.the (E.the (E.blh (E.thn (E.seq (E.region (l := [0, 1]) rfl (E.st rfl rfl (N.bsl (pvs := []) (cs := []) us_Facts ty_Fact rfl (by decide) (by decide) (fillZ rfl rfl) rfl (by decide)) (fun b43 _ => ?_)))))))))))
    refine Ent.drop ?_
    refine E.y rfl rfl (by decide) ((Y.as rfl).yd) ?_
    refine E.nil (E.thn (E.seq (E.seq (E.region (l := [0]) rfl (E.y rfl rfl (by decide) ((Y.as rfl).yd) ?_)))))
    refine E.nil (E.thn (E.block (Ent.mkow (A := []) (Own.nil (E := eFact) (e := tFact) (a := (some ⟨b43, 0, none⟩))) rfl ?_)))
    refine Ent.cv (congrArg (ow eFacts [_]) (show [] = frzF (q_Atoms.take 0) ((termsF (fun t => inR t 10 17) q_Atoms).take g, frzV (termsF (fun t => inR t 0 9) q_Atoms) g) from by first | rfl | (simp; done) | grind [frzF_nil, frzF_snoc, frzV_zero, frzV_snoc, fzN, factO, List.drop_eq_getElem_cons, List.drop_eq_nil_of_le, List.take_succ_eq_append_getElem, List.take_of_length_le])) ?_
    refine E.loop (κ := Nat × Option Addr × Nat × Nat) (fun r => r.1 ≤ q_Atoms.length ∧ True) (fun r => [(1, .pointer (some ⟨b1, 0, none⟩)), (3, .pointer (some ⟨b3, 0, none⟩)), (7, .pointer (some ⟨b7, 0, none⟩)), (10, .slice r.2.1 r.2.2.1 r.2.2.2), (11, .int .i64 (↑r.1 : Int))]) (fun r => [ow eFacts [.slice r.2.1 r.2.2.1 r.2.2.2] (frzF (q_Atoms.take r.1) ((termsF (fun t => inR t 10 17) q_Atoms).take g, frzV (termsF (fun t => inR t 0 9) q_Atoms) g)), ow eIs [.slice aA0_2 (frzV (termsF (fun t => inR t 0 9) q_Atoms) g).length cA0_2] (frzV (termsF (fun t => inR t 0 9) q_Atoms) g), ow eIs [.slice aA0_1 ((termsF (fun t => inR t 10 17) q_Atoms).take g).length cA0_1] ((termsF (fun t => inR t 10 17) q_Atoms).take g), pt b7 80 [.slice aA0_1 ((termsF (fun t => inR t 10 17) q_Atoms).take g).length cA0_1, .slice aA0_2 (frzV (termsF (fun t => inR t 0 9) q_Atoms) g).length cA0_2], pt b3 80 [.slice none 0 0, .slice none 0 0], pt b1 31 [.slice a_q_Head q_Head.length c_q_Head, .slice a_q_Atoms q_Atoms.length c_q_Atoms]]) (fun r => q_Atoms.length - r.1) (0, (some ⟨b43, 0, none⟩), 0, 0) ⟨Nat.zero_le _, by simp⟩ ⟨rfl, rfl, rfl, rfl, rfl, trivial⟩ (.refl _) (fun r pr => ?_)
    obtain ⟨r, aA2_0, mA2_0, cA2_0⟩ := r
    try dsimp only at pr
    show Ent _ _ _ [(1, .pointer (some ⟨b1, 0, none⟩)), (3, .pointer (some ⟨b3, 0, none⟩)), (7, .pointer (some ⟨b7, 0, none⟩)), (10, .slice aA2_0 mA2_0 cA2_0), (11, .int .i64 (↑r : Int))] [ow eFacts [.slice aA2_0 mA2_0 cA2_0] (frzF (q_Atoms.take r) ((termsF (fun t => inR t 10 17) q_Atoms).take g, frzV (termsF (fun t => inR t 0 9) q_Atoms) g)), ow eIs [.slice aA0_2 (frzV (termsF (fun t => inR t 0 9) q_Atoms) g).length cA0_2] (frzV (termsF (fun t => inR t 0 9) q_Atoms) g), ow eIs [.slice aA0_1 ((termsF (fun t => inR t 10 17) q_Atoms).take g).length cA0_1] ((termsF (fun t => inR t 10 17) q_Atoms).take g), pt b7 80 [.slice aA0_1 ((termsF (fun t => inR t 10 17) q_Atoms).take g).length cA0_1, .slice aA0_2 (frzV (termsF (fun t => inR t 0 9) q_Atoms) g).length cA0_2], pt b3 80 [.slice none 0 0, .slice none 0 0], pt b1 31 [.slice a_q_Head q_Head.length c_q_Head, .slice a_q_Atoms q_Atoms.length c_q_Atoms]] _
    obtain ⟨pk, pa⟩ := pr
    have jo := frz_len (atoms := q_Atoms.take r) (b := ((termsF (fun t => inR t 10 17) q_Atoms).take g, frzV (termsF (fun t => inR t 0 9) q_Atoms) g))
    have jq := List.length_take_le r q_Atoms
    have jt := atoms_len hz
    have ju2 : q_Atoms.length ≤ 1048576 := by unfold totL at hz; omega
    refine Ent.lenow m0 fun eaA2_0 laA2_0 => ?_
    subst eaA2_0
    refine E.seq (E.seq (E.region (l := [0, 1, 2, 3, 4]) rfl (E.y rfl rfl (by decide) ((Y.mv rfl).yd) ?_)))
    refine E.y rfl rfl (by decide) ((Y.fld fo_Query_1 ty_Atoms (by decide) rfl).yd) ?_
    refine E.y rfl rfl (by decide) (Y.ld1 ty_Atoms rfl ((Has.pt (mS (mS (mS (mS (mS m0)))))).sub (cs' := [_]) 1 rfl) rfl) ?_
    refine E.y rfl rfl (by decide) ((Y.len us_Atoms rfl).yd) ?_
    refine E.y rfl rfl (by decide) ((Y.lss rfl rfl).yd) (Ent.d (fun q48 => ?_) (fun q48 => ?_))
    · refine E.nil (E.thn (E.ct rfl (E.skipc (E.thn (E.seq (E.block (E.seq (E.region (l := [0, 1, 2, 3, 4, 5, 6, 7, 8]) rfl (E.y rfl rfl (by decide) ((Y.fld fo_Query_1 ty_Atoms (by decide) rfl).yd) ?_)))))))))
      refine E.y rfl rfl (by decide) (Y.ld1 ty_Atoms rfl ((Has.pt (mS (mS (mS (mS (mS m0)))))).sub (cs' := [_]) 1 rfl) rfl) ?_
      refine E.y rfl rfl (by decide) ((Y.mv rfl).yd) ?_
      obtain ⟨eb54, eo54, ec54, ea54, er54, el54, eh54⟩ := hq_Atoms.elem r (by omega)
      obtain ⟨xa54_0, xc54_0, rfl, ei54_0, xh54_0⟩ := Ro.pAtom er54
      have := xh54_0.slen.2
      refine E.y rfl rfl (by decide) ((Y.ix us_Atoms ty_Atom rfl ea54 rfl r rfl (by omega)).yd) ?_
      refine E.y rfl rfl (by decide) ((Y.fld fo_Atom_0 ty_I (by decide) rfl).yd) ?_
      refine E.y rfl rfl (by decide) (Y.ld1 ty_I rfl ((eh54 _).sub (cs' := [_]) 0 rfl) rfl) ?_
      refine E.y rfl rfl (by decide) ((Y.bld (pvs := [_]) (cs := [_, _]) ty_Fact pl_Fact rfl rfl).yd) ?_
      refine E.st rfl rfl (N.alloc ty_Fact (by decide)) (fun b12 _ => ?_)
      refine E.st rfl rfl (N.sto (vs := [_, _]) (cs' := [_, _]) ty_Fact rfl rfl rfl rfl rfl (Nat.le_of_ble_eq_true rfl) rfl) (fun _ _ => ?_)
      refine E.nil (E.thn (E.seq (E.seq (E.region (l := [0]) rfl (E.y rfl rfl (by decide) ((Y.as rfl).yd) ?_)))))
      refine E.nil (E.thn (E.block (Ent.mkow (A := []) (Own.nil (E := Enc.int) (e := tI) (a := none)) rfl ?_)))
      refine Ent.cv (congrArg (ow eIs [_]) (show [] = (q_Atoms[r].2.take 0).map (valO ((termsF (fun t => inR t 10 17) q_Atoms).take g, frzV (termsF (fun t => inR t 0 9) q_Atoms) g)) from by first | rfl | (simp; done) | grind [frzF_nil, frzF_snoc, frzV_zero, frzV_snoc, fzN, factO, List.drop_eq_getElem_cons, List.drop_eq_nil_of_le, List.take_succ_eq_append_getElem, List.take_of_length_le])) ?_
      refine E.loop (κ := Nat × Option Addr × Nat × Nat) (fun h => h.1 ≤ q_Atoms[r].2.length ∧ True) (fun h => [(1, .pointer (some ⟨b1, 0, none⟩)), (3, .pointer (some ⟨b3, 0, none⟩)), (7, .pointer (some ⟨b7, 0, none⟩)), (10, .slice aA2_0 (frzF (q_Atoms.take r) ((termsF (fun t => inR t 10 17) q_Atoms).take g, frzV (termsF (fun t => inR t 0 9) q_Atoms) g)).length cA2_0), (11, .int .i64 (↑r : Int)), (12, .pointer (some ⟨b12, 0, none⟩)), (13, .int .i64 (↑h.1 : Int))]) (fun h => [ow eIs [.slice h.2.1 h.2.2.1 h.2.2.2] ((q_Atoms[r].2.take h.1).map (valO ((termsF (fun t => inR t 10 17) q_Atoms).take g, frzV (termsF (fun t => inR t 0 9) q_Atoms) g))), pt b12 95 [.int .i64 q_Atoms[r].1, .slice h.2.1 h.2.2.1 h.2.2.2], ow eFacts [.slice aA2_0 (frzF (q_Atoms.take r) ((termsF (fun t => inR t 10 17) q_Atoms).take g, frzV (termsF (fun t => inR t 0 9) q_Atoms) g)).length cA2_0] (frzF (q_Atoms.take r) ((termsF (fun t => inR t 10 17) q_Atoms).take g, frzV (termsF (fun t => inR t 0 9) q_Atoms) g)), ow eIs [.slice aA0_2 (frzV (termsF (fun t => inR t 0 9) q_Atoms) g).length cA0_2] (frzV (termsF (fun t => inR t 0 9) q_Atoms) g), ow eIs [.slice aA0_1 ((termsF (fun t => inR t 10 17) q_Atoms).take g).length cA0_1] ((termsF (fun t => inR t 10 17) q_Atoms).take g), pt b7 80 [.slice aA0_1 ((termsF (fun t => inR t 10 17) q_Atoms).take g).length cA0_1, .slice aA0_2 (frzV (termsF (fun t => inR t 0 9) q_Atoms) g).length cA0_2], pt b3 80 [.slice none 0 0, .slice none 0 0], pt b1 31 [.slice a_q_Head q_Head.length c_q_Head, .slice a_q_Atoms q_Atoms.length c_q_Atoms]]) (fun h => q_Atoms[r].2.length - h.1) (0, none, 0, 0) ⟨Nat.zero_le _, by simp⟩ ⟨rfl, rfl, rfl, rfl, rfl, rfl, rfl, trivial⟩ (.refl _) (fun h ph => ?_)
      obtain ⟨h, aA3_0, mA3_0, cA3_0⟩ := h
      try dsimp only at ph
      show Ent _ _ _ [(1, .pointer (some ⟨b1, 0, none⟩)), (3, .pointer (some ⟨b3, 0, none⟩)), (7, .pointer (some ⟨b7, 0, none⟩)), (10, .slice aA2_0 (frzF (q_Atoms.take r) ((termsF (fun t => inR t 10 17) q_Atoms).take g, frzV (termsF (fun t => inR t 0 9) q_Atoms) g)).length cA2_0), (11, .int .i64 (↑r : Int)), (12, .pointer (some ⟨b12, 0, none⟩)), (13, .int .i64 (↑h : Int))] [ow eIs [.slice aA3_0 mA3_0 cA3_0] ((q_Atoms[r].2.take h).map (valO ((termsF (fun t => inR t 10 17) q_Atoms).take g, frzV (termsF (fun t => inR t 0 9) q_Atoms) g))), pt b12 95 [.int .i64 q_Atoms[r].1, .slice aA3_0 mA3_0 cA3_0], ow eFacts [.slice aA2_0 (frzF (q_Atoms.take r) ((termsF (fun t => inR t 10 17) q_Atoms).take g, frzV (termsF (fun t => inR t 0 9) q_Atoms) g)).length cA2_0] (frzF (q_Atoms.take r) ((termsF (fun t => inR t 10 17) q_Atoms).take g, frzV (termsF (fun t => inR t 0 9) q_Atoms) g)), ow eIs [.slice aA0_2 (frzV (termsF (fun t => inR t 0 9) q_Atoms) g).length cA0_2] (frzV (termsF (fun t => inR t 0 9) q_Atoms) g), ow eIs [.slice aA0_1 ((termsF (fun t => inR t 10 17) q_Atoms).take g).length cA0_1] ((termsF (fun t => inR t 10 17) q_Atoms).take g), pt b7 80 [.slice aA0_1 ((termsF (fun t => inR t 10 17) q_Atoms).take g).length cA0_1, .slice aA0_2 (frzV (termsF (fun t => inR t 0 9) q_Atoms) g).length cA0_2], pt b3 80 [.slice none 0 0, .slice none 0 0], pt b1 31 [.slice a_q_Head q_Head.length c_q_Head, .slice a_q_Atoms q_Atoms.length c_q_Atoms]] _
      obtain ⟨pk, pa⟩ := ph
      have jt1 := jt q_Atoms[r] (List.getElem_mem (by omega))
      refine Ent.lenow m0 fun eaA3_0 laA3_0 => ?_
      subst eaA3_0
      refine E.seq (E.seq (E.region (l := [0, 1, 2, 3, 4, 5, 6, 7, 8]) rfl (E.y rfl rfl (by decide) ((Y.mv rfl).yd) ?_)))
      refine E.y rfl rfl (by decide) ((Y.fld fo_Query_1 ty_Atoms (by decide) rfl).yd) ?_
      refine E.y rfl rfl (by decide) (Y.ld1 ty_Atoms rfl ((Has.pt (mS (mS (mS (mS (mS (mS (mS m0)))))))).sub (cs' := [_]) 1 rfl) rfl) ?_
      refine E.y rfl rfl (by decide) ((Y.mv rfl).yd) ?_
      refine E.y rfl rfl (by decide) ((Y.ix us_Atoms ty_Atom rfl ea54 rfl r rfl (by omega)).yd) ?_
      refine E.y rfl rfl (by decide) ((Y.fld fo_Atom_1 ty_Is (by decide) rfl).yd) ?_
      refine E.y rfl rfl (by decide) (Y.ld1 ty_Is rfl ((eh54 _).sub (cs' := [_]) 1 rfl) rfl) ?_
      refine E.y rfl rfl (by decide) ((Y.len us_Is rfl).yd) ?_
      refine E.y rfl rfl (by decide) ((Y.lss rfl rfl).yd) (Ent.d (fun q66 => ?_) (fun q66 => ?_))
      · have jx := valO_i64 (b := ((termsF (fun t => inR t 10 17) q_Atoms).take g, frzV (termsF (fun t => inR t 0 9) q_Atoms) g)) ((jv q_Atoms[r] (List.getElem_mem (by omega))).2 q_Atoms[r].2[h] (List.getElem_mem (by omega))) jfr
        refine E.nil (E.thn (E.ct rfl (E.skipc (E.thn (E.seq (E.block (D.region (fun j => !(Nat.beq j 14) && !(Nat.beq j 16)) mixed (D.yp 0 rfl rfl (by decide) (Y.fld fo_Fact_1 ty_Is (by decide) rfl) (by kernel_rfl) ?_))))))))
        refine D.y 1 rfl rfl (by decide) (Y.ld1 ty_Is rfl ((Has.pt (mS m0)).sub (cs' := [_]) 1 rfl) rfl) (by kernel_rfl) ?_
        refine D.y 2 rfl rfl (by decide) (Y.ldS (cs := [_, _]) ty_Binding rfl (Has.pt (mS (mS (mS (mS (mS m0)))))) rfl) (by kernel_rfl) ?_
        refine D.yp 3 rfl rfl (by decide) (Y.fld fo_Query_1 ty_Atoms (by decide) rfl) (by kernel_rfl) ?_
        refine D.y 4 rfl rfl (by decide) (Y.ld1 ty_Atoms rfl ((Has.pt (mS (mS (mS (mS (mS (mS (mS m0)))))))).sub (cs' := [_]) 1 rfl) rfl) (by kernel_rfl) ?_
        refine D.yp 5 rfl rfl (by decide) (Y.mv rfl) (by kernel_rfl) ?_
        refine D.yp 6 rfl rfl (by decide) (Y.ix us_Atoms ty_Atom rfl ea54 rfl r rfl (by omega)) (by kernel_rfl) ?_
        refine D.yp 7 rfl rfl (by decide) (Y.fld fo_Atom_1 ty_Is (by decide) rfl) (by kernel_rfl) ?_
        refine D.y 8 rfl rfl (by decide) (Y.ld1 ty_Is rfl ((eh54 _).sub (cs' := [_]) 1 rfl) rfl) (by kernel_rfl) ?_
        refine D.yp 9 rfl rfl (by decide) (Y.mv rfl) (by kernel_rfl) ?_
        obtain ⟨eb79, eo79, ea79, ei79, eh79⟩ := xh54_0.elemI h (by omega)
        refine D.yp 10 rfl rfl (by decide) (Y.ix us_Is ty_I rfl ea79 rfl h rfl (by omega)) (by kernel_rfl) ?_
        refine D.y 11 rfl rfl (by decide) (Y.ld1 ty_I rfl (eh79 _) rfl) (by kernel_rfl) ?_
        refine D.st 12 rfl rfl (by kernel_rfl) (fun _ => rfl) (N.call0 t_spec_ValueOf rfl rfl rfl (by decide) (fun w Lp hA => ⟨hA.ow (mS (mS (mS (mS m0)))), hA.ow (mS (mS (mS m0)))⟩)) (fun _ _ => ?_)
        refine D.st 13 rfl rfl (by kernel_rfl) (fun _ => rfl) (N.bsl (pvs := [_]) (cs := [_]) us_Is ty_I rfl (by decide) (by decide) (fillZ rfl rfl) rfl (by decide)) (fun b82 _ => ?_)
        refine Ent.p1 ?_
        refine D.st 14 rfl rfl (by kernel_rfl) (fun h => by cases h) (N.push (E := Enc.int) (ex := valO (((termsF (fun t => inR t 10 17) q_Atoms).take g), (frzV (termsF (fun t => inR t 0 9) q_Atoms) g)) q_Atoms[r].2[h]) us_Is ty_I rfl rfl rfl (Own.int (by first | assumption | (unfold I64; (try dsimp only); omega) | grind)) rfl (by first | omega | (simp only [List.length_map, List.length_take, List.length_append, List.length_drop, List.length_cons, List.length_nil]; omega)) (by first | omega | (simp only [List.length_map, List.length_take, List.length_append, List.length_drop, List.length_cons, List.length_nil]; omega)) (by decide)) (fun p83 _ => ?_)
        refine D.yp 15 rfl rfl (by decide) (Y.fld fo_Fact_1 ty_Is (by decide) rfl) (by kernel_rfl) ?_
        refine Ent.p1 ?_
        refine D.st 16 rfl rfl (by kernel_rfl) (fun h => by cases h) (N.sto (vs := [_]) (cs' := [_, _]) ty_Is rfl rfl rfl rfl rfl (Nat.le_of_ble_eq_true rfl) rfl) (fun _ _ => ?_)
        refine D.done (by kernel_rfl) (E.bln (E.thn (E.region (l := [0, 1, 2]) rfl (E.y rfl rfl (by decide) ((Y.mv rfl).yd) ?_))))
        refine E.y rfl rfl (by decide) ((Y.add rfl rfl (by omega) (by omega)).yd) ?_
        refine E.y rfl rfl (by decide) ((Y.as rfl).yd) ?_
        refine E.nil (E.thn (Ent.p1 ?_))
        refine Ent.cv (congrArg (ow eIs [_]) (show ((q_Atoms[r].2.take h).map (valO ((termsF (fun t => inR t 10 17) q_Atoms).take g, frzV (termsF (fun t => inR t 0 9) q_Atoms) g))) ++ [valO (((termsF (fun t => inR t 10 17) q_Atoms).take g), (frzV (termsF (fun t => inR t 0 9) q_Atoms) g)) q_Atoms[r].2[h]] = (q_Atoms[r].2.take (h + 1)).map (valO ((termsF (fun t => inR t 10 17) q_Atoms).take g, frzV (termsF (fun t => inR t 0 9) q_Atoms) g)) from by grind [frzF_nil, frzF_snoc, frzV_zero, frzV_snoc, fzN, factO, List.drop_eq_getElem_cons, List.drop_eq_nil_of_le, List.take_succ_eq_append_getElem, List.take_of_length_le])) ?_
        refine Ent.p7 ?_
        refine Ent.p7 ?_
        refine Ent.p7 ?_
        refine Ent.p7 ?_
        refine Ent.p7 ?_
        refine Ent.p7 ?_
        refine Ent.p7 ?_
        refine Ent.p7 ?_
        exact E.again (Back.refl _ _) (h + 1, p83.1, (((q_Atoms[r].2.take h).map (valO ((termsF (fun t => inR t 10 17) q_Atoms).take g, frzV (termsF (fun t => inR t 0 9) q_Atoms) g))).length + 1), p83.2) ⟨rfl, rfl, rfl, rfl, rfl, rfl, rfl, trivial⟩ (.refl _) ⟨(show h + 1 ≤ q_Atoms[r].2.length from by omega), (show True from by grind [List.drop_eq_getElem_cons, List.drop_eq_nil_of_le, List.take_succ_eq_append_getElem, List.take_of_length_le])⟩ (show q_Atoms[r].2.length - (h + 1) < q_Atoms[r].2.length - h from by omega)
      · refine E.nil (E.thn (E.cf rfl (E.exit (E.the (E.the (E.blh (E.thn (E.region (l := [0, 1, 2, 3]) rfl (E.y rfl rfl (by decide) ((Y.mv rfl).yd) ?_)))))))))
        refine E.y rfl rfl (by decide) (Y.ldS (cs := [_, _]) ty_Fact rfl (Has.pt (mS m0)) rfl) ?_
        refine E.st rfl rfl (N.call (t_spec_AddFact (by omega) (frz_elt jt) (by simp only [List.length_map, List.length_take]; have := jt q_Atoms[r] (List.getElem_mem (by omega)); omega)) rfl rfl rfl (by decide) rfl (fun w Lp hA => ⟨hA.ow (mS (mS m0)), ei54_0, hA.ow m0⟩)) (fun k87 _ => ?_)
        obtain ⟨a87, m87, c87⟩ := k87
        refine Ent.lenow m0 fun e87 l87 => ?_
        subst e87
        refine E.y rfl rfl (by decide) ((Y.as rfl).yd) ?_
        refine E.nil (E.bln (E.thn (E.region (l := [0, 1, 2]) rfl (E.y rfl rfl (by decide) ((Y.mv rfl).yd) ?_))))
        refine E.y rfl rfl (by decide) ((Y.add rfl rfl (by omega) (by omega)).yd) ?_
        refine E.y rfl rfl (by decide) ((Y.as rfl).yd) ?_
        refine E.nil (E.thn (Ent.p1 ?_))
        refine Ent.drop ?_
        refine Ent.p1 ?_
        refine Ent.drop ?_
        refine Ent.p1 ?_
        refine Ent.drop ?_
        refine Ent.cv (congrArg (ow eFacts [_]) (show addF (frzF (q_Atoms.take r) ((termsF (fun t => inR t 10 17) q_Atoms).take g, frzV (termsF (fun t => inR t 0 9) q_Atoms) g)) (q_Atoms[r].1, ((q_Atoms[r].2.take h).map (valO ((termsF (fun t => inR t 10 17) q_Atoms).take g, frzV (termsF (fun t => inR t 0 9) q_Atoms) g)))) = frzF (q_Atoms.take (r + 1)) ((termsF (fun t => inR t 10 17) q_Atoms).take g, frzV (termsF (fun t => inR t 0 9) q_Atoms) g) from by grind [frzF_nil, frzF_snoc, frzV_zero, frzV_snoc, fzN, factO, List.drop_eq_getElem_cons, List.drop_eq_nil_of_le, List.take_succ_eq_append_getElem, List.take_of_length_le])) ?_
        refine Ent.p5 ?_
        refine Ent.p5 ?_
        refine Ent.p5 ?_
        refine Ent.p5 ?_
        refine Ent.p5 ?_
        refine Ent.p5 ?_
        exact E.again (Back.refl _ _) (r + 1, a87, (addF (frzF (q_Atoms.take r) ((termsF (fun t => inR t 10 17) q_Atoms).take g, frzV (termsF (fun t => inR t 0 9) q_Atoms) g)) (q_Atoms[r].1, ((q_Atoms[r].2.take h).map (valO ((termsF (fun t => inR t 10 17) q_Atoms).take g, frzV (termsF (fun t => inR t 0 9) q_Atoms) g))))).length, c87) ⟨rfl, rfl, rfl, rfl, rfl, trivial⟩ (.refl _) ⟨(show r + 1 ≤ q_Atoms.length from by omega), (show True from by grind [List.drop_eq_getElem_cons, List.drop_eq_nil_of_le, List.take_succ_eq_append_getElem, List.take_of_length_le])⟩ (show q_Atoms.length - (r + 1) < q_Atoms.length - r from by omega)
    · refine E.nil (E.thn (E.cf rfl (E.exit (E.the (E.the (E.blh (E.thn (E.seq (D.region (fun j => !(Nat.beq j 3)) mixed (D.yp 0 rfl rfl (by decide) (Y.mv rfl) (by kernel_rfl) ?_))))))))))
      refine D.y 1 rfl rfl (by decide) (Y.ldS (cs := [_, _]) ty_Binding rfl (Has.pt (mS (mS (mS m0)))) rfl) (by kernel_rfl) ?_
      refine D.yp 2 rfl rfl (by decide) (Y.as rfl) (by kernel_rfl) ?_
      refine Ent.p4 ?_
      refine D.st 3 rfl rfl (by kernel_rfl) (fun h => by cases h) (N.sto (vs := [_, _]) (cs' := [_, _]) ty_Binding rfl rfl rfl rfl rfl (Nat.le_of_ble_eq_true rfl) rfl) (fun _ _ => ?_)
      refine D.yp 4 rfl rfl (by decide) (Y.as rfl) (by kernel_rfl) ?_
      refine D.done (by kernel_rfl) (E.thn (E.ret (Ent.p2 ?_)))
      refine Ent.cv (congrArg (ow eIs [_]) (show _ = fzX (termsF (fun t => inR t 0 9) q_Atoms) q_Atoms by first | (simp only [fzF, fzV, fzX, jb, cond_false]; done) | (simp only [fzF, fzV, fzX, jb, cond_true]; unfold varsF; rw [← jg]; done) | (simp only [fzF, fzV, fzX, jb, cond_true]; unfold varsF; rw [← jg]; grind [List.take_of_length_le]) | (simp only [fzF, fzV, fzX, jb, cond_true]; unfold varsF; rw [jg]; grind [List.take_of_length_le]))) ?_
      refine Ent.p3 ?_
      refine Ent.cv (congrArg (ow eIs [_]) (show _ = fzV (termsF (fun t => inR t 0 9) q_Atoms) q_Atoms by first | (simp only [fzF, fzV, fzX, jb, cond_false]; done) | (simp only [fzF, fzV, fzX, jb, cond_true]; unfold varsF; rw [← jg]; done) | (simp only [fzF, fzV, fzX, jb, cond_true]; unfold varsF; rw [← jg]; grind [List.take_of_length_le]) | (simp only [fzF, fzV, fzX, jb, cond_true]; unfold varsF; rw [jg]; grind [List.take_of_length_le]))) ?_
      refine Ent.p3 ?_
      refine Ent.cv (congrArg (ow eFacts [_]) (show _ = fzF (termsF (fun t => inR t 0 9) q_Atoms) q_Atoms by first | (simp only [fzF, fzV, fzX, jb, cond_false]; done) | (simp only [fzF, fzV, fzX, jb, cond_true]; unfold varsF; rw [← jg]; done) | (simp only [fzF, fzV, fzX, jb, cond_true]; unfold varsF; rw [← jg]; grind [List.take_of_length_le]) | (simp only [fzF, fzV, fzX, jb, cond_true]; unfold varsF; rw [jg]; grind [List.take_of_length_le]))) ?_
      refine Ent.p2 ?_
      refine Ent.p2 ?_
      refine Ent.p2 ?_
      exact F.c3 (hB2.comp hB3) rfl rfl rfl rfl (mS (mS (mS m0))) ty_Binding rfl ((_, _, _), (_, _, _), (_, _, _)) trivial (by rw [show (fzB (termsF (fun t => inR t 0 9) q_Atoms) q_Atoms) = (true) from (by first | (simp only [fzF, fzV, fzX, jb, cond_false]; done) | (simp only [fzF, fzV, fzX, jb, cond_true]; unfold varsF; rw [← jg]; done) | (simp only [fzF, fzV, fzX, jb, cond_true]; unfold varsF; rw [← jg]; grind [List.take_of_length_le]) | (simp only [fzF, fzV, fzX, jb, cond_true]; unfold varsF; rw [jg]; grind [List.take_of_length_le]))]; try rfl) (J := _) (.refl _) (.inl rfl)
end Go.Proofs.YtlcfbfbdnnoifaaGreat
