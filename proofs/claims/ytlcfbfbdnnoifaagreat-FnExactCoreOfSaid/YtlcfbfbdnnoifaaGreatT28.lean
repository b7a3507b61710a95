import Derived.Test.YtlcfbfbdnnoifaaGreatT27
import Derived.Test.YtlcfbfbdnnoifaaGreatT24
import Derived.Test.YtlcfbfbdnnoifaaGreatDv
namespace Go.Proofs.YtlcfbfbdnnoifaaGreat
open Go.RowKit
set_option linter.unusedVariables false
set_option linter.unusedSimpArgs false
set_option maxHeartbeats 2000000
attribute [local irreducible] Nop Yd Yp Ent Has Tr FnP FnP2 Src listsF opnF opn1 opnR chainB
theorem t_impl_CoreOf {a_s : Option Addr} {m_s c_s : Nat} {s : List Int} {a_q_Head : Option Addr} {m_q_Head c_q_Head : Nat} {q_Head : List Int} {a_q_Atoms : Option Addr} {m_q_Atoms c_q_Atoms : Nat} {q_Atoms : List (Int × List Int)} (hqh : q_Head.length ≤ 1048576) (hz : totL (fun x => x.2.length) q_Atoms ≤ 1048576) : Tr Tryz.prog 49 [.slice a_s m_s c_s, .agg #[.slice a_q_Head m_q_Head c_q_Head, .slice a_q_Atoms m_q_Atoms c_q_Atoms]] (fun w L => Ro w L eIs [.slice a_s m_s c_s] s ∧ Ro w L eIs [.slice a_q_Head m_q_Head c_q_Head] q_Head ∧ Ro w L eAtoms [.slice a_q_Atoms m_q_Atoms c_q_Atoms] q_Atoms) [] (κ := (Option Addr × Nat × Nat) × (Option Addr × Nat × Nat)) (fun k => True) (fun k => .agg #[.slice k.1.1 k.1.2.1 k.1.2.2, .slice k.2.1 k.2.2.1 k.2.2.2]) (fun k => [ow eIs [.slice k.1.1 k.1.2.1 k.1.2.2] q_Head, ow eAtoms [.slice k.2.1 k.2.2.1 k.2.2.2] (coreR s q_Head q_Atoms)]) := by
  refine Tr.intro Tryz.func49 rfl (n := 31) rfl (by decide +kernel) (Nat.le_of_ble_eq_true rfl) (fr := [(0, .slice a_s m_s c_s), (1, .agg #[.slice a_q_Head m_q_Head c_q_Head, .slice a_q_Atoms m_q_Atoms c_q_Atoms])]) rfl fun w L hR => ?_
  obtain ⟨hs, hq_Head, hq_Atoms⟩ := hR
  obtain ⟨rfl, ls⟩ := hs.slen
  obtain ⟨rfl, lq_Head⟩ := hq_Head.slen
  obtain ⟨rfl, lq_Atoms⟩ := hq_Atoms.slen
  refine E.seq (E.region (l := [0, 1]) rfl (E.st rfl rfl (N.box (cs := [_, _]) rfl (by decide) rfl) (fun b3 _ => ?_)))
  refine E.st rfl rfl (N.alloc ty_Query (by decide)) (fun b4 _ => ?_)
  refine E.nil (E.thn (E.seq (E.region (l := [0, 1, 2, 3]) rfl (E.y rfl rfl (by decide) (Y.ldS (cs := [_, _]) ty_Query rfl (Has.pt (mS m0)) rfl) ?_))))
  refine E.st rfl rfl (N.call (t_impl_copyQuery (by first | omega | assumption) (by unfold totL at hz; omega) (atoms_len hz)) rfl rfl rfl (by decide) rfl (fun w Lp hA => ⟨hA.ro hq_Head, hA.ro hq_Atoms⟩)) (fun k9 _ => ?_)
  obtain ⟨⟨a9_0, m9_0, c9_0⟩, ⟨a9_1, m9_1, c9_1⟩⟩ := k9
  refine Ent.lenow m0 fun e9_0 l9_0 => ?_
  subst e9_0
  refine Ent.lenow (mS m0) fun e9_1 l9_1 => ?_
  subst e9_1
  refine E.st rfl rfl (N.alloc ty_Query (by decide)) (fun b5 _ => ?_)
  refine E.st rfl rfl (N.sto (vs := [_, _]) (cs' := [_, _]) ty_Query rfl rfl rfl rfl rfl (Nat.le_of_ble_eq_true rfl) rfl) (fun _ _ => ?_)
  refine E.nil (E.thn (E.seq (E.seq (E.region (l := [0, 1, 2, 3]) rfl (E.y rfl rfl (by decide) ((Y.mv rfl).yd) ?_)))))
  refine E.y rfl rfl (by decide) (Y.ldS (cs := [_, _]) ty_Query rfl (Has.pt (mS (mS (mS (mS m0))))) rfl) ?_
  refine E.st rfl rfl (N.call0 (t_impl_IsQuery hz) rfl rfl rfl (by decide) (fun w Lp hA => ⟨hA.ro hs, hA.ro hq_Head, hA.ro hq_Atoms⟩)) (fun _ _ => (Ent.b (fun q12 => ?_) (fun q12 => ?_)))
  · refine E.y rfl rfl (by decide) ((Y.not (b := true) rfl).yd) ?_
    refine E.nil (E.thn (E.cf rfl (E.skipc (E.thn (E.seq (E.seq (E.region (l := [0]) rfl (E.y rfl rfl (by decide) ((Y.as rfl).yd) ?_))))))))
    refine E.nil (E.thn (E.block (Ent.p2 ?_)))
    refine Ent.cv (congrArg (ow eAtoms [_]) (show q_Atoms = (coreN s q_Head q_Atoms 0).1 from by first | rfl | (simp; done) | grind [List.drop_eq_getElem_cons, List.drop_eq_nil_of_le, List.take_succ_eq_append_getElem, List.take_of_length_le])) ?_
    refine E.loop (κ := Nat × Option Addr × Nat × Nat × Option Addr × Nat × Nat) (fun g => g.1 ≤ q_Atoms.length ∧ coreI s q_Head q_Atoms g.1 ∧ (g.1 = 0 ∨ okQuery s (q_Head, q_Atoms) = true)) (fun g => [(0, .slice a_s s.length c_s), (4, .pointer (some ⟨b4, 0, none⟩)), (5, .pointer (some ⟨b5, 0, none⟩)), (6, .int .i64 (↑((coreN s q_Head q_Atoms g.1).2) : Int))]) (fun g => [ow eAtoms [.slice g.2.2.2.2.1 g.2.2.2.2.2.1 g.2.2.2.2.2.2] ((coreN s q_Head q_Atoms g.1).1), pt b5 31 [.slice g.2.1 g.2.2.1 g.2.2.2.1, .slice g.2.2.2.2.1 g.2.2.2.2.2.1 g.2.2.2.2.2.2], ow eIs [.slice g.2.1 g.2.2.1 g.2.2.2.1] q_Head, pt b4 31 [.slice none 0 0, .slice none 0 0], pt b3 31 [.slice a_q_Head q_Head.length c_q_Head, .slice a_q_Atoms q_Atoms.length c_q_Atoms]]) (fun g => q_Atoms.length - g.1) (0, a9_0, (q_Head).length, c9_0, a9_1, (q_Atoms).length, c9_1) ⟨Nat.zero_le _, by exact ⟨coreI_zero, .inl rfl⟩⟩ ⟨rfl, rfl, rfl, frI (by first | rfl | (simp; done) | grind [List.drop_eq_getElem_cons, List.drop_eq_nil_of_le, List.take_succ_eq_append_getElem, List.take_of_length_le]), trivial⟩ (.refl _) (fun g pg => ?_)
    obtain ⟨g, aA0_1, mA0_1, cA0_1, aA0_2, mA0_2, cA0_2⟩ := g
    try dsimp only at pg
    show Ent _ _ _ [(0, .slice a_s s.length c_s), (4, .pointer (some ⟨b4, 0, none⟩)), (5, .pointer (some ⟨b5, 0, none⟩)), (6, .int .i64 (↑((coreN s q_Head q_Atoms g).2) : Int))] [ow eAtoms [.slice aA0_2 mA0_2 cA0_2] ((coreN s q_Head q_Atoms g).1), pt b5 31 [.slice aA0_1 mA0_1 cA0_1, .slice aA0_2 mA0_2 cA0_2], ow eIs [.slice aA0_1 mA0_1 cA0_1] q_Head, pt b4 31 [.slice none 0 0, .slice none 0 0], pt b3 31 [.slice a_q_Head q_Head.length c_q_Head, .slice a_q_Atoms q_Atoms.length c_q_Atoms]] _
    obtain ⟨pk, pa⟩ := pg
    have pa0 := pa.1
    have jt := coreN_tot (s := s) (h := q_Head) (l := q_Atoms) (n := g)
    have jz := Nat.le_trans jt.1 hz
    have jo := pa0.2.1
    have jp := pa0.1
    refine Ent.lenow (mS (mS m0)) fun eaA0_1 laA0_1 => ?_
    subst eaA0_1
    refine Ent.lenow m0 fun eaA0_2 laA0_2 => ?_
    subst eaA0_2
    refine E.seq (E.seq (E.region (l := [0, 1, 2, 3, 4]) rfl (E.y rfl rfl (by decide) ((Y.mv rfl).yd) ?_)))
    refine E.y rfl rfl (by decide) ((Y.fld fo_Query_1 ty_Atoms (by decide) rfl).yd) ?_
    refine E.y rfl rfl (by decide) (Y.ld1 ty_Atoms rfl ((Has.pt (mS m0)).sub (cs' := [_]) 1 rfl) rfl) ?_
    refine E.y rfl rfl (by decide) ((Y.len us_Atoms rfl).yd) ?_
    refine E.y rfl rfl (by decide) ((Y.lss rfl rfl).yd) (Ent.d (fun q19 => ?_) (fun q19 => ?_))
    · refine E.nil (E.thn (E.ct rfl (E.skipc (E.thn (E.block (E.seq (E.region (l := [0, 1, 2, 3, 4]) rfl (E.y rfl rfl (by decide) (Y.ldS (cs := [_, _]) ty_Query rfl (Has.pt (mS m0)) rfl) ?_))))))))
      refine E.y rfl rfl (by decide) ((Y.mv rfl).yd) ?_
      refine E.st rfl rfl (N.call (t_impl_DropAtom hqh (by unfold totL at jz; omega) (atoms_len jz)) rfl rfl rfl (by decide) rfl (fun w Lp hA => ⟨hA.ow (mS (mS m0)), hA.ow m0⟩)) (fun k22 _ => ?_)
      obtain ⟨⟨a22_0, m22_0, c22_0⟩, ⟨a22_1, m22_1, c22_1⟩⟩ := k22
      refine Ent.lenow m0 fun e22_0 l22_0 => ?_
      subst e22_0
      refine Ent.lenow (mS m0) fun e22_1 l22_1 => ?_
      subst e22_1
      refine E.st rfl rfl (N.alloc ty_Query (by decide)) (fun b7 _ => ?_)
      refine E.st rfl rfl (N.sto (vs := [_, _]) (cs' := [_, _]) ty_Query rfl rfl rfl rfl rfl (Nat.le_of_ble_eq_true rfl) rfl) (fun _ _ => ?_)
      refine E.nil (E.thn (E.seq (E.region (l := [0, 1, 2, 3]) rfl (E.y rfl rfl (by decide) ((Y.mv rfl).yd) ?_))))
      refine E.y rfl rfl (by decide) (Y.ldS (cs := [_, _]) ty_Query rfl (Has.pt m0) rfl) ?_
      refine E.y rfl rfl (by decide) (Y.ldS (cs := [_, _]) ty_Query rfl (Has.pt (mS (mS (mS (mS m0))))) rfl) ?_
      refine E.st rfl rfl (N.call0 (t_impl_IsContained (Nat.le_trans dropA_tot2 (Nat.le_trans jt.1 hz)) (Nat.le_trans jt.1 hz)) rfl rfl rfl (by decide) (fun w Lp hA => ⟨hA.ro hs, hA.ow (mS m0), hA.ow (mS (mS m0)), hA.ow (mS (mS (mS (mS (mS m0))))), hA.ow (mS (mS (mS m0)))⟩)) (fun _ _ => (Ent.b (fun q26 => ?_) (fun q26 => ?_)))
      · have jc := coreN_yes (by omega) q26
        have jn := coreI_yes pa0 (by omega) q26
        refine E.nil (E.thn (E.ct rfl (E.region (l := [0, 1]) rfl (E.y rfl rfl (by decide) (Y.ldS (cs := [_, _]) ty_Query rfl (Has.pt m0) rfl) ?_))))
        refine Ent.p4 ?_
        refine E.st rfl rfl (N.sto (vs := [_, _]) (cs' := [_, _]) ty_Query rfl rfl rfl rfl rfl (Nat.le_of_ble_eq_true rfl) rfl) (fun _ _ => ?_)
        refine E.nil (E.bln (E.thn (Ent.p1 ?_)))
        refine Ent.drop ?_
        refine Ent.p3 ?_
        refine Ent.drop ?_
        refine Ent.p3 ?_
        refine Ent.drop ?_
        refine Ent.p2 ?_
        refine Ent.cv (congrArg (ow eAtoms [_]) (show dropA ((coreN s q_Head q_Atoms g).1) (↑((coreN s q_Head q_Atoms g).2) : Int) = (coreN s q_Head q_Atoms (g + 1)).1 from by first | (rw [jc]; done) | (rw [jc]; dsimp only; omega) | (simp only [jc]; omega))) ?_
        refine Ent.p4 ?_
        refine Ent.p4 ?_
        refine Ent.p4 ?_
        refine Ent.p4 ?_
        refine Ent.p4 ?_
        exact E.again (Back.refl _ _) (g + 1, a22_0, (q_Head).length, c22_0, a22_1, (dropA ((coreN s q_Head q_Atoms g).1) (↑((coreN s q_Head q_Atoms g).2) : Int)).length, c22_1) ⟨rfl, rfl, rfl, frI (by first | (rw [jc]; done) | (rw [jc]; dsimp only; omega) | (simp only [jc]; omega)), trivial⟩ (.refl _) ⟨(show g + 1 ≤ q_Atoms.length from by omega), (show coreI s q_Head q_Atoms (g + 1) ∧ ((g + 1) = 0 ∨ okQuery s (q_Head, q_Atoms) = true) from by exact ⟨jn, .inr (by assumption)⟩)⟩ (show q_Atoms.length - (g + 1) < q_Atoms.length - g from by omega)
      · have jc := coreN_no (by omega) q26
        have jn := coreI_no pa0 (by omega) q26
        refine E.nil (E.thn (E.cf rfl (E.region (l := [0, 1, 2]) rfl (E.y rfl rfl (by decide) ((Y.mv rfl).yd) ?_))))
        refine E.y rfl rfl (by decide) ((Y.add rfl rfl (by omega) (by omega)).yd) ?_
        refine E.y rfl rfl (by decide) ((Y.as rfl).yd) ?_
        refine E.nil (E.bln (E.thn (Ent.drop ?_)))
        refine Ent.drop ?_
        refine Ent.drop ?_
        refine Ent.cv (congrArg (ow eAtoms [_]) (show (coreN s q_Head q_Atoms g).1 = (coreN s q_Head q_Atoms (g + 1)).1 from by first | (rw [jc]; done) | (rw [jc]; dsimp only; omega) | (simp only [jc]; omega))) ?_
        refine Ent.p4 ?_
        refine Ent.p4 ?_
        refine Ent.p4 ?_
        refine Ent.p4 ?_
        refine Ent.p4 ?_
        exact E.again (Back.refl _ _) (g + 1, aA0_1, (q_Head).length, cA0_1, aA0_2, ((coreN s q_Head q_Atoms g).1).length, cA0_2) ⟨rfl, rfl, rfl, frI (by first | (rw [jc]; done) | (rw [jc]; dsimp only; omega) | (simp only [jc]; omega)), trivial⟩ (.refl _) ⟨(show g + 1 ≤ q_Atoms.length from by omega), (show coreI s q_Head q_Atoms (g + 1) ∧ ((g + 1) = 0 ∨ okQuery s (q_Head, q_Atoms) = true) from by exact ⟨jn, .inr (by assumption)⟩)⟩ (show q_Atoms.length - (g + 1) < q_Atoms.length - g from by omega)
    · refine E.nil (E.thn (E.cf rfl (E.exit (E.the (E.the (E.blh (E.thn (E.seq (E.region (l := [0, 1]) rfl (E.y rfl rfl (by decide) (Y.ldS (cs := [_, _]) ty_Query rfl (Has.pt (mS m0)) rfl) ?_))))))))))
      refine Ent.p3 ?_
      refine E.st rfl rfl (N.sto (vs := [_, _]) (cs' := [_, _]) ty_Query rfl rfl rfl rfl rfl (Nat.le_of_ble_eq_true rfl) rfl) (fun _ _ => ?_)
      refine E.nil (E.thn (E.ret (Ent.p1 ?_)))
      refine Ent.cv (congrArg (ow eAtoms [_]) (show _ = coreR s q_Head q_Atoms by exact core_done pa0 (by omega) q12)) ?_
      refine Ent.p3 ?_
      refine Ent.p1 ?_
      refine Ent.p1 ?_
      exact F.c1 (Back.refl _ _) rfl rfl (mS (mS m0)) ty_Query rfl ((_, _, _), (_, _, _)) trivial rfl (J := _) (.refl _) (.inl rfl)
  · refine E.y rfl rfl (by decide) ((Y.not (b := false) rfl).yd) ?_
    refine E.nil (E.thn (E.ct rfl (E.seq (E.region (l := [0, 1]) rfl (E.y rfl rfl (by decide) (Y.ldS (cs := [_, _]) ty_Query rfl (Has.pt m0) rfl) ?_)))))
    refine Ent.p3 ?_
    refine E.st rfl rfl (N.sto (vs := [_, _]) (cs' := [_, _]) ty_Query rfl rfl rfl rfl rfl (Nat.le_of_ble_eq_true rfl) rfl) (fun _ _ => ?_)
    refine E.nil (E.thn (E.ret (E.thr (Ent.p3 ?_))))
    refine Ent.cv (congrArg (ow eAtoms [_]) (show _ = coreR s q_Head q_Atoms by exact (core_bad q12).symm)) ?_
    refine Ent.p3 ?_
    refine Ent.p1 ?_
    refine Ent.p1 ?_
    exact F.c1 (Back.refl _ _) rfl rfl (mS (mS m0)) ty_Query rfl ((_, _, _), (_, _, _)) trivial rfl (J := _) (.refl _) (.inl rfl)
theorem t_spec_CoreOf {a_s : Option Addr} {m_s c_s : Nat} {s : List Int} {a_q_Head : Option Addr} {m_q_Head c_q_Head : Nat} {q_Head : List Int} {a_q_Atoms : Option Addr} {m_q_Atoms c_q_Atoms : Nat} {q_Atoms : List (Int × List Int)} (hqh : q_Head.length ≤ 1048576) (hz : totL (fun x => x.2.length) q_Atoms ≤ 1048576) : Tr Tryz.prog 48 [.slice a_s m_s c_s, .agg #[.slice a_q_Head m_q_Head c_q_Head, .slice a_q_Atoms m_q_Atoms c_q_Atoms]] (fun w L => Ro w L eIs [.slice a_s m_s c_s] s ∧ Ro w L eIs [.slice a_q_Head m_q_Head c_q_Head] q_Head ∧ Ro w L eAtoms [.slice a_q_Atoms m_q_Atoms c_q_Atoms] q_Atoms) [] (κ := (Option Addr × Nat × Nat) × (Option Addr × Nat × Nat)) (fun k => True) (fun k => .agg #[.slice k.1.1 k.1.2.1 k.1.2.2, .slice k.2.1 k.2.2.1 k.2.2.2]) (fun k => [ow eIs [.slice k.1.1 k.1.2.1 k.1.2.2] q_Head, ow eAtoms [.slice k.2.1 k.2.2.1 k.2.2.2] (coreR s q_Head q_Atoms)]) := by
  refine Tr.intro Tryz.func48 rfl (n := 36) rfl (by decide +kernel) (Nat.le_of_ble_eq_true rfl) (fr := [(0, .slice a_s m_s c_s), (1, .agg #[.slice a_q_Head m_q_Head c_q_Head, .slice a_q_Atoms m_q_Atoms c_q_Atoms])]) rfl fun w L hR => ?_
  obtain ⟨hs, hq_Head, hq_Atoms⟩ := hR
  obtain ⟨rfl, ls⟩ := hs.slen
  obtain ⟨rfl, lq_Head⟩ := hq_Head.slen
  obtain ⟨rfl, lq_Atoms⟩ := hq_Atoms.slen
  refine E.seq (E.region (l := [0, 1]) rfl (E.st rfl rfl (N.box (cs := [_, _]) rfl (by decide) rfl) (fun b3 _ => ?_)))
  refine E.st rfl rfl (N.alloc ty_Query (by decide)) (fun b4 _ => ?_)
  refine E.nil (E.thn (E.seq (E.region (l := [0, 1, 2, 3]) rfl (E.y rfl rfl (by decide) (Y.ldS (cs := [_, _]) ty_Query rfl (Has.pt (mS m0)) rfl) ?_))))
  refine E.st rfl rfl (N.call (t_spec_l3Copy (by first | omega | assumption) (by unfold totL at hz; omega) (atoms_len hz)) rfl rfl rfl (by decide) rfl (fun w Lp hA => ⟨hA.ro hq_Head, hA.ro hq_Atoms⟩)) (fun k9 _ => ?_)
  obtain ⟨⟨a9_0, m9_0, c9_0⟩, ⟨a9_1, m9_1, c9_1⟩⟩ := k9
  refine Ent.lenow m0 fun e9_0 l9_0 => ?_
  subst e9_0
  refine Ent.lenow (mS m0) fun e9_1 l9_1 => ?_
  subst e9_1
  refine E.st rfl rfl (N.alloc ty_Query (by decide)) (fun b5 _ => ?_)
  refine E.st rfl rfl (N.sto (vs := [_, _]) (cs' := [_, _]) ty_Query rfl rfl rfl rfl rfl (Nat.le_of_ble_eq_true rfl) rfl) (fun _ _ => ?_)
  refine E.nil (E.thn (E.seq (E.region (l := [0]) rfl (E.y rfl rfl (by decide) ((Y.as rfl).yd) ?_))))
  refine E.nil (E.thn (E.seq (E.block (Ent.p2 ?_))))
  refine Ent.cv (congrArg (ow eAtoms [_]) (show q_Atoms = (coreN s q_Head q_Atoms 0).1 from by first | rfl | (simp; done) | grind [List.drop_eq_getElem_cons, List.drop_eq_nil_of_le, List.take_succ_eq_append_getElem, List.take_of_length_le])) ?_
  refine E.loop (κ := Nat × Option Addr × Nat × Nat × Option Addr × Nat × Nat) (fun g => g.1 ≤ q_Atoms.length ∧ coreI s q_Head q_Atoms g.1 ∧ (g.1 = 0 ∨ okQuery s (q_Head, q_Atoms) = true)) (fun g => [(0, .slice a_s s.length c_s), (3, .pointer (some ⟨b3, 0, none⟩)), (4, .pointer (some ⟨b4, 0, none⟩)), (5, .pointer (some ⟨b5, 0, none⟩)), (6, .int .i64 (↑((coreN s q_Head q_Atoms g.1).2) : Int))]) (fun g => [ow eAtoms [.slice g.2.2.2.2.1 g.2.2.2.2.2.1 g.2.2.2.2.2.2] ((coreN s q_Head q_Atoms g.1).1), pt b5 31 [.slice g.2.1 g.2.2.1 g.2.2.2.1, .slice g.2.2.2.2.1 g.2.2.2.2.2.1 g.2.2.2.2.2.2], ow eIs [.slice g.2.1 g.2.2.1 g.2.2.2.1] q_Head, pt b4 31 [.slice none 0 0, .slice none 0 0], pt b3 31 [.slice a_q_Head q_Head.length c_q_Head, .slice a_q_Atoms q_Atoms.length c_q_Atoms]]) (fun g => q_Atoms.length - g.1) (0, a9_0, (q_Head).length, c9_0, a9_1, (q_Atoms).length, c9_1) ⟨Nat.zero_le _, by exact ⟨coreI_zero, .inl rfl⟩⟩ ⟨rfl, rfl, rfl, rfl, frI (by first | rfl | (simp; done) | grind [List.drop_eq_getElem_cons, List.drop_eq_nil_of_le, List.take_succ_eq_append_getElem, List.take_of_length_le]), trivial⟩ (.refl _) (fun g pg => ?_)
  obtain ⟨g, aA0_1, mA0_1, cA0_1, aA0_2, mA0_2, cA0_2⟩ := g
  try dsimp only at pg
  show Ent _ _ _ [(0, .slice a_s s.length c_s), (3, .pointer (some ⟨b3, 0, none⟩)), (4, .pointer (some ⟨b4, 0, none⟩)), (5, .pointer (some ⟨b5, 0, none⟩)), (6, .int .i64 (↑((coreN s q_Head q_Atoms g).2) : Int))] [ow eAtoms [.slice aA0_2 mA0_2 cA0_2] ((coreN s q_Head q_Atoms g).1), pt b5 31 [.slice aA0_1 mA0_1 cA0_1, .slice aA0_2 mA0_2 cA0_2], ow eIs [.slice aA0_1 mA0_1 cA0_1] q_Head, pt b4 31 [.slice none 0 0, .slice none 0 0], pt b3 31 [.slice a_q_Head q_Head.length c_q_Head, .slice a_q_Atoms q_Atoms.length c_q_Atoms]] _
  obtain ⟨pk, pa⟩ := pg
  have pa0 := pa.1
  have jt := coreN_tot (s := s) (h := q_Head) (l := q_Atoms) (n := g)
  have jz := Nat.le_trans jt.1 hz
  have jo := pa0.2.1
  have jp := pa0.1
  refine Ent.lenow (mS (mS m0)) fun eaA0_1 laA0_1 => ?_
  subst eaA0_1
  refine Ent.lenow m0 fun eaA0_2 laA0_2 => ?_
  subst eaA0_2
  refine E.seq (E.seq (E.region (l := [0, 1, 2, 3, 4, 5, 6, 7, 8, 9]) rfl (E.y rfl rfl (by decide) ((Y.mv rfl).yd) ?_)))
  refine E.y rfl rfl (by decide) ((Y.fld fo_Query_1 ty_Atoms (by decide) rfl).yd) ?_
  refine E.y rfl rfl (by decide) (Y.ld1 ty_Atoms rfl ((Has.pt (mS m0)).sub (cs' := [_]) 1 rfl) rfl) ?_
  refine E.y rfl rfl (by decide) ((Y.len us_Atoms rfl).yd) ?_
  refine E.y rfl rfl (by decide) ((Y.lss rfl rfl).yd) (Ent.d (fun q14 => ?_) (fun q14 => ?_))
  · refine E.y rfl rfl (by decide) ((Y.mv rfl).yd) ?_
    refine E.y rfl rfl (by decide) ((Y.mv rfl).yd) ?_
    refine E.y rfl rfl (by decide) (Y.ldS (cs := [_, _]) ty_Query rfl (Has.pt (mS (mS (mS (mS m0))))) rfl) ?_
    refine E.st rfl rfl (N.call0 (t_spec_IsQuery hz) rfl rfl rfl (by decide) (fun w Lp hA => ⟨hA.ro hs, hA.ro hq_Head, hA.ro hq_Atoms⟩)) (fun _ _ => (Ent.b (fun q18 => ?_) (fun q18 => ?_)))
    · refine E.y rfl rfl (by decide) ((Y.pkt rfl rfl).yd) ?_
      refine E.nil (E.thn (E.ct rfl (E.skipc (E.thn (E.block (E.seq (E.region (l := [0, 1, 2, 3, 4]) rfl (E.y rfl rfl (by decide) (Y.ldS (cs := [_, _]) ty_Query rfl (Has.pt (mS m0)) rfl) ?_))))))))
      refine E.y rfl rfl (by decide) ((Y.mv rfl).yd) ?_
      refine E.st rfl rfl (N.call (t_spec_DropAtom hqh (by unfold totL at jz; omega) (atoms_len jz)) rfl rfl rfl (by decide) rfl (fun w Lp hA => ⟨hA.ow (mS (mS m0)), hA.ow m0⟩)) (fun k22 _ => ?_)
      obtain ⟨⟨a22_0, m22_0, c22_0⟩, ⟨a22_1, m22_1, c22_1⟩⟩ := k22
      refine Ent.lenow m0 fun e22_0 l22_0 => ?_
      subst e22_0
      refine Ent.lenow (mS m0) fun e22_1 l22_1 => ?_
      subst e22_1
      refine E.st rfl rfl (N.alloc ty_Query (by decide)) (fun b7 _ => ?_)
      refine E.st rfl rfl (N.sto (vs := [_, _]) (cs' := [_, _]) ty_Query rfl rfl rfl rfl rfl (Nat.le_of_ble_eq_true rfl) rfl) (fun _ _ => ?_)
      refine E.nil (E.thn (E.seq (E.region (l := [0, 1, 2, 3, 4, 5, 6, 7, 8]) rfl (E.y rfl rfl (by decide) ((Y.mv rfl).yd) ?_))))
      refine E.y rfl rfl (by decide) (Y.ldS (cs := [_, _]) ty_Query rfl (Has.pt m0) rfl) ?_
      refine E.st rfl rfl (N.call0 (t_spec_IsQuery (Nat.le_trans dropA_tot2 (Nat.le_trans jt.1 hz))) rfl rfl rfl (by decide) (fun w Lp hA => ⟨hA.ro hs, hA.ow (mS m0), hA.ow (mS (mS m0))⟩)) (fun _ _ => (Ent.b (fun q25 => ?_) (fun q25 => ?_)))
      · refine E.y rfl rfl (by decide) ((Y.mv rfl).yd) ?_
        refine E.y rfl rfl (by decide) ((Y.mv rfl).yd) ?_
        refine E.y rfl rfl (by decide) (Y.ldS (cs := [_, _]) ty_Query rfl (Has.pt m0) rfl) ?_
        refine E.y rfl rfl (by decide) (Y.ldS (cs := [_, _]) ty_Query rfl (Has.pt (mS (mS (mS (mS m0))))) rfl) ?_
        refine E.st rfl rfl (N.call0 (t_spec_IsContained (Nat.le_trans dropA_tot2 (Nat.le_trans jt.1 hz)) (Nat.le_trans jt.1 hz)) rfl rfl rfl (by decide) (fun w Lp hA => ⟨hA.ro hs, hA.ow (mS m0), hA.ow (mS (mS m0)), hA.ow (mS (mS (mS (mS (mS m0))))), hA.ow (mS (mS (mS m0)))⟩)) (fun _ _ => (Ent.b (fun q30 => ?_) (fun q30 => ?_)))
        · have jc := coreN_yes (by omega) q30
          have jn := coreI_yes pa0 (by omega) q30
          refine E.y rfl rfl (by decide) ((Y.pkt rfl rfl).yd) ?_
          refine E.nil (E.thn (E.ct rfl (E.region (l := [0, 1]) rfl (E.y rfl rfl (by decide) (Y.ldS (cs := [_, _]) ty_Query rfl (Has.pt m0) rfl) ?_))))
          refine Ent.p4 ?_
          refine E.st rfl rfl (N.sto (vs := [_, _]) (cs' := [_, _]) ty_Query rfl rfl rfl rfl rfl (Nat.le_of_ble_eq_true rfl) rfl) (fun _ _ => ?_)
          refine E.nil (E.bln (E.thn (Ent.p1 ?_)))
          refine Ent.drop ?_
          refine Ent.p3 ?_
          refine Ent.drop ?_
          refine Ent.p3 ?_
          refine Ent.drop ?_
          refine Ent.p2 ?_
          refine Ent.cv (congrArg (ow eAtoms [_]) (show dropA ((coreN s q_Head q_Atoms g).1) (↑((coreN s q_Head q_Atoms g).2) : Int) = (coreN s q_Head q_Atoms (g + 1)).1 from by first | (rw [jc]; done) | (rw [jc]; dsimp only; omega) | (simp only [jc]; omega))) ?_
          refine Ent.p4 ?_
          refine Ent.p4 ?_
          refine Ent.p4 ?_
          refine Ent.p4 ?_
          refine Ent.p4 ?_
          exact E.again (Back.refl _ _) (g + 1, a22_0, (q_Head).length, c22_0, a22_1, (dropA ((coreN s q_Head q_Atoms g).1) (↑((coreN s q_Head q_Atoms g).2) : Int)).length, c22_1) ⟨rfl, rfl, rfl, rfl, frI (by first | (rw [jc]; done) | (rw [jc]; dsimp only; omega) | (simp only [jc]; omega)), trivial⟩ (.refl _) ⟨(show g + 1 ≤ q_Atoms.length from by omega), (show coreI s q_Head q_Atoms (g + 1) ∧ ((g + 1) = 0 ∨ okQuery s (q_Head, q_Atoms) = true) from by exact ⟨jn, .inr (by assumption)⟩)⟩ (show q_Atoms.length - (g + 1) < q_Atoms.length - g from by omega)
        · have jc := coreN_no (by omega) q30
          have jn := coreI_no pa0 (by omega) q30
          refine E.y rfl rfl (by decide) ((Y.pkt rfl rfl).yd) ?_
          refine E.nil (E.thn (E.cf rfl (E.region (l := [0, 1, 2]) rfl (E.y rfl rfl (by decide) ((Y.mv rfl).yd) ?_))))
          refine E.y rfl rfl (by decide) ((Y.add rfl rfl (by omega) (by omega)).yd) ?_
          refine E.y rfl rfl (by decide) ((Y.as rfl).yd) ?_
          refine E.nil (E.bln (E.thn (Ent.drop ?_)))
          refine Ent.drop ?_
          refine Ent.drop ?_
          refine Ent.cv (congrArg (ow eAtoms [_]) (show (coreN s q_Head q_Atoms g).1 = (coreN s q_Head q_Atoms (g + 1)).1 from by first | (rw [jc]; done) | (rw [jc]; dsimp only; omega) | (simp only [jc]; omega))) ?_
          refine Ent.p4 ?_
          refine Ent.p4 ?_
          refine Ent.p4 ?_
          refine Ent.p4 ?_
          refine Ent.p4 ?_
          exact E.again (Back.refl _ _) (g + 1, aA0_1, (q_Head).length, cA0_1, aA0_2, ((coreN s q_Head q_Atoms g).1).length, cA0_2) ⟨rfl, rfl, rfl, rfl, frI (by first | (rw [jc]; done) | (rw [jc]; dsimp only; omega) | (simp only [jc]; omega)), trivial⟩ (.refl _) ⟨(show g + 1 ≤ q_Atoms.length from by omega), (show coreI s q_Head q_Atoms (g + 1) ∧ ((g + 1) = 0 ∨ okQuery s (q_Head, q_Atoms) = true) from by exact ⟨jn, .inr (by assumption)⟩)⟩ (show q_Atoms.length - (g + 1) < q_Atoms.length - g from by omega)
      · have jd : conR s (q_Head, dropA (coreN s q_Head q_Atoms g).1 (coreN s q_Head q_Atoms g).2) (q_Head, (coreN s q_Head q_Atoms g).1) = false := by simp only [conR, q25, Bool.false_and]
        have jc := coreN_no (by omega) jd
        have jn := coreI_no pa0 (by omega) jd
        refine E.y rfl rfl (by decide) ((Y.mv rfl).yd) ?_
        refine E.skip rfl rfl rfl ?_
        refine E.skip rfl rfl rfl ?_
        refine E.skip rfl rfl rfl ?_
        refine E.skip rfl rfl rfl ?_
        refine E.y rfl rfl (by decide) ((Y.pkf rfl rfl).yd) ?_
        refine E.nil (E.thn (E.cf rfl (E.region (l := [0, 1, 2]) rfl (E.y rfl rfl (by decide) ((Y.mv rfl).yd) ?_))))
        refine E.y rfl rfl (by decide) ((Y.add rfl rfl (by omega) (by omega)).yd) ?_
        refine E.y rfl rfl (by decide) ((Y.as rfl).yd) ?_
        refine E.nil (E.bln (E.thn (Ent.drop ?_)))
        refine Ent.drop ?_
        refine Ent.drop ?_
        refine Ent.cv (congrArg (ow eAtoms [_]) (show (coreN s q_Head q_Atoms g).1 = (coreN s q_Head q_Atoms (g + 1)).1 from by first | (rw [jc]; done) | (rw [jc]; dsimp only; omega) | (simp only [jc]; omega))) ?_
        refine Ent.p4 ?_
        refine Ent.p4 ?_
        refine Ent.p4 ?_
        refine Ent.p4 ?_
        refine Ent.p4 ?_
        exact E.again (Back.refl _ _) (g + 1, aA0_1, (q_Head).length, cA0_1, aA0_2, ((coreN s q_Head q_Atoms g).1).length, cA0_2) ⟨rfl, rfl, rfl, rfl, frI (by first | (rw [jc]; done) | (rw [jc]; dsimp only; omega) | (simp only [jc]; omega)), trivial⟩ (.refl _) ⟨(show g + 1 ≤ q_Atoms.length from by omega), (show coreI s q_Head q_Atoms (g + 1) ∧ ((g + 1) = 0 ∨ okQuery s (q_Head, q_Atoms) = true) from by exact ⟨jn, .inr (by assumption)⟩)⟩ (show q_Atoms.length - (g + 1) < q_Atoms.length - g from by omega)
    · refine E.y rfl rfl (by decide) ((Y.pkt rfl rfl).yd) ?_
      refine E.nil (E.thn (E.cf rfl (E.exit (E.the (E.the (E.blh (E.thn (E.seq (E.region (l := [0, 1]) rfl (E.y rfl rfl (by decide) (Y.ldS (cs := [_, _]) ty_Query rfl (Has.pt (mS m0)) rfl) ?_))))))))))
      refine Ent.p3 ?_
      refine E.st rfl rfl (N.sto (vs := [_, _]) (cs' := [_, _]) ty_Query rfl rfl rfl rfl rfl (Nat.le_of_ble_eq_true rfl) rfl) (fun _ _ => ?_)
      refine E.nil (E.thn (E.ret (Ent.p1 ?_)))
      refine Ent.cv (congrArg (ow eAtoms [_]) (show _ = coreR s q_Head q_Atoms by (rcases pa.2 with h9 | h9; (subst h9; exact (core_bad q18).symm); (rw [q18] at h9; cases h9)))) ?_
      refine Ent.p3 ?_
      refine Ent.p1 ?_
      refine Ent.p1 ?_
      exact F.c1 (Back.refl _ _) rfl rfl (mS (mS m0)) ty_Query rfl ((_, _, _), (_, _, _)) trivial rfl (J := _) (.refl _) (.inl rfl)
  · refine E.y rfl rfl (by decide) ((Y.mv rfl).yd) ?_
    refine E.skip rfl rfl rfl ?_
    refine E.skip rfl rfl rfl ?_
    refine E.skip rfl rfl rfl ?_
    refine E.y rfl rfl (by decide) ((Y.pkf rfl rfl).yd) ?_
    refine E.nil (E.thn (E.cf rfl (E.exit (E.the (E.the (E.blh (E.thn (E.seq (E.region (l := [0, 1]) rfl (E.y rfl rfl (by decide) (Y.ldS (cs := [_, _]) ty_Query rfl (Has.pt (mS m0)) rfl) ?_))))))))))
    refine Ent.p3 ?_
    refine E.st rfl rfl (N.sto (vs := [_, _]) (cs' := [_, _]) ty_Query rfl rfl rfl rfl rfl (Nat.le_of_ble_eq_true rfl) rfl) (fun _ _ => ?_)
    refine E.nil (E.thn (E.ret (Ent.p1 ?_)))
    refine Ent.cv (congrArg (ow eAtoms [_]) (show _ = coreR s q_Head q_Atoms by (cases hq9 : okQuery s (q_Head, q_Atoms) with | false => (rcases pa.2 with h9 | h9; (subst h9; exact (core_bad hq9).symm); (rw [hq9] at h9; cases h9)) | true => exact core_done pa0 (by omega) hq9))) ?_
    refine Ent.p3 ?_
    refine Ent.p1 ?_
    refine Ent.p1 ?_
    exact F.c1 (Back.refl _ _) rfl rfl (mS (mS m0)) ty_Query rfl ((_, _, _), (_, _, _)) trivial rfl (J := _) (.refl _) (.inl rfl)
theorem t_laws_FnExactCoreOf {a_aS : Option Addr} {m_aS c_aS : Nat} {aS : List Int} {a_aQ_Head : Option Addr} {m_aQ_Head c_aQ_Head : Nat} {aQ_Head : List Int} {a_aQ_Atoms : Option Addr} {m_aQ_Atoms c_aQ_Atoms : Nat} {aQ_Atoms : List (Int × List Int)} : Tr Tryz.prog 10 [.slice a_aS m_aS c_aS, .agg #[.slice a_aQ_Head m_aQ_Head c_aQ_Head, .slice a_aQ_Atoms m_aQ_Atoms c_aQ_Atoms]] (fun w L => Ro w L eIs [.slice a_aS m_aS c_aS] aS ∧ Ro w L eIs [.slice a_aQ_Head m_aQ_Head c_aQ_Head] aQ_Head ∧ Ro w L eAtoms [.slice a_aQ_Atoms m_aQ_Atoms c_aQ_Atoms] aQ_Atoms) [] (κ := Unit) (fun k => True) (fun k => .bool (true)) (fun k => []) := by
  refine Tr.intro Tryz.func10 rfl (n := 90) rfl (by decide +kernel) (Nat.le_of_ble_eq_true rfl) (fr := [(0, .slice a_aS m_aS c_aS), (1, .agg #[.slice a_aQ_Head m_aQ_Head c_aQ_Head, .slice a_aQ_Atoms m_aQ_Atoms c_aQ_Atoms])]) rfl fun w L hR => ?_
  obtain ⟨haS, haQ_Head, haQ_Atoms⟩ := hR
  obtain ⟨rfl, laS⟩ := haS.slen
  obtain ⟨rfl, laQ_Head⟩ := haQ_Head.slen
  obtain ⟨rfl, laQ_Atoms⟩ := haQ_Atoms.slen
  have jb_aS := totS_I (l := aS)
  have jb_aQ_Head := totS_I (l := aQ_Head)
  have jb_aQ_Atoms := totS_lin (c := cE_Atom) (t := (fun x => x.2.length)) (n := 1) (fun x => by simp only [cE_Atom, totS_I]; omega) (l := aQ_Atoms)
  have jc_aQ_Atoms : totL (fun x => x.2.length) aQ_Atoms = aQ_Atoms.length + totS (fun x => x.2.length) aQ_Atoms := rfl
  have r1 := coreR_tot (s := aS) (h := aQ_Head) (l := aQ_Atoms)
  refine E.seq (E.region (l := [0, 1]) rfl (E.st rfl rfl (N.box (cs := [_, _]) rfl (by decide) rfl) (fun b3 _ => ?_)))
  refine E.y rfl rfl (by decide) ((Y.as rfl).yd) ?_
  refine E.nil (E.thn (E.seq (E.seq (E.region (l := [0, 1, 2]) rfl (E.y rfl rfl (by decide) ((Y.mv rfl).yd) ?_)))))
  refine E.y rfl rfl (by decide) ((Y.len us_Is rfl).yd) ?_
  refine E.y rfl rfl (by decide) ((Y.gtr rfl rfl).yd) (Ent.d (fun q16 => ?_) (fun q16 => ?_))
  · refine E.nil (E.thn (E.ct rfl (E.seq (E.region (l := [0]) rfl (E.y rfl rfl (by decide) ((Y.as rfl).yd) ?_)))))
    exact E.nil (E.thn (E.ret (E.thr (F.r1 (Back.refl _ _) rfl rfl () trivial rfl (J := _) (.refl _) (.inl rfl)))))
  · refine E.nil (E.thn (E.cf rfl (E.skipc (E.thn (E.seq (E.region (l := [0]) rfl (E.y rfl rfl (by decide) ((Y.as rfl).yd) ?_)))))))
    refine E.nil (E.thn (E.seq (E.region (l := [0, 1, 2, 3]) rfl (E.y rfl rfl (by decide) (Y.ldS (cs := [_, _]) ty_lQuery rfl (Has.pt m0) rfl) ?_))))
    refine E.y rfl rfl (by decide) ((Y.mv rfl).yd) ?_
    refine E.st rfl rfl (N.call0 t_laws_szQuery rfl rfl rfl (by decide) (fun w Lp hA => ⟨hA.ro haQ_Head, hA.ro haQ_Atoms, (by first | assumption | omega), (by first | assumption | omega)⟩)) (fun _ _ => ?_)
    refine E.y rfl rfl (by decide) ((Y.as rfl).yd) ?_
    refine E.nil (E.thn (E.seq (E.seq (E.region (l := [0, 1]) rfl (E.y rfl rfl (by decide) ((Y.mv rfl).yd) ?_)))))
    refine E.y rfl rfl (by decide) ((Y.lss rfl rfl).yd) (Ent.d (fun q21 => ?_) (fun q21 => ?_))
    · have z21 := szR_bad q21 (by omega)
      refine E.nil (E.thn (E.ct rfl (E.seq (E.region (l := [0]) rfl (E.y rfl rfl (by decide) ((Y.as rfl).yd) ?_)))))
      exact E.nil (E.thn (E.ret (E.thr (F.r1 (Back.refl _ _) rfl rfl () trivial rfl (J := _) (.refl _) (.inl rfl)))))
    · obtain ⟨z21, y21⟩ := szR_ok q21 (by omega)
      refine E.nil (E.thn (E.cf rfl (E.skipc (E.thn (E.seq (E.mid (κ := Nat × Option Addr × Nat × Option Addr × Nat) (fun _ => True) (fun kM => [(0, .slice a_aS aS.length c_aS), (3, .pointer (some ⟨b3, 0, none⟩)), (6, .pointer (some ⟨kM.1, 0, none⟩))]) (fun kM => [pt kM.1 31 [.slice kM.2.1 (aQ_Head).length kM.2.2.1, .slice kM.2.2.2.1 (coreR aS aQ_Head aQ_Atoms).length kM.2.2.2.2], ow eIs [.slice kM.2.1 (aQ_Head).length kM.2.2.1] aQ_Head, ow eAtoms [.slice kM.2.2.2.1 (coreR aS aQ_Head aQ_Atoms).length kM.2.2.2.2] (coreR aS aQ_Head aQ_Atoms), pt b3 25 [.slice a_aQ_Head aQ_Head.length c_aQ_Head, .slice a_aQ_Atoms aQ_Atoms.length c_aQ_Atoms]]) ?_ (fun kM _ => ?_)))))))
      · refine D.region (fun j => !(Nat.beq j 6)) mixed (D.yp 0 rfl rfl (by decide) (Y.mv rfl) (by kernel_rfl) ?_)
        refine D.y 2 rfl rfl (by decide) (Y.ldS (cs := [_, _]) ty_lQuery rfl (Has.pt m0) rfl) (by kernel_rfl) ?_
        refine D.ch2 (i := 1) (j := 5) (by kernel_rfl) ?_ ?_
        · refine D.pk 1 rfl rfl (fun _ => rfl) (N.call (t_laws_toIntS (by first | omega | assumption | (constructor <;> omega))) rfl rfl rfl (by decide) rfl (fun w Lp hA => hA.ro haS)) (fun k23 _ => ?_)
          obtain ⟨a23, m23, c23⟩ := k23
          refine Ent.lenow m0 fun e23 l23 => ?_
          subst e23
          refine D.ch2 (i := 3) (j := 5) (by kernel_rfl) ?_ ?_
          · refine D.pk 3 rfl rfl (fun _ => rfl) (N.call (t_laws_toQuery (by first | omega | assumption | (constructor <;> omega)) (by first | omega | assumption | (constructor <;> omega))) rfl rfl rfl (by decide) rfl (fun w Lp hA => ⟨hA.ro haQ_Head, hA.ro haQ_Atoms⟩)) (fun k25 _ => ?_)
            obtain ⟨⟨a25_0, m25_0, c25_0⟩, ⟨a25_1, m25_1, c25_1⟩⟩ := k25
            refine Ent.lenow m0 fun e25_0 l25_0 => ?_
            subst e25_0
            refine Ent.lenow (mS m0) fun e25_1 l25_1 => ?_
            subst e25_1
            refine D.ch2 (i := 4) (j := 5) (by kernel_rfl) ?_ ?_
            · refine D.pk 4 rfl rfl (fun _ => rfl) (N.call (t_spec_CoreOf (by first | omega | assumption | (constructor <;> omega)) (by first | omega | assumption | (constructor <;> omega))) rfl rfl rfl (by decide) rfl (fun w Lp hA => ⟨hA.ow (mS (mS m0)), hA.ow m0, hA.ow (mS m0)⟩)) (fun k26 _ => ?_)
              obtain ⟨⟨a26_0, m26_0, c26_0⟩, ⟨a26_1, m26_1, c26_1⟩⟩ := k26
              refine Ent.lenow m0 fun e26_0 l26_0 => ?_
              subst e26_0
              refine Ent.lenow (mS m0) fun e26_1 l26_1 => ?_
              subst e26_1
              refine D.st 5 rfl rfl (by kernel_rfl) (fun _ => rfl) (N.alloc ty_Query (by decide)) (fun b6 _ => ?_)
              refine D.st 6 rfl rfl (by kernel_rfl) (fun h => by cases h) (N.sto (vs := [_, _]) (cs' := [_, _]) ty_Query rfl rfl rfl rfl rfl (Nat.le_of_ble_eq_true rfl) rfl) (fun _ _ => ?_)
              refine D.done (by kernel_rfl) (Ent.p3 ?_)
              refine Ent.drop ?_
              refine Ent.p3 ?_
              refine Ent.drop ?_
              refine Ent.p3 ?_
              refine Ent.drop ?_
              refine Ent.p3 ?_
              refine Ent.p3 ?_
              refine Ent.p3 ?_
              refine Ent.p3 ?_
              exact E.mdn (b6, a26_0, c26_0, a26_1, c26_1) trivial ⟨rfl, rfl, rfl, trivial⟩ (.refl _)
            · refine D.pk 5 rfl rfl (fun _ => rfl) (N.alloc ty_Query (by decide)) (fun b6 _ => ?_)
              refine D.st 4 rfl rfl (by kernel_rfl) (fun _ => rfl) (N.call (t_spec_CoreOf (by first | omega | assumption | (constructor <;> omega)) (by first | omega | assumption | (constructor <;> omega))) rfl rfl rfl (by decide) rfl (fun w Lp hA => ⟨hA.ow (mS (mS (mS m0))), hA.ow (mS m0), hA.ow (mS (mS m0))⟩)) (fun k26 _ => ?_)
              obtain ⟨⟨a26_0, m26_0, c26_0⟩, ⟨a26_1, m26_1, c26_1⟩⟩ := k26
              refine Ent.lenow m0 fun e26_0 l26_0 => ?_
              subst e26_0
              refine Ent.lenow (mS m0) fun e26_1 l26_1 => ?_
              subst e26_1
              refine Ent.p2 ?_
              refine D.st 6 rfl rfl (by kernel_rfl) (fun h => by cases h) (N.sto (vs := [_, _]) (cs' := [_, _]) ty_Query rfl rfl rfl rfl rfl (Nat.le_of_ble_eq_true rfl) rfl) (fun _ _ => ?_)
              refine D.done (by kernel_rfl) (Ent.p3 ?_)
              refine Ent.drop ?_
              refine Ent.p3 ?_
              refine Ent.drop ?_
              refine Ent.p3 ?_
              refine Ent.drop ?_
              refine Ent.p3 ?_
              refine Ent.p3 ?_
              refine Ent.p3 ?_
              refine Ent.p3 ?_
              exact E.mdn (b6, a26_0, c26_0, a26_1, c26_1) trivial ⟨rfl, rfl, rfl, trivial⟩ (.refl _)
          · refine D.pk 5 rfl rfl (fun _ => rfl) (N.alloc ty_Query (by decide)) (fun b6 _ => ?_)
            refine D.st 3 rfl rfl (by kernel_rfl) (fun _ => rfl) (N.call (t_laws_toQuery (by first | omega | assumption | (constructor <;> omega)) (by first | omega | assumption | (constructor <;> omega))) rfl rfl rfl (by decide) rfl (fun w Lp hA => ⟨hA.ro haQ_Head, hA.ro haQ_Atoms⟩)) (fun k25 _ => ?_)
            obtain ⟨⟨a25_0, m25_0, c25_0⟩, ⟨a25_1, m25_1, c25_1⟩⟩ := k25
            refine Ent.lenow m0 fun e25_0 l25_0 => ?_
            subst e25_0
            refine Ent.lenow (mS m0) fun e25_1 l25_1 => ?_
            subst e25_1
            refine D.st 4 rfl rfl (by kernel_rfl) (fun _ => rfl) (N.call (t_spec_CoreOf (by first | omega | assumption | (constructor <;> omega)) (by first | omega | assumption | (constructor <;> omega))) rfl rfl rfl (by decide) rfl (fun w Lp hA => ⟨hA.ow (mS (mS (mS m0))), hA.ow m0, hA.ow (mS m0)⟩)) (fun k26 _ => ?_)
            obtain ⟨⟨a26_0, m26_0, c26_0⟩, ⟨a26_1, m26_1, c26_1⟩⟩ := k26
            refine Ent.lenow m0 fun e26_0 l26_0 => ?_
            subst e26_0
            refine Ent.lenow (mS m0) fun e26_1 l26_1 => ?_
            subst e26_1
            refine Ent.p4 ?_
            refine D.st 6 rfl rfl (by kernel_rfl) (fun h => by cases h) (N.sto (vs := [_, _]) (cs' := [_, _]) ty_Query rfl rfl rfl rfl rfl (Nat.le_of_ble_eq_true rfl) rfl) (fun _ _ => ?_)
            refine D.done (by kernel_rfl) (Ent.p3 ?_)
            refine Ent.drop ?_
            refine Ent.p3 ?_
            refine Ent.drop ?_
            refine Ent.p3 ?_
            refine Ent.drop ?_
            refine Ent.p3 ?_
            refine Ent.p3 ?_
            refine Ent.p3 ?_
            refine Ent.p3 ?_
            exact E.mdn (b6, a26_0, c26_0, a26_1, c26_1) trivial ⟨rfl, rfl, rfl, trivial⟩ (.refl _)
        · refine D.pk 5 rfl rfl (fun _ => rfl) (N.alloc ty_Query (by decide)) (fun b6 _ => ?_)
          refine D.st 1 rfl rfl (by kernel_rfl) (fun _ => rfl) (N.call (t_laws_toIntS (by first | omega | assumption | (constructor <;> omega))) rfl rfl rfl (by decide) rfl (fun w Lp hA => hA.ro haS)) (fun k23 _ => ?_)
          obtain ⟨a23, m23, c23⟩ := k23
          refine Ent.lenow m0 fun e23 l23 => ?_
          subst e23
          refine D.st 3 rfl rfl (by kernel_rfl) (fun _ => rfl) (N.call (t_laws_toQuery (by first | omega | assumption | (constructor <;> omega)) (by first | omega | assumption | (constructor <;> omega))) rfl rfl rfl (by decide) rfl (fun w Lp hA => ⟨hA.ro haQ_Head, hA.ro haQ_Atoms⟩)) (fun k25 _ => ?_)
          obtain ⟨⟨a25_0, m25_0, c25_0⟩, ⟨a25_1, m25_1, c25_1⟩⟩ := k25
          refine Ent.lenow m0 fun e25_0 l25_0 => ?_
          subst e25_0
          refine Ent.lenow (mS m0) fun e25_1 l25_1 => ?_
          subst e25_1
          refine D.st 4 rfl rfl (by kernel_rfl) (fun _ => rfl) (N.call (t_spec_CoreOf (by first | omega | assumption | (constructor <;> omega)) (by first | omega | assumption | (constructor <;> omega))) rfl rfl rfl (by decide) rfl (fun w Lp hA => ⟨hA.ow (mS (mS m0)), hA.ow m0, hA.ow (mS m0)⟩)) (fun k26 _ => ?_)
          obtain ⟨⟨a26_0, m26_0, c26_0⟩, ⟨a26_1, m26_1, c26_1⟩⟩ := k26
          refine Ent.lenow m0 fun e26_0 l26_0 => ?_
          subst e26_0
          refine Ent.lenow (mS m0) fun e26_1 l26_1 => ?_
          subst e26_1
          refine Ent.p5 ?_
          refine D.st 6 rfl rfl (by kernel_rfl) (fun h => by cases h) (N.sto (vs := [_, _]) (cs' := [_, _]) ty_Query rfl rfl rfl rfl rfl (Nat.le_of_ble_eq_true rfl) rfl) (fun _ _ => ?_)
          refine D.done (by kernel_rfl) (Ent.p3 ?_)
          refine Ent.drop ?_
          refine Ent.p3 ?_
          refine Ent.drop ?_
          refine Ent.p3 ?_
          refine Ent.drop ?_
          refine Ent.p3 ?_
          refine Ent.p3 ?_
          refine Ent.p3 ?_
          refine Ent.p3 ?_
          exact E.mdn (b6, a26_0, c26_0, a26_1, c26_1) trivial ⟨rfl, rfl, rfl, trivial⟩ (.refl _)
      · obtain ⟨b6, a26_0, c26_0, a26_1, c26_1⟩ := kM
        show Ent _ _ _ [(0, .slice a_aS aS.length c_aS), (3, .pointer (some ⟨b3, 0, none⟩)), (6, .pointer (some ⟨b6, 0, none⟩))] [pt b6 31 [.slice a26_0 (aQ_Head).length c26_0, .slice a26_1 (coreR aS aQ_Head aQ_Atoms).length c26_1], ow eIs [.slice a26_0 (aQ_Head).length c26_0] aQ_Head, ow eAtoms [.slice a26_1 (coreR aS aQ_Head aQ_Atoms).length c26_1] (coreR aS aQ_Head aQ_Atoms), pt b3 25 [.slice a_aQ_Head aQ_Head.length c_aQ_Head, .slice a_aQ_Atoms aQ_Atoms.length c_aQ_Atoms]] _
        refine E.thn (E.seq (E.region (l := [0, 1, 2]) rfl (E.y rfl rfl (by decide) ((Y.mv rfl).yd) ?_)))
        refine E.st rfl rfl (N.call (t_laws_toIntS (by first | omega | assumption | (constructor <;> omega))) rfl rfl rfl (by decide) rfl (fun w Lp hA => hA.ro haS)) (fun k28 _ => ?_)
        obtain ⟨a28, m28, c28⟩ := k28
        refine Ent.lenow m0 fun e28 l28 => ?_
        subst e28
        refine E.y rfl rfl (by decide) ((Y.as rfl).yd) ?_
        refine E.nil (E.thn (E.seq (E.region (l := [0, 1, 2, 3]) rfl (E.y rfl rfl (by decide) (Y.ldS (cs := [_, _]) ty_lQuery rfl (Has.pt (mS (mS (mS (mS m0))))) rfl) ?_))))
        refine E.st rfl rfl (N.call (t_laws_toQuery (by first | omega | assumption | (constructor <;> omega)) (by first | omega | assumption | (constructor <;> omega))) rfl rfl rfl (by decide) rfl (fun w Lp hA => ⟨hA.ro haQ_Head, hA.ro haQ_Atoms⟩)) (fun k30 _ => ?_)
        obtain ⟨⟨a30_0, m30_0, c30_0⟩, ⟨a30_1, m30_1, c30_1⟩⟩ := k30
        refine Ent.lenow m0 fun e30_0 l30_0 => ?_
        subst e30_0
        refine Ent.lenow (mS m0) fun e30_1 l30_1 => ?_
        subst e30_1
        refine E.st rfl rfl (N.alloc ty_Query (by decide)) (fun b8 _ => ?_)
        refine E.st rfl rfl (N.sto (vs := [_, _]) (cs' := [_, _]) ty_Query rfl rfl rfl rfl rfl (Nat.le_of_ble_eq_true rfl) rfl) (fun _ _ => ?_)
        refine E.nil (E.thn (E.seq (E.region (l := [0, 1, 2, 3, 4]) rfl (E.y rfl rfl (by decide) ((Y.mv rfl).yd) ?_))))
        refine E.y rfl rfl (by decide) (Y.ldS (cs := [_, _]) ty_Query rfl (Has.pt m0) rfl) ?_
        refine E.st rfl rfl (N.call (t_impl_CoreOf (by first | omega | assumption | (constructor <;> omega)) (by first | omega | assumption | (constructor <;> omega))) rfl rfl rfl (by decide) rfl (fun w Lp hA => ⟨hA.ow (mS (mS (mS m0))), hA.ow (mS m0), hA.ow (mS (mS m0))⟩)) (fun k33 _ => ?_)
        obtain ⟨⟨a33_0, m33_0, c33_0⟩, ⟨a33_1, m33_1, c33_1⟩⟩ := k33
        refine Ent.lenow m0 fun e33_0 l33_0 => ?_
        subst e33_0
        refine Ent.lenow (mS m0) fun e33_1 l33_1 => ?_
        subst e33_1
        refine E.st rfl rfl (N.alloc ty_Query (by decide)) (fun b9 _ => ?_)
        refine E.st rfl rfl (N.sto (vs := [_, _]) (cs' := [_, _]) ty_Query rfl rfl rfl rfl rfl (Nat.le_of_ble_eq_true rfl) rfl) (fun _ _ => ?_)
        refine E.nil (E.thn (E.seq (E.seq (E.region (l := [0, 1, 2, 3]) rfl (E.y rfl rfl (by decide) (Y.ldS (cs := [_, _]) ty_Query rfl (Has.pt m0) rfl) ?_)))))
        refine E.y rfl rfl (by decide) (Y.ldS (cs := [_, _]) ty_Query rfl (Has.pt (mS (mS (mS (mS (mS (mS (mS m0)))))))) rfl) ?_
        refine E.st rfl rfl (N.call0 t_laws_eqQuery rfl rfl rfl (by decide) (fun w Lp hA => ⟨hA.ow (mS m0), hA.ow (mS (mS m0)), hA.ow (mS (mS (mS (mS (mS (mS (mS (mS m0)))))))), hA.ow (mS (mS (mS (mS (mS (mS (mS (mS (mS m0)))))))))⟩)) (fun _ _ => (Ent.b (fun q36 => ?_) (fun q36 => ?_)))
        · refine E.y rfl rfl (by decide) ((Y.not (b := true) rfl).yd) ?_
          refine E.nil (E.thn (E.cf rfl (E.skipc (E.thn (E.seq (E.seq (E.region (l := [0, 1, 2, 3, 4]) rfl (E.y rfl rfl (by decide) ((Y.mv rfl).yd) ?_))))))))
          refine E.y rfl rfl (by decide) ((Y.mv rfl).yd) ?_
          refine E.st rfl rfl (N.call (t_laws_toIntS (by first | omega | assumption | (constructor <;> omega))) rfl rfl rfl (by decide) rfl (fun w Lp hA => hA.ro haS)) (fun k40 _ => ?_)
          obtain ⟨a40, m40, c40⟩ := k40
          refine Ent.lenow m0 fun e40 l40 => ?_
          subst e40
          refine E.st rfl rfl (N.call0 t_laws_eqIntS rfl rfl rfl (by decide) (fun w Lp hA => ⟨hA.ow (mS (mS (mS (mS (mS (mS (mS m0))))))), hA.ow m0⟩)) (fun _ _ => (Ent.b (fun q41 => ?_) (fun q41 => ?_)))
          · refine E.y rfl rfl (by decide) ((Y.not (b := true) rfl).yd) ?_
            refine E.nil (E.thn (E.cf rfl (E.skipc (E.thn (E.seq (E.seq (D.region (fun j => true) mixed (D.y 0 rfl rfl (by decide) (Y.ldS (cs := [_, _]) ty_Query rfl (Has.pt (mS (mS (mS (mS m0))))) rfl) (by kernel_rfl) ?_))))))))
            refine D.y 1 rfl rfl (by decide) (Y.ldS (cs := [_, _]) ty_lQuery rfl (Has.pt (mS (mS (mS (mS (mS (mS (mS (mS (mS (mS (mS m0)))))))))))) rfl) (by kernel_rfl) ?_
            refine D.st 2 rfl rfl (by kernel_rfl) (fun _ => rfl) (N.call (t_laws_toQuery (by first | omega | assumption | (constructor <;> omega)) (by first | omega | assumption | (constructor <;> omega))) rfl rfl rfl (by decide) rfl (fun w Lp hA => ⟨hA.ro haQ_Head, hA.ro haQ_Atoms⟩)) (fun k45 _ => ?_)
            obtain ⟨⟨a45_0, m45_0, c45_0⟩, ⟨a45_1, m45_1, c45_1⟩⟩ := k45
            refine Ent.lenow m0 fun e45_0 l45_0 => ?_
            subst e45_0
            refine Ent.lenow (mS m0) fun e45_1 l45_1 => ?_
            subst e45_1
            refine D.st 3 rfl rfl (by kernel_rfl) (fun _ => rfl) (N.call0 t_laws_eqQuery rfl rfl rfl (by decide) (fun w Lp hA => ⟨hA.ow (mS (mS (mS (mS (mS (mS (mS m0))))))), hA.ow (mS (mS (mS (mS (mS (mS (mS (mS m0)))))))), hA.ow m0, hA.ow (mS m0)⟩)) (fun _ _ => (Ent.b (fun q46 => ?_) (fun q46 => ?_)))
            · refine D.yp 4 rfl rfl (by decide) (Y.not (b := true) rfl) (by kernel_rfl) ?_
              refine D.done (by kernel_rfl) (E.thn (E.cf rfl (E.skipc (E.thn (E.seq (E.region (l := [0]) rfl (E.y rfl rfl (by decide) ((Y.as rfl).yd) ?_)))))))
              refine E.nil (E.thn (E.seq (E.region (l := [0, 1, 2, 3]) rfl (E.y rfl rfl (by decide) ((Y.mv rfl).yd) ?_))))
              refine E.y rfl rfl (by decide) ((Y.mv rfl).yd) ?_
              refine Ent.p9 ?_
              refine E.st rfl rfl (N.call (pre := [_]) t_laws_markIntS rfl rfl rfl (by decide) rfl (fun w Lp hA => ⟨(by first | assumption | omega), (by first | assumption | omega)⟩)) (fun _ _ => ?_)
              refine E.y rfl rfl (by decide) ((Y.as rfl).yd) ?_
              refine E.nil (E.thn (E.seq (E.region (l := [0, 1, 2, 3]) rfl (E.y rfl rfl (by decide) (Y.ldS (cs := [_, _]) ty_Query rfl (Has.pt (mS (mS (mS (mS (mS (mS (mS m0)))))))) rfl) ?_))))
              refine E.y rfl rfl (by decide) ((Y.mv rfl).yd) ?_
              refine Ent.p9 ?_
              refine Ent.p9 ?_
              refine E.st rfl rfl (N.call (pre := [_, _]) t_laws_markQuery rfl rfl rfl (by decide) rfl (fun w Lp hA => ⟨(by first | assumption | omega), (by first | assumption | omega)⟩)) (fun _ _ => ?_)
              refine E.y rfl rfl (by decide) ((Y.as rfl).yd) ?_
              refine E.nil (E.thn (E.seq (E.seq (E.region (l := [0, 1, 2, 3, 4, 5, 6, 7]) rfl (E.y rfl rfl (by decide) ((Y.mv rfl).yd) ?_)))))
              refine E.y rfl rfl (by decide) ((Y.lss rfl rfl).yd) (Ent.d (fun q55 => ?_) (fun q55 => ?_))
              · exact absurd q55 (by omega)
              · refine E.y rfl rfl (by decide) ((Y.mv rfl).yd) ?_
                refine E.y rfl rfl (by decide) (Y.ldS (cs := [_, _]) ty_Query rfl (Has.pt (mS (mS (mS (mS (mS (mS m0))))))) rfl) ?_
                refine E.y rfl rfl (by decide) (Y.ldS (cs := [_, _]) ty_Query rfl (Has.pt (mS (mS (mS (mS (mS (mS (mS (mS (mS (mS m0))))))))))) rfl) ?_
                refine E.st rfl rfl (N.call0 t_laws_eqQuery rfl rfl rfl (by decide) (fun w Lp hA => ⟨hA.ow (mS (mS (mS (mS (mS (mS (mS m0))))))), hA.ow (mS (mS (mS (mS (mS (mS (mS (mS m0)))))))), hA.ow (mS (mS (mS (mS (mS (mS (mS (mS (mS (mS (mS m0))))))))))), hA.ow (mS (mS (mS (mS (mS (mS (mS (mS (mS (mS (mS (mS m0))))))))))))⟩)) (fun _ _ => (Ent.b (fun q59 => ?_) (fun q59 => ?_)))
                · refine E.y rfl rfl (by decide) ((Y.not (b := true) rfl).yd) ?_
                  refine E.y rfl rfl (by decide) ((Y.pkf rfl rfl).yd) ?_
                  refine E.nil (E.thn (E.cf rfl (E.skipc (E.thn (E.seq (E.region (l := [0]) rfl (E.y rfl rfl (by decide) ((Y.as rfl).yd) ?_)))))))
                  refine E.nil (E.thn (E.seq (E.region (l := [0, 1, 2, 3]) rfl (E.y rfl rfl (by decide) (Y.ldS (cs := [_, _]) ty_Query rfl (Has.pt (mS (mS (mS (mS (mS (mS m0))))))) rfl) ?_))))
                  refine E.y rfl rfl (by decide) ((Y.mv rfl).yd) ?_
                  refine Ent.p8 ?_
                  refine Ent.p8 ?_
                  refine E.st rfl rfl (N.call (pre := [_, _]) t_laws_markQuery rfl rfl rfl (by decide) rfl (fun w Lp hA => ⟨(by first | assumption | omega), (by first | assumption | omega)⟩)) (fun _ _ => ?_)
                  refine E.y rfl rfl (by decide) ((Y.as rfl).yd) ?_
                  refine E.nil (E.thn (E.seq (E.region (l := [0]) rfl (E.y rfl rfl (by decide) ((Y.as rfl).yd) ?_))))
                  refine E.nil (E.thn (E.seq (E.region (l := [0, 1, 2, 3]) rfl (E.y rfl rfl (by decide) (Y.ldS (cs := [_, _]) ty_Query rfl (Has.pt (mS (mS (mS (mS (mS (mS (mS (mS m0))))))))) rfl) ?_))))
                  refine E.y rfl rfl (by decide) ((Y.mv rfl).yd) ?_
                  refine E.st rfl rfl (N.call0 (t_laws_heldQuery (by first | exact mkL_mk cm_I mm_I | (simp only [mkL_c cm_I, mkL_c cm_Is, mkL_c cm_Fact, mkL_c cm_Facts, mkL_c cm_Atom, mkL_c cm_Atoms, mkL_c cm_Access, mkL_c cm_Accesss, mkL_c cm_Step, mkL_c cm_Steps, mkL_c cm_Query, mkL_c cm_Querys, mkL_c cm_Binding, mkL_c cm_Bindings, mkL_c cm_Method, mkL_c cm_Methods, mkL_c cm_Rule, mkL_c cm_Rules, mkL_c cm_Line, mkL_c cm_Lines]; exact mkL_mk cm_I mm_I)) (by first | exact mkL_mk cm_Atom mm_Atom | (simp only [mkL_c cm_I, mkL_c cm_Is, mkL_c cm_Fact, mkL_c cm_Facts, mkL_c cm_Atom, mkL_c cm_Atoms, mkL_c cm_Access, mkL_c cm_Accesss, mkL_c cm_Step, mkL_c cm_Steps, mkL_c cm_Query, mkL_c cm_Querys, mkL_c cm_Binding, mkL_c cm_Bindings, mkL_c cm_Method, mkL_c cm_Methods, mkL_c cm_Rule, mkL_c cm_Rules, mkL_c cm_Line, mkL_c cm_Lines]; exact mkL_mk cm_Atom mm_Atom))) rfl rfl rfl (by decide) (fun w Lp hA => ⟨hA.ow m0, hA.ow (mS m0), (by (try simp only [mkL_c cm_I, mkL_c cm_Is, mkL_c cm_Fact, mkL_c cm_Facts, mkL_c cm_Atom, mkL_c cm_Atoms, mkL_c cm_Access, mkL_c cm_Accesss, mkL_c cm_Step, mkL_c cm_Steps, mkL_c cm_Query, mkL_c cm_Querys, mkL_c cm_Binding, mkL_c cm_Bindings, mkL_c cm_Method, mkL_c cm_Methods, mkL_c cm_Rule, mkL_c cm_Rules, mkL_c cm_Line, mkL_c cm_Lines]); omega), (by (try simp only [mkL_c cm_I, mkL_c cm_Is, mkL_c cm_Fact, mkL_c cm_Facts, mkL_c cm_Atom, mkL_c cm_Atoms, mkL_c cm_Access, mkL_c cm_Accesss, mkL_c cm_Step, mkL_c cm_Steps, mkL_c cm_Query, mkL_c cm_Querys, mkL_c cm_Binding, mkL_c cm_Bindings, mkL_c cm_Method, mkL_c cm_Methods, mkL_c cm_Rule, mkL_c cm_Rules, mkL_c cm_Line, mkL_c cm_Lines]); omega)⟩)) (fun _ _ => ?_)
                  refine E.y rfl rfl (by decide) ((Y.as rfl).yd) ?_
                  refine E.nil (E.thn (E.seq (E.seq (E.region (l := [0, 1]) rfl (E.y rfl rfl (by decide) ((Y.mv rfl).yd) ?_)))))
                  refine E.y rfl rfl (by decide) ((Y.lss rfl rfl).yd) (Ent.d (fun q69 => ?_) (fun q69 => ?_))
                  · exact absurd q69 (by omega)
                  · refine E.nil (E.thn (E.cf rfl (E.skipc (E.thn (E.seq (E.seq (E.region (l := [0, 1, 2]) rfl (E.y rfl rfl (by decide) ((Y.mv rfl).yd) ?_))))))))
                    refine E.y rfl rfl (by decide) ((Y.mv rfl).yd) ?_
                    refine E.y rfl rfl (by decide) ((Y.neq rfl rfl).yd) (Ent.d (fun q72 => ?_) (fun q72 => ?_))
                    · exact absurd (by simp only [mkL_c cm_I, mkL_c cm_Is, mkL_c cm_Fact, mkL_c cm_Facts, mkL_c cm_Atom, mkL_c cm_Atoms, mkL_c cm_Access, mkL_c cm_Accesss, mkL_c cm_Step, mkL_c cm_Steps, mkL_c cm_Query, mkL_c cm_Querys, mkL_c cm_Binding, mkL_c cm_Bindings, mkL_c cm_Method, mkL_c cm_Methods, mkL_c cm_Rule, mkL_c cm_Rules, mkL_c cm_Line, mkL_c cm_Lines]) q72
                    · refine E.nil (E.thn (E.cf rfl (E.skipc (E.thn (E.seq (E.mid (κ := Nat × Option Addr × Nat × Option Addr × Nat) (fun _ => True) (fun kM => [(6, .pointer (some ⟨b6, 0, none⟩)), (9, .pointer (some ⟨b9, 0, none⟩)), (11, .int .i64 (1 + ((totS cE_I aQ_Head + totS cE_Atom (coreR aS aQ_Head aQ_Atoms) : Nat) : Int))), (13, .pointer (some ⟨kM.1, 0, none⟩))]) (fun kM => [pt kM.1 31 [.slice kM.2.1 (aQ_Head).length kM.2.2.1, .slice kM.2.2.2.1 (coreR aS aQ_Head aQ_Atoms).length kM.2.2.2.2], ow eIs [.slice kM.2.1 (aQ_Head).length kM.2.2.1] aQ_Head, ow eAtoms [.slice kM.2.2.2.1 (coreR aS aQ_Head aQ_Atoms).length kM.2.2.2.2] (coreR aS aQ_Head aQ_Atoms), ow eIs [.slice a33_0 (aQ_Head).length c33_0] (mkL cE_I mE_I aQ_Head 1), ow eAtoms [.slice a33_1 (coreR aS aQ_Head aQ_Atoms).length c33_1] (mkL cE_Atom mE_Atom (coreR aS aQ_Head aQ_Atoms) (1 + ((totS cE_I aQ_Head : Nat) : Int))), ow eIs [.slice a30_0 (aQ_Head).length c30_0] (mkL cE_I mE_I aQ_Head (1 + (totS cE_I aS : Nat))), ow eAtoms [.slice a30_1 (aQ_Atoms).length c30_1] (mkL cE_Atom mE_Atom aQ_Atoms ((1 + (totS cE_I aS : Nat)) + ((totS cE_I aQ_Head : Nat) : Int))), ow eIs [.slice a28 (aS).length c28] (mkL cE_I mE_I aS 1), ow eIs [.slice a45_0 (aQ_Head).length c45_0] aQ_Head, ow eAtoms [.slice a45_1 (aQ_Atoms).length c45_1] aQ_Atoms, ow eIs [.slice a40 (aS).length c40] aS, pt b9 31 [.slice a33_0 (aQ_Head).length c33_0, .slice a33_1 (coreR aS aQ_Head aQ_Atoms).length c33_1], pt b8 31 [.slice a30_0 (aQ_Head).length c30_0, .slice a30_1 (aQ_Atoms).length c30_1], pt b6 31 [.slice a26_0 (aQ_Head).length c26_0, .slice a26_1 (coreR aS aQ_Head aQ_Atoms).length c26_1], ow eIs [.slice a26_0 (aQ_Head).length c26_0] aQ_Head, ow eAtoms [.slice a26_1 (coreR aS aQ_Head aQ_Atoms).length c26_1] (coreR aS aQ_Head aQ_Atoms), pt b3 25 [.slice a_aQ_Head aQ_Head.length c_aQ_Head, .slice a_aQ_Atoms aQ_Atoms.length c_aQ_Atoms]]) ?_ (fun kM _ => ?_)))))))
                      · refine D.region (fun j => !(Nat.beq j 6)) mixed (D.yp 0 rfl rfl (by decide) (Y.mv rfl) (by kernel_rfl) ?_)
                        refine D.y 2 rfl rfl (by decide) (Y.ldS (cs := [_, _]) ty_lQuery rfl (Has.pt (mS (mS (mS (mS (mS (mS (mS (mS (mS (mS (mS (mS (mS m0)))))))))))))) rfl) (by kernel_rfl) ?_
                        refine D.ch2 (i := 1) (j := 5) (by kernel_rfl) ?_ ?_
                        · refine D.pk 1 rfl rfl (fun _ => rfl) (N.call (t_laws_toIntS (by first | omega | assumption | (constructor <;> omega))) rfl rfl rfl (by decide) rfl (fun w Lp hA => hA.ro haS)) (fun k74 _ => ?_)
                          obtain ⟨a74, m74, c74⟩ := k74
                          refine Ent.lenow m0 fun e74 l74 => ?_
                          subst e74
                          refine D.ch2 (i := 3) (j := 5) (by kernel_rfl) ?_ ?_
                          · refine D.pk 3 rfl rfl (fun _ => rfl) (N.call (t_laws_toQuery (by first | omega | assumption | (constructor <;> omega)) (by first | omega | assumption | (constructor <;> omega))) rfl rfl rfl (by decide) rfl (fun w Lp hA => ⟨hA.ro haQ_Head, hA.ro haQ_Atoms⟩)) (fun k76 _ => ?_)
                            obtain ⟨⟨a76_0, m76_0, c76_0⟩, ⟨a76_1, m76_1, c76_1⟩⟩ := k76
                            refine Ent.lenow m0 fun e76_0 l76_0 => ?_
                            subst e76_0
                            refine Ent.lenow (mS m0) fun e76_1 l76_1 => ?_
                            subst e76_1
                            refine D.ch2 (i := 4) (j := 5) (by kernel_rfl) ?_ ?_
                            · refine D.pk 4 rfl rfl (fun _ => rfl) (N.call (t_impl_CoreOf (by first | omega | assumption | (constructor <;> omega)) (by first | omega | assumption | (constructor <;> omega))) rfl rfl rfl (by decide) rfl (fun w Lp hA => ⟨hA.ow (mS (mS m0)), hA.ow m0, hA.ow (mS m0)⟩)) (fun k77 _ => ?_)
                              obtain ⟨⟨a77_0, m77_0, c77_0⟩, ⟨a77_1, m77_1, c77_1⟩⟩ := k77
                              refine Ent.lenow m0 fun e77_0 l77_0 => ?_
                              subst e77_0
                              refine Ent.lenow (mS m0) fun e77_1 l77_1 => ?_
                              subst e77_1
                              refine D.st 5 rfl rfl (by kernel_rfl) (fun _ => rfl) (N.alloc ty_Query (by decide)) (fun b13 _ => ?_)
                              refine D.st 6 rfl rfl (by kernel_rfl) (fun h => by cases h) (N.sto (vs := [_, _]) (cs' := [_, _]) ty_Query rfl rfl rfl rfl rfl (Nat.le_of_ble_eq_true rfl) rfl) (fun _ _ => ?_)
                              refine D.done (by kernel_rfl) (Ent.p3 ?_)
                              refine Ent.drop ?_
                              refine Ent.p3 ?_
                              refine Ent.drop ?_
                              refine Ent.p3 ?_
                              refine Ent.drop ?_
                              refine Ent.p16 ?_
                              refine Ent.p16 ?_
                              refine Ent.p16 ?_
                              refine Ent.p16 ?_
                              refine Ent.p16 ?_
                              refine Ent.p16 ?_
                              refine Ent.p16 ?_
                              refine Ent.p16 ?_
                              refine Ent.p16 ?_
                              refine Ent.p16 ?_
                              refine Ent.p16 ?_
                              refine Ent.p16 ?_
                              refine Ent.p16 ?_
                              refine Ent.p16 ?_
                              refine Ent.p16 ?_
                              refine Ent.p16 ?_
                              refine Ent.p16 ?_
                              exact E.mdn (b13, a77_0, c77_0, a77_1, c77_1) trivial ⟨rfl, rfl, rfl, rfl, trivial⟩ (.refl _)
                            · refine D.pk 5 rfl rfl (fun _ => rfl) (N.alloc ty_Query (by decide)) (fun b13 _ => ?_)
                              refine D.st 4 rfl rfl (by kernel_rfl) (fun _ => rfl) (N.call (t_impl_CoreOf (by first | omega | assumption | (constructor <;> omega)) (by first | omega | assumption | (constructor <;> omega))) rfl rfl rfl (by decide) rfl (fun w Lp hA => ⟨hA.ow (mS (mS (mS m0))), hA.ow (mS m0), hA.ow (mS (mS m0))⟩)) (fun k77 _ => ?_)
                              obtain ⟨⟨a77_0, m77_0, c77_0⟩, ⟨a77_1, m77_1, c77_1⟩⟩ := k77
                              refine Ent.lenow m0 fun e77_0 l77_0 => ?_
                              subst e77_0
                              refine Ent.lenow (mS m0) fun e77_1 l77_1 => ?_
                              subst e77_1
                              refine Ent.p2 ?_
                              refine D.st 6 rfl rfl (by kernel_rfl) (fun h => by cases h) (N.sto (vs := [_, _]) (cs' := [_, _]) ty_Query rfl rfl rfl rfl rfl (Nat.le_of_ble_eq_true rfl) rfl) (fun _ _ => ?_)
                              refine D.done (by kernel_rfl) (Ent.p3 ?_)
                              refine Ent.drop ?_
                              refine Ent.p3 ?_
                              refine Ent.drop ?_
                              refine Ent.p3 ?_
                              refine Ent.drop ?_
                              refine Ent.p16 ?_
                              refine Ent.p16 ?_
                              refine Ent.p16 ?_
                              refine Ent.p16 ?_
                              refine Ent.p16 ?_
                              refine Ent.p16 ?_
                              refine Ent.p16 ?_
                              refine Ent.p16 ?_
                              refine Ent.p16 ?_
                              refine Ent.p16 ?_
                              refine Ent.p16 ?_
                              refine Ent.p16 ?_
                              refine Ent.p16 ?_
                              refine Ent.p16 ?_
                              refine Ent.p16 ?_
                              refine Ent.p16 ?_
                              refine Ent.p16 ?_
                              exact E.mdn (b13, a77_0, c77_0, a77_1, c77_1) trivial ⟨rfl, rfl, rfl, rfl, trivial⟩ (.refl _)
                          · refine D.pk 5 rfl rfl (fun _ => rfl) (N.alloc ty_Query (by decide)) (fun b13 _ => ?_)
                            refine D.st 3 rfl rfl (by kernel_rfl) (fun _ => rfl) (N.call (t_laws_toQuery (by first | omega | assumption | (constructor <;> omega)) (by first | omega | assumption | (constructor <;> omega))) rfl rfl rfl (by decide) rfl (fun w Lp hA => ⟨hA.ro haQ_Head, hA.ro haQ_Atoms⟩)) (fun k76 _ => ?_)
                            obtain ⟨⟨a76_0, m76_0, c76_0⟩, ⟨a76_1, m76_1, c76_1⟩⟩ := k76
                            refine Ent.lenow m0 fun e76_0 l76_0 => ?_
                            subst e76_0
                            refine Ent.lenow (mS m0) fun e76_1 l76_1 => ?_
                            subst e76_1
                            refine D.st 4 rfl rfl (by kernel_rfl) (fun _ => rfl) (N.call (t_impl_CoreOf (by first | omega | assumption | (constructor <;> omega)) (by first | omega | assumption | (constructor <;> omega))) rfl rfl rfl (by decide) rfl (fun w Lp hA => ⟨hA.ow (mS (mS (mS m0))), hA.ow m0, hA.ow (mS m0)⟩)) (fun k77 _ => ?_)
                            obtain ⟨⟨a77_0, m77_0, c77_0⟩, ⟨a77_1, m77_1, c77_1⟩⟩ := k77
                            refine Ent.lenow m0 fun e77_0 l77_0 => ?_
                            subst e77_0
                            refine Ent.lenow (mS m0) fun e77_1 l77_1 => ?_
                            subst e77_1
                            refine Ent.p4 ?_
                            refine D.st 6 rfl rfl (by kernel_rfl) (fun h => by cases h) (N.sto (vs := [_, _]) (cs' := [_, _]) ty_Query rfl rfl rfl rfl rfl (Nat.le_of_ble_eq_true rfl) rfl) (fun _ _ => ?_)
                            refine D.done (by kernel_rfl) (Ent.p3 ?_)
                            refine Ent.drop ?_
                            refine Ent.p3 ?_
                            refine Ent.drop ?_
                            refine Ent.p3 ?_
                            refine Ent.drop ?_
                            refine Ent.p16 ?_
                            refine Ent.p16 ?_
                            refine Ent.p16 ?_
                            refine Ent.p16 ?_
                            refine Ent.p16 ?_
                            refine Ent.p16 ?_
                            refine Ent.p16 ?_
                            refine Ent.p16 ?_
                            refine Ent.p16 ?_
                            refine Ent.p16 ?_
                            refine Ent.p16 ?_
                            refine Ent.p16 ?_
                            refine Ent.p16 ?_
                            refine Ent.p16 ?_
                            refine Ent.p16 ?_
                            refine Ent.p16 ?_
                            refine Ent.p16 ?_
                            exact E.mdn (b13, a77_0, c77_0, a77_1, c77_1) trivial ⟨rfl, rfl, rfl, rfl, trivial⟩ (.refl _)
                        · refine D.pk 5 rfl rfl (fun _ => rfl) (N.alloc ty_Query (by decide)) (fun b13 _ => ?_)
                          refine D.st 1 rfl rfl (by kernel_rfl) (fun _ => rfl) (N.call (t_laws_toIntS (by first | omega | assumption | (constructor <;> omega))) rfl rfl rfl (by decide) rfl (fun w Lp hA => hA.ro haS)) (fun k74 _ => ?_)
                          obtain ⟨a74, m74, c74⟩ := k74
                          refine Ent.lenow m0 fun e74 l74 => ?_
                          subst e74
                          refine D.st 3 rfl rfl (by kernel_rfl) (fun _ => rfl) (N.call (t_laws_toQuery (by first | omega | assumption | (constructor <;> omega)) (by first | omega | assumption | (constructor <;> omega))) rfl rfl rfl (by decide) rfl (fun w Lp hA => ⟨hA.ro haQ_Head, hA.ro haQ_Atoms⟩)) (fun k76 _ => ?_)
                          obtain ⟨⟨a76_0, m76_0, c76_0⟩, ⟨a76_1, m76_1, c76_1⟩⟩ := k76
                          refine Ent.lenow m0 fun e76_0 l76_0 => ?_
                          subst e76_0
                          refine Ent.lenow (mS m0) fun e76_1 l76_1 => ?_
                          subst e76_1
                          refine D.st 4 rfl rfl (by kernel_rfl) (fun _ => rfl) (N.call (t_impl_CoreOf (by first | omega | assumption | (constructor <;> omega)) (by first | omega | assumption | (constructor <;> omega))) rfl rfl rfl (by decide) rfl (fun w Lp hA => ⟨hA.ow (mS (mS m0)), hA.ow m0, hA.ow (mS m0)⟩)) (fun k77 _ => ?_)
                          obtain ⟨⟨a77_0, m77_0, c77_0⟩, ⟨a77_1, m77_1, c77_1⟩⟩ := k77
                          refine Ent.lenow m0 fun e77_0 l77_0 => ?_
                          subst e77_0
                          refine Ent.lenow (mS m0) fun e77_1 l77_1 => ?_
                          subst e77_1
                          refine Ent.p5 ?_
                          refine D.st 6 rfl rfl (by kernel_rfl) (fun h => by cases h) (N.sto (vs := [_, _]) (cs' := [_, _]) ty_Query rfl rfl rfl rfl rfl (Nat.le_of_ble_eq_true rfl) rfl) (fun _ _ => ?_)
                          refine D.done (by kernel_rfl) (Ent.p3 ?_)
                          refine Ent.drop ?_
                          refine Ent.p3 ?_
                          refine Ent.drop ?_
                          refine Ent.p3 ?_
                          refine Ent.drop ?_
                          refine Ent.p16 ?_
                          refine Ent.p16 ?_
                          refine Ent.p16 ?_
                          refine Ent.p16 ?_
                          refine Ent.p16 ?_
                          refine Ent.p16 ?_
                          refine Ent.p16 ?_
                          refine Ent.p16 ?_
                          refine Ent.p16 ?_
                          refine Ent.p16 ?_
                          refine Ent.p16 ?_
                          refine Ent.p16 ?_
                          refine Ent.p16 ?_
                          refine Ent.p16 ?_
                          refine Ent.p16 ?_
                          refine Ent.p16 ?_
                          refine Ent.p16 ?_
                          exact E.mdn (b13, a77_0, c77_0, a77_1, c77_1) trivial ⟨rfl, rfl, rfl, rfl, trivial⟩ (.refl _)
                      · obtain ⟨b13, a77_0, c77_0, a77_1, c77_1⟩ := kM
                        show Ent _ _ _ [(6, .pointer (some ⟨b6, 0, none⟩)), (9, .pointer (some ⟨b9, 0, none⟩)), (11, .int .i64 (1 + ((totS cE_I aQ_Head + totS cE_Atom (coreR aS aQ_Head aQ_Atoms) : Nat) : Int))), (13, .pointer (some ⟨b13, 0, none⟩))] [pt b13 31 [.slice a77_0 (aQ_Head).length c77_0, .slice a77_1 (coreR aS aQ_Head aQ_Atoms).length c77_1], ow eIs [.slice a77_0 (aQ_Head).length c77_0] aQ_Head, ow eAtoms [.slice a77_1 (coreR aS aQ_Head aQ_Atoms).length c77_1] (coreR aS aQ_Head aQ_Atoms), ow eIs [.slice a33_0 (aQ_Head).length c33_0] (mkL cE_I mE_I aQ_Head 1), ow eAtoms [.slice a33_1 (coreR aS aQ_Head aQ_Atoms).length c33_1] (mkL cE_Atom mE_Atom (coreR aS aQ_Head aQ_Atoms) (1 + ((totS cE_I aQ_Head : Nat) : Int))), ow eIs [.slice a30_0 (aQ_Head).length c30_0] (mkL cE_I mE_I aQ_Head (1 + (totS cE_I aS : Nat))), ow eAtoms [.slice a30_1 (aQ_Atoms).length c30_1] (mkL cE_Atom mE_Atom aQ_Atoms ((1 + (totS cE_I aS : Nat)) + ((totS cE_I aQ_Head : Nat) : Int))), ow eIs [.slice a28 (aS).length c28] (mkL cE_I mE_I aS 1), ow eIs [.slice a45_0 (aQ_Head).length c45_0] aQ_Head, ow eAtoms [.slice a45_1 (aQ_Atoms).length c45_1] aQ_Atoms, ow eIs [.slice a40 (aS).length c40] aS, pt b9 31 [.slice a33_0 (aQ_Head).length c33_0, .slice a33_1 (coreR aS aQ_Head aQ_Atoms).length c33_1], pt b8 31 [.slice a30_0 (aQ_Head).length c30_0, .slice a30_1 (aQ_Atoms).length c30_1], pt b6 31 [.slice a26_0 (aQ_Head).length c26_0, .slice a26_1 (coreR aS aQ_Head aQ_Atoms).length c26_1], ow eIs [.slice a26_0 (aQ_Head).length c26_0] aQ_Head, ow eAtoms [.slice a26_1 (coreR aS aQ_Head aQ_Atoms).length c26_1] (coreR aS aQ_Head aQ_Atoms), pt b3 25 [.slice a_aQ_Head aQ_Head.length c_aQ_Head, .slice a_aQ_Atoms aQ_Atoms.length c_aQ_Atoms]] _
                        refine E.thn (E.seq (E.seq (E.region (l := [0, 1, 2, 3]) rfl (E.y rfl rfl (by decide) (Y.ldS (cs := [_, _]) ty_Query rfl (Has.pt m0) rfl) ?_))))
                        refine E.y rfl rfl (by decide) (Y.ldS (cs := [_, _]) ty_Query rfl (Has.pt (mS (mS (mS (mS (mS (mS (mS (mS (mS (mS (mS (mS (mS m0)))))))))))))) rfl) ?_
                        refine E.st rfl rfl (N.call0 t_laws_eqQuery rfl rfl rfl (by decide) (fun w Lp hA => ⟨hA.ow (mS m0), hA.ow (mS (mS m0)), hA.ow (mS (mS (mS (mS (mS (mS (mS (mS (mS (mS (mS (mS (mS (mS m0)))))))))))))), hA.ow (mS (mS (mS (mS (mS (mS (mS (mS (mS (mS (mS (mS (mS (mS (mS m0)))))))))))))))⟩)) (fun _ _ => (Ent.b (fun q80 => ?_) (fun q80 => ?_)))
                        · refine E.y rfl rfl (by decide) ((Y.not (b := true) rfl).yd) ?_
                          refine E.nil (E.thn (E.cf rfl (E.skipc (E.thn (E.seq (E.region (l := [0]) rfl (E.y rfl rfl (by decide) ((Y.as rfl).yd) ?_)))))))
                          refine E.nil (E.thn (E.seq (E.region (l := [0, 1, 2, 3]) rfl (E.y rfl rfl (by decide) (Y.ldS (cs := [_, _]) ty_Query rfl (Has.pt (mS (mS (mS (mS (mS (mS (mS (mS (mS (mS (mS m0)))))))))))) rfl) ?_))))
                          refine E.y rfl rfl (by decide) ((Y.mv rfl).yd) ?_
                          refine E.st rfl rfl (N.call0 (t_laws_heldQuery (by first | exact mkL_mk cm_I mm_I | (simp only [mkL_c cm_I, mkL_c cm_Is, mkL_c cm_Fact, mkL_c cm_Facts, mkL_c cm_Atom, mkL_c cm_Atoms, mkL_c cm_Access, mkL_c cm_Accesss, mkL_c cm_Step, mkL_c cm_Steps, mkL_c cm_Query, mkL_c cm_Querys, mkL_c cm_Binding, mkL_c cm_Bindings, mkL_c cm_Method, mkL_c cm_Methods, mkL_c cm_Rule, mkL_c cm_Rules, mkL_c cm_Line, mkL_c cm_Lines]; exact mkL_mk cm_I mm_I)) (by first | exact mkL_mk cm_Atom mm_Atom | (simp only [mkL_c cm_I, mkL_c cm_Is, mkL_c cm_Fact, mkL_c cm_Facts, mkL_c cm_Atom, mkL_c cm_Atoms, mkL_c cm_Access, mkL_c cm_Accesss, mkL_c cm_Step, mkL_c cm_Steps, mkL_c cm_Query, mkL_c cm_Querys, mkL_c cm_Binding, mkL_c cm_Bindings, mkL_c cm_Method, mkL_c cm_Methods, mkL_c cm_Rule, mkL_c cm_Rules, mkL_c cm_Line, mkL_c cm_Lines]; exact mkL_mk cm_Atom mm_Atom))) rfl rfl rfl (by decide) (fun w Lp hA => ⟨hA.ow (mS (mS (mS m0))), hA.ow (mS (mS (mS (mS m0)))), (by (try simp only [mkL_c cm_I, mkL_c cm_Is, mkL_c cm_Fact, mkL_c cm_Facts, mkL_c cm_Atom, mkL_c cm_Atoms, mkL_c cm_Access, mkL_c cm_Accesss, mkL_c cm_Step, mkL_c cm_Steps, mkL_c cm_Query, mkL_c cm_Querys, mkL_c cm_Binding, mkL_c cm_Bindings, mkL_c cm_Method, mkL_c cm_Methods, mkL_c cm_Rule, mkL_c cm_Rules, mkL_c cm_Line, mkL_c cm_Lines]); omega), (by (try simp only [mkL_c cm_I, mkL_c cm_Is, mkL_c cm_Fact, mkL_c cm_Facts, mkL_c cm_Atom, mkL_c cm_Atoms, mkL_c cm_Access, mkL_c cm_Accesss, mkL_c cm_Step, mkL_c cm_Steps, mkL_c cm_Query, mkL_c cm_Querys, mkL_c cm_Binding, mkL_c cm_Bindings, mkL_c cm_Method, mkL_c cm_Methods, mkL_c cm_Rule, mkL_c cm_Rules, mkL_c cm_Line, mkL_c cm_Lines]); omega)⟩)) (fun _ _ => ?_)
                          refine E.y rfl rfl (by decide) ((Y.as rfl).yd) ?_
                          refine E.nil (E.thn (E.seq (E.seq (E.region (l := [0, 1]) rfl (E.y rfl rfl (by decide) ((Y.mv rfl).yd) ?_)))))
                          refine E.y rfl rfl (by decide) ((Y.lss rfl rfl).yd) (Ent.d (fun q86 => ?_) (fun q86 => ?_))
                          · exact absurd q86 (by omega)
                          · refine E.nil (E.thn (E.cf rfl (E.skipc (E.thn (E.seq (E.seq (E.region (l := [0, 1, 2]) rfl (E.y rfl rfl (by decide) ((Y.mv rfl).yd) ?_))))))))
                            refine E.y rfl rfl (by decide) ((Y.mv rfl).yd) ?_
                            refine E.y rfl rfl (by decide) ((Y.neq rfl rfl).yd) (Ent.d (fun q89 => ?_) (fun q89 => ?_))
                            · exact absurd (by simp only [mkL_c cm_I, mkL_c cm_Is, mkL_c cm_Fact, mkL_c cm_Facts, mkL_c cm_Atom, mkL_c cm_Atoms, mkL_c cm_Access, mkL_c cm_Accesss, mkL_c cm_Step, mkL_c cm_Steps, mkL_c cm_Query, mkL_c cm_Querys, mkL_c cm_Binding, mkL_c cm_Bindings, mkL_c cm_Method, mkL_c cm_Methods, mkL_c cm_Rule, mkL_c cm_Rules, mkL_c cm_Line, mkL_c cm_Lines]) q89
                            · refine E.nil (E.thn (E.cf rfl (E.skipc (E.thn (E.seq (E.region (l := [0]) rfl (E.y rfl rfl (by decide) ((Y.as rfl).yd) ?_)))))))
                              exact E.nil (E.thn (E.ret (F.r1 (Back.refl _ _) rfl rfl () trivial rfl (J := _) (.refl _) (.inl rfl))))
                        · refine E.y rfl rfl (by decide) ((Y.not (b := false) rfl).yd) ?_
                          refine E.nil (E.thn (E.ct rfl (E.seq (E.region (l := [0]) rfl (E.y rfl rfl (by decide) ((Y.as rfl).yd) ?_)))))
                          exact E.nil (E.thn (E.ret (E.thr (F.r1 (Back.refl _ _) rfl rfl () trivial (congrArg Value.bool (by simp_all)) (J := _) (.refl _) (.inl rfl)))))
                · refine E.y rfl rfl (by decide) ((Y.not (b := false) rfl).yd) ?_
                  refine E.y rfl rfl (by decide) ((Y.pkf rfl rfl).yd) ?_
                  refine E.nil (E.thn (E.ct rfl (E.seq (E.region (l := [0]) rfl (E.y rfl rfl (by decide) ((Y.as rfl).yd) ?_)))))
                  exact E.nil (E.thn (E.ret (E.thr (F.r1 (Back.refl _ _) rfl rfl () trivial (congrArg Value.bool (by simp_all)) (J := _) (.refl _) (.inl rfl)))))
            · refine D.yp 4 rfl rfl (by decide) (Y.not (b := false) rfl) (by kernel_rfl) ?_
              refine D.done (by kernel_rfl) (E.thn (E.ct rfl (E.seq (E.region (l := [0]) rfl (E.y rfl rfl (by decide) ((Y.as rfl).yd) ?_)))))
              exact E.nil (E.thn (E.ret (E.thr (F.r1 (Back.refl _ _) rfl rfl () trivial (congrArg Value.bool (by simp_all)) (J := _) (.refl _) (.inl rfl)))))
          · refine E.y rfl rfl (by decide) ((Y.not (b := false) rfl).yd) ?_
            refine E.nil (E.thn (E.ct rfl (E.seq (E.region (l := [0]) rfl (E.y rfl rfl (by decide) ((Y.as rfl).yd) ?_)))))
            exact E.nil (E.thn (E.ret (E.thr (F.r1 (Back.refl _ _) rfl rfl () trivial (congrArg Value.bool (by simp_all)) (J := _) (.refl _) (.inl rfl)))))
        · refine E.y rfl rfl (by decide) ((Y.not (b := false) rfl).yd) ?_
          refine E.nil (E.thn (E.ct rfl (E.seq (E.region (l := [0]) rfl (E.y rfl rfl (by decide) ((Y.as rfl).yd) ?_)))))
          exact E.nil (E.thn (E.ret (E.thr (F.r1 (Back.refl _ _) rfl rfl () trivial (congrArg Value.bool (by simp_all)) (J := _) (.refl _) (.inl rfl)))))
end Go.Proofs.YtlcfbfbdnnoifaaGreat
