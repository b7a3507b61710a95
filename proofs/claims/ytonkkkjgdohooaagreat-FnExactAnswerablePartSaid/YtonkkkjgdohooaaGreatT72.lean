import Derived.Test.YtonkkkjgdohooaaGreatT71
import Derived.Test.YtonkkkjgdohooaaGreatT4
import Derived.Test.YtonkkkjgdohooaaGreatT5
namespace Go.Proofs.YtonkkkjgdohooaaGreat
open Go.RowKit
set_option linter.unusedVariables false
set_option linter.unusedSimpArgs false
set_option maxHeartbeats 2000000
attribute [local irreducible] Nop Yd Yp Ent Has Tr FnP FnP2 Src listsF opnF opn1 opnR chainB
theorem t_laws_FnExactAnswerablePart {a_aS : Option Addr} {m_aS c_aS : Nat} {aS : List Int} {a_aL : Option Addr} {m_aL c_aL : Nat} {aL : List (Int × List Int × Int × Int × Int)} {a_aQ_Head : Option Addr} {m_aQ_Head c_aQ_Head : Nat} {aQ_Head : List Int} {a_aQ_Atoms : Option Addr} {m_aQ_Atoms c_aQ_Atoms : Nat} {aQ_Atoms : List (Int × List Int)} : Tr Tryz.prog 4 [.slice a_aS m_aS c_aS, .slice a_aL m_aL c_aL, .agg #[.slice a_aQ_Head m_aQ_Head c_aQ_Head, .slice a_aQ_Atoms m_aQ_Atoms c_aQ_Atoms]] (fun w L => Ro w L eIs [.slice a_aS m_aS c_aS] aS ∧ Ro w L eMethods [.slice a_aL m_aL c_aL] aL ∧ Ro w L eIs [.slice a_aQ_Head m_aQ_Head c_aQ_Head] aQ_Head ∧ Ro w L eAtoms [.slice a_aQ_Atoms m_aQ_Atoms c_aQ_Atoms] aQ_Atoms) [] (κ := Unit) (fun k => True) (fun k => .bool (true)) (fun k => []) := by
  refine Tr.intro Tryz.func4 rfl (n := 140) rfl (by decide +kernel) (Nat.le_of_ble_eq_true rfl) (fr := [(0, .slice a_aS m_aS c_aS), (1, .slice a_aL m_aL c_aL), (2, .agg #[.slice a_aQ_Head m_aQ_Head c_aQ_Head, .slice a_aQ_Atoms m_aQ_Atoms c_aQ_Atoms])]) rfl fun w L hR => ?_
  obtain ⟨haS, haL, haQ_Head, haQ_Atoms⟩ := hR
  obtain ⟨rfl, laS⟩ := haS.slen
  obtain ⟨rfl, laL⟩ := haL.slen
  obtain ⟨rfl, laQ_Head⟩ := haQ_Head.slen
  obtain ⟨rfl, laQ_Atoms⟩ := haQ_Atoms.slen
  have jb_aS := totS_I (l := aS)
  have jb_aL := totS_lin (c := cE_Method) (t := (fun x => x.2.1.length)) (n := 4) (fun x => by simp only [cE_Method, totS_I]; omega) (l := aL)
  have jc_aL : totL (fun x => x.2.1.length) aL = aL.length + totS (fun x => x.2.1.length) aL := rfl
  have jb_aQ_Head := totS_I (l := aQ_Head)
  have jb_aQ_Atoms := totS_lin (c := cE_Atom) (t := (fun x => x.2.length)) (n := 1) (fun x => by simp only [cE_Atom, totS_I]; omega) (l := aQ_Atoms)
  have jc_aQ_Atoms : totL (fun x => x.2.length) aQ_Atoms = aQ_Atoms.length + totS (fun x => x.2.length) aQ_Atoms := rfl
  have r1 : totS cE_I (prtH aS aL (aQ_Head, aQ_Atoms)) + totS cE_Atom (prtA aS aL (aQ_Head, aQ_Atoms)) ≤ aQ_Head.length + totS cE_Atom aQ_Atoms := prt_tot
  refine E.seq (E.region (l := [0, 1]) rfl (E.st rfl rfl (N.box (cs := [_, _]) rfl (by decide) rfl) (fun b5 _ => (E.y rfl rfl (by decide) ((Y.as rfl).yd) (E.nil (E.thn (E.seq (E.seq (E.region (l := [0, 1, 2]) rfl (E.y rfl rfl (by decide) ((Y.mv rfl).yd) (E.y rfl rfl (by decide) ((Y.len us_Is rfl).yd) (E.y rfl rfl (by decide) ((Y.gtr rfl rfl).yd) (Ent.d (fun q22 => ?_) (fun q22 => ?_))))))))))))))
  · refine E.nil (E.thn (E.ct rfl (E.seq (E.region (l := [0]) rfl (E.y rfl rfl (by decide) ((Y.as rfl).yd) ?_)))))
    exact E.nil (E.thn (E.ret (E.thr (F.r1 (Back.refl _ _) rfl rfl () trivial rfl (J := _) (.refl _) (.inl rfl)))))
  · refine E.nil (E.thn (E.cf rfl (E.skipc (E.thn (E.seq (E.region (l := [0]) rfl (E.y rfl rfl (by decide) ((Y.as rfl).yd) (E.nil (E.thn (E.seq (E.region (l := [0, 1, 2, 3]) rfl (E.y rfl rfl (by decide) ((Y.mv rfl).yd) (E.y rfl rfl (by decide) ((Y.mv rfl).yd) (E.st rfl rfl (N.call0 t_laws_szMethodS rfl rfl rfl (by decide) (fun w Lp hA => ⟨hA.ro haL, (by first | assumption | omega), (by first | assumption | omega)⟩)) (fun _ _ => (E.y rfl rfl (by decide) ((Y.as rfl).yd) (E.nil (E.thn (E.seq (E.seq (E.region (l := [0, 1]) rfl (E.y rfl rfl (by decide) ((Y.mv rfl).yd) (E.y rfl rfl (by decide) ((Y.lss rfl rfl).yd) (Ent.d (fun q27 => ?_) (fun q27 => ?_)))))))))))))))))))))))))
    · have z27 := szR_bad q27 (by omega)
      refine E.nil (E.thn (E.ct rfl (E.seq (E.region (l := [0]) rfl (E.y rfl rfl (by decide) ((Y.as rfl).yd) ?_)))))
      exact E.nil (E.thn (E.ret (E.thr (F.r1 (Back.refl _ _) rfl rfl () trivial rfl (J := _) (.refl _) (.inl rfl)))))
    · obtain ⟨z27, y27⟩ := szR_ok q27 (by omega)
      refine E.nil (E.thn (E.cf rfl (E.skipc (E.thn (E.seq (E.region (l := [0, 1, 2, 3]) rfl (E.y rfl rfl (by decide) (Y.ldS (cs := [_, _]) ty_lQuery rfl (Has.pt m0) rfl) (E.y rfl rfl (by decide) ((Y.mv rfl).yd) (E.st rfl rfl (N.call0 t_laws_szQuery rfl rfl rfl (by decide) (fun w Lp hA => ⟨hA.ro haQ_Head, hA.ro haQ_Atoms, (by first | assumption | omega), (by first | assumption | omega)⟩)) (fun _ _ => (E.y rfl rfl (by decide) ((Y.as rfl).yd) (E.nil (E.thn (E.seq (E.seq (E.region (l := [0, 1]) rfl (E.y rfl rfl (by decide) ((Y.mv rfl).yd) (E.y rfl rfl (by decide) ((Y.lss rfl rfl).yd) (Ent.d (fun q32 => ?_) (fun q32 => ?_))))))))))))))))))))
      · have z32 := szR_bad q32 (by omega)
        refine E.nil (E.thn (E.ct rfl (E.seq (E.region (l := [0]) rfl (E.y rfl rfl (by decide) ((Y.as rfl).yd) ?_)))))
        exact E.nil (E.thn (E.ret (E.thr (F.r1 (Back.refl _ _) rfl rfl () trivial rfl (J := _) (.refl _) (.inl rfl)))))
      · obtain ⟨z32, y32⟩ := szR_ok q32 (by omega)
        refine E.nil (E.thn (E.cf rfl (E.skipc (E.thn (E.seq (E.mid (κ := Nat × Option Addr × Nat × Option Addr × Nat) (fun _ => True) (fun kM => [(0, .slice a_aS aS.length c_aS), (1, .slice a_aL aL.length c_aL), (5, .pointer (some ⟨b5, 0, none⟩)), (8, .pointer (some ⟨kM.1, 0, none⟩)), (9, .bool (prtB aS aL (aQ_Head, aQ_Atoms)))]) (fun kM => [pt kM.1 55 [.slice kM.2.1 (prtH aS aL (aQ_Head, aQ_Atoms)).length kM.2.2.1, .slice kM.2.2.2.1 (prtA aS aL (aQ_Head, aQ_Atoms)).length kM.2.2.2.2], ow eIs [.slice kM.2.1 (prtH aS aL (aQ_Head, aQ_Atoms)).length kM.2.2.1] (prtH aS aL (aQ_Head, aQ_Atoms)), ow eAtoms [.slice kM.2.2.2.1 (prtA aS aL (aQ_Head, aQ_Atoms)).length kM.2.2.2.2] (prtA aS aL (aQ_Head, aQ_Atoms)), pt b5 51 [.slice a_aQ_Head aQ_Head.length c_aQ_Head, .slice a_aQ_Atoms aQ_Atoms.length c_aQ_Atoms]]) ?_ (fun kM _ => ?_)))))))
        · refine D.region (fun j => !(Nat.beq j 11)) mixed (D.yp 0 rfl rfl (by decide) (Y.mv rfl) (by kernel_rfl) (D.yp 2 rfl rfl (by decide) (Y.mv rfl) (by kernel_rfl) (D.y 4 rfl rfl (by decide) (Y.ldS (cs := [_, _]) ty_lQuery rfl (Has.pt m0) rfl) (by kernel_rfl) (D.ch2 (i := 1) (j := 10) (by kernel_rfl) ?_ ?_))))
          · refine D.pk 1 rfl rfl (fun _ => rfl) (N.call (t_laws_toIntS (by first | omega | assumption | (constructor <;> omega))) rfl rfl rfl (by decide) rfl (fun w Lp hA => hA.ro haS)) (fun k35 _ => ?_)
            obtain ⟨a35, m35, c35⟩ := k35
            refine Ent.lenow m0 fun e35 l35 => ?_
            subst e35
            refine D.ch2 (i := 3) (j := 10) (by kernel_rfl) ?_ ?_
            · refine D.pk 3 rfl rfl (fun _ => rfl) (N.call (t_laws_toMethodS (by first | omega | assumption | (constructor <;> omega))) rfl rfl rfl (by decide) rfl (fun w Lp hA => hA.ro haL)) (fun k37 _ => ?_)
              obtain ⟨a37, m37, c37⟩ := k37
              refine Ent.lenow m0 fun e37 l37 => ?_
              subst e37
              refine D.ch2 (i := 5) (j := 10) (by kernel_rfl) ?_ ?_
              · refine D.pk 5 rfl rfl (fun _ => rfl) (N.call (t_laws_toQuery (by first | omega | assumption | (constructor <;> omega)) (by first | omega | assumption | (constructor <;> omega))) rfl rfl rfl (by decide) rfl (fun w Lp hA => ⟨hA.ro haQ_Head, hA.ro haQ_Atoms⟩)) (fun k39 _ => ?_)
                obtain ⟨⟨a39_0, m39_0, c39_0⟩, ⟨a39_1, m39_1, c39_1⟩⟩ := k39
                refine Ent.lenow m0 fun e39_0 l39_0 => ?_
                subst e39_0
                refine Ent.lenow (mS m0) fun e39_1 l39_1 => ?_
                subst e39_1
                refine D.ch2 (i := 6) (j := 10) (by kernel_rfl) ?_ ?_
                · refine D.pk 6 rfl rfl (fun _ => rfl) (N.call (t_spec_AnswerablePart (by first | omega | assumption | (constructor <;> omega))) rfl rfl rfl (by decide) rfl (fun w Lp hA => ⟨hA.ow (mS (mS (mS m0))), hA.ow (mS (mS m0)), hA.ow m0, hA.ow (mS m0)⟩)) (fun k40 _ => ?_)
                  obtain ⟨⟨a40_0, m40_0, c40_0⟩, ⟨a40_1, m40_1, c40_1⟩⟩ := k40
                  refine Ent.lenow m0 fun e40_0 l40_0 => ?_
                  subst e40_0
                  refine Ent.lenow (mS m0) fun e40_1 l40_1 => ?_
                  subst e40_1
                  refine D.yp 7 rfl rfl (by decide) (Y.mv rfl) (by kernel_rfl) (D.yp 8 rfl rfl (by decide) (Y.ext rfl rfl) (by kernel_rfl) (D.yp 9 rfl rfl (by decide) (Y.ext rfl rfl) (by kernel_rfl) (D.st 10 rfl rfl (by kernel_rfl) (fun _ => rfl) (N.alloc ty_Query (by decide)) (fun b8 _ => (D.st 11 rfl rfl (by kernel_rfl) (fun h => by cases h) (N.sto (vs := [_, _]) (cs' := [_, _]) ty_Query rfl rfl rfl rfl rfl (Nat.le_of_ble_eq_true rfl) rfl) (fun _ _ => (D.yp 12 rfl rfl (by decide) (Y.as rfl) (by kernel_rfl) (D.done (by kernel_rfl) (Ent.p3 (Ent.drop (Ent.p3 (Ent.drop (Ent.p3 (Ent.drop (Ent.p3 (Ent.drop (Ent.p3 ?_)))))))))))))))))
                  refine Ent.p3 (Ent.p3 (Ent.p3 ?_))
                  exact E.mdn (b8, a40_0, c40_0, a40_1, c40_1) trivial ⟨rfl, rfl, rfl, rfl, rfl, trivial⟩ (.refl _)
                · refine D.pk 10 rfl rfl (fun _ => rfl) (N.alloc ty_Query (by decide)) (fun b8 _ => (D.st 6 rfl rfl (by kernel_rfl) (fun _ => rfl) (N.call (t_spec_AnswerablePart (by first | omega | assumption | (constructor <;> omega))) rfl rfl rfl (by decide) rfl (fun w Lp hA => ⟨hA.ow (mS (mS (mS (mS m0)))), hA.ow (mS (mS (mS m0))), hA.ow (mS m0), hA.ow (mS (mS m0))⟩)) (fun k40 _ => ?_)))
                  obtain ⟨⟨a40_0, m40_0, c40_0⟩, ⟨a40_1, m40_1, c40_1⟩⟩ := k40
                  refine Ent.lenow m0 fun e40_0 l40_0 => ?_
                  subst e40_0
                  refine Ent.lenow (mS m0) fun e40_1 l40_1 => ?_
                  subst e40_1
                  refine D.yp 7 rfl rfl (by decide) (Y.mv rfl) (by kernel_rfl) (D.yp 8 rfl rfl (by decide) (Y.ext rfl rfl) (by kernel_rfl) (D.yp 9 rfl rfl (by decide) (Y.ext rfl rfl) (by kernel_rfl) (Ent.p2 (D.st 11 rfl rfl (by kernel_rfl) (fun h => by cases h) (N.sto (vs := [_, _]) (cs' := [_, _]) ty_Query rfl rfl rfl rfl rfl (Nat.le_of_ble_eq_true rfl) rfl) (fun _ _ => (D.yp 12 rfl rfl (by decide) (Y.as rfl) (by kernel_rfl) (D.done (by kernel_rfl) (Ent.p3 (Ent.drop (Ent.p3 (Ent.drop (Ent.p3 (Ent.drop (Ent.p3 (Ent.drop (Ent.p3 ?_))))))))))))))))
                  refine Ent.p3 (Ent.p3 (Ent.p3 ?_))
                  exact E.mdn (b8, a40_0, c40_0, a40_1, c40_1) trivial ⟨rfl, rfl, rfl, rfl, rfl, trivial⟩ (.refl _)
              · refine D.pk 10 rfl rfl (fun _ => rfl) (N.alloc ty_Query (by decide)) (fun b8 _ => (D.st 5 rfl rfl (by kernel_rfl) (fun _ => rfl) (N.call (t_laws_toQuery (by first | omega | assumption | (constructor <;> omega)) (by first | omega | assumption | (constructor <;> omega))) rfl rfl rfl (by decide) rfl (fun w Lp hA => ⟨hA.ro haQ_Head, hA.ro haQ_Atoms⟩)) (fun k39 _ => ?_)))
                obtain ⟨⟨a39_0, m39_0, c39_0⟩, ⟨a39_1, m39_1, c39_1⟩⟩ := k39
                refine Ent.lenow m0 fun e39_0 l39_0 => ?_
                subst e39_0
                refine Ent.lenow (mS m0) fun e39_1 l39_1 => ?_
                subst e39_1
                refine D.st 6 rfl rfl (by kernel_rfl) (fun _ => rfl) (N.call (t_spec_AnswerablePart (by first | omega | assumption | (constructor <;> omega))) rfl rfl rfl (by decide) rfl (fun w Lp hA => ⟨hA.ow (mS (mS (mS (mS m0)))), hA.ow (mS (mS (mS m0))), hA.ow m0, hA.ow (mS m0)⟩)) (fun k40 _ => ?_)
                obtain ⟨⟨a40_0, m40_0, c40_0⟩, ⟨a40_1, m40_1, c40_1⟩⟩ := k40
                refine Ent.lenow m0 fun e40_0 l40_0 => ?_
                subst e40_0
                refine Ent.lenow (mS m0) fun e40_1 l40_1 => ?_
                subst e40_1
                refine D.yp 7 rfl rfl (by decide) (Y.mv rfl) (by kernel_rfl) (D.yp 8 rfl rfl (by decide) (Y.ext rfl rfl) (by kernel_rfl) (D.yp 9 rfl rfl (by decide) (Y.ext rfl rfl) (by kernel_rfl) (Ent.p4 (D.st 11 rfl rfl (by kernel_rfl) (fun h => by cases h) (N.sto (vs := [_, _]) (cs' := [_, _]) ty_Query rfl rfl rfl rfl rfl (Nat.le_of_ble_eq_true rfl) rfl) (fun _ _ => (D.yp 12 rfl rfl (by decide) (Y.as rfl) (by kernel_rfl) (D.done (by kernel_rfl) (Ent.p3 (Ent.drop (Ent.p3 (Ent.drop (Ent.p3 (Ent.drop (Ent.p3 (Ent.drop (Ent.p3 ?_))))))))))))))))
                refine Ent.p3 (Ent.p3 (Ent.p3 ?_))
                exact E.mdn (b8, a40_0, c40_0, a40_1, c40_1) trivial ⟨rfl, rfl, rfl, rfl, rfl, trivial⟩ (.refl _)
            · refine D.pk 10 rfl rfl (fun _ => rfl) (N.alloc ty_Query (by decide)) (fun b8 _ => (D.st 3 rfl rfl (by kernel_rfl) (fun _ => rfl) (N.call (t_laws_toMethodS (by first | omega | assumption | (constructor <;> omega))) rfl rfl rfl (by decide) rfl (fun w Lp hA => hA.ro haL)) (fun k37 _ => ?_)))
              obtain ⟨a37, m37, c37⟩ := k37
              refine Ent.lenow m0 fun e37 l37 => ?_
              subst e37
              refine D.st 5 rfl rfl (by kernel_rfl) (fun _ => rfl) (N.call (t_laws_toQuery (by first | omega | assumption | (constructor <;> omega)) (by first | omega | assumption | (constructor <;> omega))) rfl rfl rfl (by decide) rfl (fun w Lp hA => ⟨hA.ro haQ_Head, hA.ro haQ_Atoms⟩)) (fun k39 _ => ?_)
              obtain ⟨⟨a39_0, m39_0, c39_0⟩, ⟨a39_1, m39_1, c39_1⟩⟩ := k39
              refine Ent.lenow m0 fun e39_0 l39_0 => ?_
              subst e39_0
              refine Ent.lenow (mS m0) fun e39_1 l39_1 => ?_
              subst e39_1
              refine D.st 6 rfl rfl (by kernel_rfl) (fun _ => rfl) (N.call (t_spec_AnswerablePart (by first | omega | assumption | (constructor <;> omega))) rfl rfl rfl (by decide) rfl (fun w Lp hA => ⟨hA.ow (mS (mS (mS (mS m0)))), hA.ow (mS (mS m0)), hA.ow m0, hA.ow (mS m0)⟩)) (fun k40 _ => ?_)
              obtain ⟨⟨a40_0, m40_0, c40_0⟩, ⟨a40_1, m40_1, c40_1⟩⟩ := k40
              refine Ent.lenow m0 fun e40_0 l40_0 => ?_
              subst e40_0
              refine Ent.lenow (mS m0) fun e40_1 l40_1 => ?_
              subst e40_1
              refine D.yp 7 rfl rfl (by decide) (Y.mv rfl) (by kernel_rfl) (D.yp 8 rfl rfl (by decide) (Y.ext rfl rfl) (by kernel_rfl) (D.yp 9 rfl rfl (by decide) (Y.ext rfl rfl) (by kernel_rfl) (Ent.p5 (D.st 11 rfl rfl (by kernel_rfl) (fun h => by cases h) (N.sto (vs := [_, _]) (cs' := [_, _]) ty_Query rfl rfl rfl rfl rfl (Nat.le_of_ble_eq_true rfl) rfl) (fun _ _ => (D.yp 12 rfl rfl (by decide) (Y.as rfl) (by kernel_rfl) (D.done (by kernel_rfl) (Ent.p3 (Ent.drop (Ent.p3 (Ent.drop (Ent.p3 (Ent.drop (Ent.p3 (Ent.drop (Ent.p3 ?_))))))))))))))))
              refine Ent.p3 (Ent.p3 (Ent.p3 ?_))
              exact E.mdn (b8, a40_0, c40_0, a40_1, c40_1) trivial ⟨rfl, rfl, rfl, rfl, rfl, trivial⟩ (.refl _)
          · refine D.pk 10 rfl rfl (fun _ => rfl) (N.alloc ty_Query (by decide)) (fun b8 _ => (D.st 1 rfl rfl (by kernel_rfl) (fun _ => rfl) (N.call (t_laws_toIntS (by first | omega | assumption | (constructor <;> omega))) rfl rfl rfl (by decide) rfl (fun w Lp hA => hA.ro haS)) (fun k35 _ => ?_)))
            obtain ⟨a35, m35, c35⟩ := k35
            refine Ent.lenow m0 fun e35 l35 => ?_
            subst e35
            refine D.st 3 rfl rfl (by kernel_rfl) (fun _ => rfl) (N.call (t_laws_toMethodS (by first | omega | assumption | (constructor <;> omega))) rfl rfl rfl (by decide) rfl (fun w Lp hA => hA.ro haL)) (fun k37 _ => ?_)
            obtain ⟨a37, m37, c37⟩ := k37
            refine Ent.lenow m0 fun e37 l37 => ?_
            subst e37
            refine D.st 5 rfl rfl (by kernel_rfl) (fun _ => rfl) (N.call (t_laws_toQuery (by first | omega | assumption | (constructor <;> omega)) (by first | omega | assumption | (constructor <;> omega))) rfl rfl rfl (by decide) rfl (fun w Lp hA => ⟨hA.ro haQ_Head, hA.ro haQ_Atoms⟩)) (fun k39 _ => ?_)
            obtain ⟨⟨a39_0, m39_0, c39_0⟩, ⟨a39_1, m39_1, c39_1⟩⟩ := k39
            refine Ent.lenow m0 fun e39_0 l39_0 => ?_
            subst e39_0
            refine Ent.lenow (mS m0) fun e39_1 l39_1 => ?_
            subst e39_1
            refine D.st 6 rfl rfl (by kernel_rfl) (fun _ => rfl) (N.call (t_spec_AnswerablePart (by first | omega | assumption | (constructor <;> omega))) rfl rfl rfl (by decide) rfl (fun w Lp hA => ⟨hA.ow (mS (mS (mS m0))), hA.ow (mS (mS m0)), hA.ow m0, hA.ow (mS m0)⟩)) (fun k40 _ => ?_)
            obtain ⟨⟨a40_0, m40_0, c40_0⟩, ⟨a40_1, m40_1, c40_1⟩⟩ := k40
            refine Ent.lenow m0 fun e40_0 l40_0 => ?_
            subst e40_0
            refine Ent.lenow (mS m0) fun e40_1 l40_1 => ?_
            subst e40_1
            refine D.yp 7 rfl rfl (by decide) (Y.mv rfl) (by kernel_rfl) (D.yp 8 rfl rfl (by decide) (Y.ext rfl rfl) (by kernel_rfl) (D.yp 9 rfl rfl (by decide) (Y.ext rfl rfl) (by kernel_rfl) (Ent.p6 (D.st 11 rfl rfl (by kernel_rfl) (fun h => by cases h) (N.sto (vs := [_, _]) (cs' := [_, _]) ty_Query rfl rfl rfl rfl rfl (Nat.le_of_ble_eq_true rfl) rfl) (fun _ _ => (D.yp 12 rfl rfl (by decide) (Y.as rfl) (by kernel_rfl) (D.done (by kernel_rfl) (Ent.p3 (Ent.drop (Ent.p3 (Ent.drop (Ent.p3 (Ent.drop (Ent.p3 (Ent.drop (Ent.p3 ?_))))))))))))))))
            refine Ent.p3 (Ent.p3 (Ent.p3 ?_))
            exact E.mdn (b8, a40_0, c40_0, a40_1, c40_1) trivial ⟨rfl, rfl, rfl, rfl, rfl, trivial⟩ (.refl _)
        · obtain ⟨b8, a40_0, c40_0, a40_1, c40_1⟩ := kM
          show Ent _ _ _ [(0, .slice a_aS aS.length c_aS), (1, .slice a_aL aL.length c_aL), (5, .pointer (some ⟨b5, 0, none⟩)), (8, .pointer (some ⟨b8, 0, none⟩)), (9, .bool (prtB aS aL (aQ_Head, aQ_Atoms)))] [pt b8 55 [.slice a40_0 (prtH aS aL (aQ_Head, aQ_Atoms)).length c40_0, .slice a40_1 (prtA aS aL (aQ_Head, aQ_Atoms)).length c40_1], ow eIs [.slice a40_0 (prtH aS aL (aQ_Head, aQ_Atoms)).length c40_0] (prtH aS aL (aQ_Head, aQ_Atoms)), ow eAtoms [.slice a40_1 (prtA aS aL (aQ_Head, aQ_Atoms)).length c40_1] (prtA aS aL (aQ_Head, aQ_Atoms)), pt b5 51 [.slice a_aQ_Head aQ_Head.length c_aQ_Head, .slice a_aQ_Atoms aQ_Atoms.length c_aQ_Atoms]] _
          refine E.thn (E.seq (E.region (l := [0, 1, 2]) rfl (E.y rfl rfl (by decide) ((Y.mv rfl).yd) (E.st rfl rfl (N.call (t_laws_toIntS (by first | omega | assumption | (constructor <;> omega))) rfl rfl rfl (by decide) rfl (fun w Lp hA => hA.ro haS)) (fun k44 _ => ?_)))))
          obtain ⟨a44, m44, c44⟩ := k44
          refine Ent.lenow m0 fun e44 l44 => ?_
          subst e44
          refine E.y rfl rfl (by decide) ((Y.as rfl).yd) (E.nil (E.thn (E.seq (E.region (l := [0, 1, 2]) rfl (E.y rfl rfl (by decide) ((Y.mv rfl).yd) (E.st rfl rfl (N.call (t_laws_toMethodS (by first | omega | assumption | (constructor <;> omega))) rfl rfl rfl (by decide) rfl (fun w Lp hA => hA.ro haL)) (fun k46 _ => ?_)))))))
          obtain ⟨a46, m46, c46⟩ := k46
          refine Ent.lenow m0 fun e46 l46 => ?_
          subst e46
          refine E.y rfl rfl (by decide) ((Y.as rfl).yd) (E.nil (E.thn (E.seq (E.region (l := [0, 1, 2, 3]) rfl (E.y rfl rfl (by decide) (Y.ldS (cs := [_, _]) ty_lQuery rfl (Has.pt (mS (mS (mS (mS (mS m0)))))) rfl) (E.st rfl rfl (N.call (t_laws_toQuery (by first | omega | assumption | (constructor <;> omega)) (by first | omega | assumption | (constructor <;> omega))) rfl rfl rfl (by decide) rfl (fun w Lp hA => ⟨hA.ro haQ_Head, hA.ro haQ_Atoms⟩)) (fun k48 _ => ?_)))))))
          obtain ⟨⟨a48_0, m48_0, c48_0⟩, ⟨a48_1, m48_1, c48_1⟩⟩ := k48
          refine Ent.lenow m0 fun e48_0 l48_0 => ?_
          subst e48_0
          refine Ent.lenow (mS m0) fun e48_1 l48_1 => ?_
          subst e48_1
          refine E.st rfl rfl (N.alloc ty_Query (by decide)) (fun b12 _ => (E.st rfl rfl (N.sto (vs := [_, _]) (cs' := [_, _]) ty_Query rfl rfl rfl rfl rfl (Nat.le_of_ble_eq_true rfl) rfl) (fun _ _ => (E.nil (E.thn (E.seq (E.region (l := [0, 1, 2, 3, 4, 5, 6, 7, 8, 9]) rfl (E.y rfl rfl (by decide) ((Y.mv rfl).yd) (E.y rfl rfl (by decide) ((Y.mv rfl).yd) (E.y rfl rfl (by decide) (Y.ldS (cs := [_, _]) ty_Query rfl (Has.pt m0) rfl) (E.st rfl rfl (N.call (t_impl_AnswerablePart (by first | omega | assumption | (constructor <;> omega))) rfl rfl rfl (by decide) rfl (fun w Lp hA => ⟨hA.ow (mS (mS (mS (mS m0)))), hA.ow (mS (mS (mS m0))), hA.ow (mS m0), hA.ow (mS (mS m0))⟩)) (fun k53 _ => ?_))))))))))))
          obtain ⟨⟨a53_0, m53_0, c53_0⟩, ⟨a53_1, m53_1, c53_1⟩⟩ := k53
          refine Ent.lenow m0 fun e53_0 l53_0 => ?_
          subst e53_0
          refine Ent.lenow (mS m0) fun e53_1 l53_1 => ?_
          subst e53_1
          refine E.y rfl rfl (by decide) ((Y.mv rfl).yd) (E.y rfl rfl (by decide) ((Y.ext rfl rfl).yd) (E.y rfl rfl (by decide) ((Y.ext rfl rfl).yd) (E.st rfl rfl (N.alloc ty_Query (by decide)) (fun b13 _ => (E.st rfl rfl (N.sto (vs := [_, _]) (cs' := [_, _]) ty_Query rfl rfl rfl rfl rfl (Nat.le_of_ble_eq_true rfl) rfl) (fun _ _ => (E.y rfl rfl (by decide) ((Y.as rfl).yd) (E.nil (E.thn (E.seq (E.seq (E.region (l := [0, 1, 2, 3, 4, 5, 6, 7, 8]) rfl (E.y rfl rfl (by decide) (Y.ldS (cs := [_, _]) ty_Query rfl (Has.pt m0) rfl) (E.y rfl rfl (by decide) (Y.ldS (cs := [_, _]) ty_Query rfl (Has.pt (mS (mS (mS (mS (mS (mS (mS (mS m0))))))))) rfl) (E.st rfl rfl (N.call0 t_laws_eqQuery rfl rfl rfl (by decide) (fun w Lp hA => ⟨hA.ow (mS m0), hA.ow (mS (mS m0)), hA.ow (mS (mS (mS (mS (mS (mS (mS (mS (mS m0))))))))), hA.ow (mS (mS (mS (mS (mS (mS (mS (mS (mS (mS m0))))))))))⟩)) (fun _ _ => (Ent.b (fun q58 => ?_) (fun q58 => ?_))))))))))))))))))
          · refine E.y rfl rfl (by decide) ((Y.not (b := true) rfl).yd) (E.y rfl rfl (by decide) ((Y.mv rfl).yd) (E.y rfl rfl (by decide) ((Y.mv rfl).yd) (E.y rfl rfl (by decide) ((Y.mv rfl).yd) (E.y rfl rfl (by decide) ((Y.neqB (by kernel_rfl) rfl rfl).yd) (Ent.d (fun q63 => ?_) (fun q63 => ?_))))))
            · exact absurd rfl q63
            · refine E.y rfl rfl (by decide) ((Y.pkf rfl rfl).yd) (E.nil (E.thn (E.cf rfl (E.skipc (E.thn (E.seq (E.seq (E.region (l := [0, 1, 2, 3, 4]) rfl (E.y rfl rfl (by decide) ((Y.mv rfl).yd) (E.y rfl rfl (by decide) ((Y.mv rfl).yd) (E.st rfl rfl (N.call (t_laws_toIntS (by first | omega | assumption | (constructor <;> omega))) rfl rfl rfl (by decide) rfl (fun w Lp hA => hA.ro haS)) (fun k67 _ => ?_))))))))))))
              obtain ⟨a67, m67, c67⟩ := k67
              refine Ent.lenow m0 fun e67 l67 => ?_
              subst e67
              refine E.st rfl rfl (N.call0 t_laws_eqIntS rfl rfl rfl (by decide) (fun w Lp hA => ⟨hA.ow (mS (mS (mS (mS (mS (mS (mS (mS m0)))))))), hA.ow m0⟩)) (fun _ _ => (Ent.b (fun q68 => ?_) (fun q68 => ?_)))
              · refine E.y rfl rfl (by decide) ((Y.not (b := true) rfl).yd) (E.nil (E.thn (E.cf rfl (E.skipc (E.thn (E.seq (E.seq (E.region (l := [0, 1, 2, 3, 4]) rfl (E.y rfl rfl (by decide) ((Y.mv rfl).yd) (E.y rfl rfl (by decide) ((Y.mv rfl).yd) (E.st rfl rfl (N.call (t_laws_toMethodS (by first | omega | assumption | (constructor <;> omega))) rfl rfl rfl (by decide) rfl (fun w Lp hA => hA.ro haL)) (fun k72 _ => ?_))))))))))))
                obtain ⟨a72, m72, c72⟩ := k72
                refine Ent.lenow m0 fun e72 l72 => ?_
                subst e72
                refine E.st rfl rfl (N.call0 t_laws_eqMethodS rfl rfl rfl (by decide) (fun w Lp hA => ⟨hA.ow (mS (mS (mS (mS (mS (mS (mS (mS m0)))))))), hA.ow m0⟩)) (fun _ _ => (Ent.b (fun q73 => ?_) (fun q73 => ?_)))
                · refine E.y rfl rfl (by decide) ((Y.not (b := true) rfl).yd) (E.nil (E.thn (E.cf rfl (E.skipc (E.thn (E.seq (E.seq (D.region (fun j => true) mixed (D.y 0 rfl rfl (by decide) (Y.ldS (cs := [_, _]) ty_Query rfl (Has.pt (mS (mS (mS (mS (mS m0)))))) rfl) (by kernel_rfl) (D.y 1 rfl rfl (by decide) (Y.ldS (cs := [_, _]) ty_lQuery rfl (Has.pt (mS (mS (mS (mS (mS (mS (mS (mS (mS (mS (mS (mS (mS m0)))))))))))))) rfl) (by kernel_rfl) (D.st 2 rfl rfl (by kernel_rfl) (fun _ => rfl) (N.call (t_laws_toQuery (by first | omega | assumption | (constructor <;> omega)) (by first | omega | assumption | (constructor <;> omega))) rfl rfl rfl (by decide) rfl (fun w Lp hA => ⟨hA.ro haQ_Head, hA.ro haQ_Atoms⟩)) (fun k77 _ => ?_))))))))))))
                  obtain ⟨⟨a77_0, m77_0, c77_0⟩, ⟨a77_1, m77_1, c77_1⟩⟩ := k77
                  refine Ent.lenow m0 fun e77_0 l77_0 => ?_
                  subst e77_0
                  refine Ent.lenow (mS m0) fun e77_1 l77_1 => ?_
                  subst e77_1
                  refine D.st 3 rfl rfl (by kernel_rfl) (fun _ => rfl) (N.call0 t_laws_eqQuery rfl rfl rfl (by decide) (fun w Lp hA => ⟨hA.ow (mS (mS (mS (mS (mS (mS (mS (mS m0)))))))), hA.ow (mS (mS (mS (mS (mS (mS (mS (mS (mS m0))))))))), hA.ow m0, hA.ow (mS m0)⟩)) (fun _ _ => (Ent.b (fun q78 => ?_) (fun q78 => ?_)))
                  · refine D.yp 4 rfl rfl (by decide) (Y.not (b := true) rfl) (by kernel_rfl) (D.done (by kernel_rfl) (E.thn (E.cf rfl (E.skipc (E.thn (E.seq (E.region (l := [0]) rfl (E.y rfl rfl (by decide) ((Y.as rfl).yd) (E.nil (E.thn (E.seq (E.region (l := [0, 1, 2, 3]) rfl (E.y rfl rfl (by decide) ((Y.mv rfl).yd) (E.y rfl rfl (by decide) ((Y.mv rfl).yd) (Ent.p11 (E.st rfl rfl (N.call (pre := [_]) t_laws_markIntS rfl rfl rfl (by decide) rfl (fun w Lp hA => ⟨(by first | assumption | omega), (by first | assumption | omega)⟩)) (fun _ _ => (E.y rfl rfl (by decide) ((Y.as rfl).yd) (E.nil (E.thn (E.seq (E.region (l := [0, 1, 2, 3]) rfl (E.y rfl rfl (by decide) ((Y.mv rfl).yd) (E.y rfl rfl (by decide) ((Y.mv rfl).yd) (Ent.p11 (E.st rfl rfl (N.call (pre := [_]) t_laws_markMethodS rfl rfl rfl (by decide) rfl (fun w Lp hA => ⟨(by first | assumption | omega), (by first | assumption | omega)⟩)) (fun _ _ => (E.y rfl rfl (by decide) ((Y.as rfl).yd) (E.nil (E.thn (E.seq (E.region (l := [0, 1, 2, 3]) rfl (E.y rfl rfl (by decide) (Y.ldS (cs := [_, _]) ty_Query rfl (Has.pt (mS (mS (mS (mS (mS (mS (mS (mS (mS m0)))))))))) rfl) (E.y rfl rfl (by decide) ((Y.mv rfl).yd) (Ent.p11 ?_)))))))))))))))))))))))))))))))))))
                    refine Ent.p11 (E.st rfl rfl (N.call (pre := [_, _]) t_laws_markQuery rfl rfl rfl (by decide) rfl (fun w Lp hA => ⟨(by first | assumption | omega), (by first | assumption | omega)⟩)) (fun _ _ => (E.y rfl rfl (by decide) ((Y.as rfl).yd) (E.nil (E.thn (E.seq (E.seq (E.region (l := [0, 1, 2, 3, 4, 5, 6, 7, 8, 9, 10, 11, 12]) rfl (E.y rfl rfl (by decide) ((Y.mv rfl).yd) (E.y rfl rfl (by decide) ((Y.lss rfl rfl).yd) (Ent.d (fun q90 => ?_) (fun q90 => ?_))))))))))))
                    · exact absurd q90 (by omega)
                    · refine E.y rfl rfl (by decide) ((Y.mv rfl).yd) (E.y rfl rfl (by decide) (Y.ldS (cs := [_, _]) ty_Query rfl (Has.pt (mS (mS (mS (mS (mS (mS (mS (mS m0))))))))) rfl) (E.y rfl rfl (by decide) (Y.ldS (cs := [_, _]) ty_Query rfl (Has.pt (mS (mS (mS (mS (mS (mS (mS (mS (mS (mS (mS (mS m0))))))))))))) rfl) (E.st rfl rfl (N.call0 t_laws_eqQuery rfl rfl rfl (by decide) (fun w Lp hA => ⟨hA.ow (mS (mS (mS (mS (mS (mS (mS (mS (mS m0))))))))), hA.ow (mS (mS (mS (mS (mS (mS (mS (mS (mS (mS m0)))))))))), hA.ow (mS (mS (mS (mS (mS (mS (mS (mS (mS (mS (mS (mS (mS m0))))))))))))), hA.ow (mS (mS (mS (mS (mS (mS (mS (mS (mS (mS (mS (mS (mS (mS m0))))))))))))))⟩)) (fun _ _ => (Ent.b (fun q94 => ?_) (fun q94 => ?_))))))
                      · refine E.y rfl rfl (by decide) ((Y.not (b := true) rfl).yd) (E.y rfl rfl (by decide) ((Y.pkf rfl rfl).yd) (E.y rfl rfl (by decide) ((Y.mv rfl).yd) (E.y rfl rfl (by decide) ((Y.mv rfl).yd) (E.y rfl rfl (by decide) ((Y.mv rfl).yd) (E.y rfl rfl (by decide) ((Y.neqB (by kernel_rfl) rfl rfl).yd) (Ent.d (fun q100 => ?_) (fun q100 => ?_)))))))
                        · exact absurd rfl q100
                        · refine E.y rfl rfl (by decide) ((Y.pkf rfl rfl).yd) (E.nil (E.thn (E.cf rfl (E.skipc (E.thn (E.seq (E.region (l := [0]) rfl (E.y rfl rfl (by decide) ((Y.as rfl).yd) (E.nil (E.thn (E.seq (E.region (l := [0, 1, 2, 3]) rfl (E.y rfl rfl (by decide) (Y.ldS (cs := [_, _]) ty_Query rfl (Has.pt (mS (mS (mS (mS (mS (mS (mS (mS m0))))))))) rfl) (E.y rfl rfl (by decide) ((Y.mv rfl).yd) (Ent.p10 (Ent.p10 (E.st rfl rfl (N.call (pre := [_, _]) t_laws_markQuery rfl rfl rfl (by decide) rfl (fun w Lp hA => ⟨(by first | assumption | omega), (by first | assumption | omega)⟩)) (fun _ _ => (E.y rfl rfl (by decide) ((Y.as rfl).yd) (E.nil (E.thn (E.seq (E.region (l := [0]) rfl (E.y rfl rfl (by decide) ((Y.as rfl).yd) (E.nil (E.thn (E.seq (E.region (l := [0, 1, 2, 3]) rfl (E.y rfl rfl (by decide) (Y.ldS (cs := [_, _]) ty_Query rfl (Has.pt (mS (mS (mS (mS (mS (mS (mS (mS (mS (mS m0))))))))))) rfl) (E.y rfl rfl (by decide) ((Y.mv rfl).yd) (E.st rfl rfl (N.call0 (t_laws_heldQuery (by first | exact mkL_mk cm_I mm_I | (simp only [mkL_c cm_I, mkL_c cm_Is, mkL_c cm_Fact, mkL_c cm_Facts, mkL_c cm_Atom, mkL_c cm_Atoms, mkL_c cm_Access, mkL_c cm_Accesss, mkL_c cm_Step, mkL_c cm_Steps, mkL_c cm_Query, mkL_c cm_Querys, mkL_c cm_Binding, mkL_c cm_Bindings, mkL_c cm_Method, mkL_c cm_Methods, mkL_c cm_Rule, mkL_c cm_Rules, mkL_c cm_Line, mkL_c cm_Lines]; exact mkL_mk cm_I mm_I)) (by first | exact mkL_mk cm_Atom mm_Atom | (simp only [mkL_c cm_I, mkL_c cm_Is, mkL_c cm_Fact, mkL_c cm_Facts, mkL_c cm_Atom, mkL_c cm_Atoms, mkL_c cm_Access, mkL_c cm_Accesss, mkL_c cm_Step, mkL_c cm_Steps, mkL_c cm_Query, mkL_c cm_Querys, mkL_c cm_Binding, mkL_c cm_Bindings, mkL_c cm_Method, mkL_c cm_Methods, mkL_c cm_Rule, mkL_c cm_Rules, mkL_c cm_Line, mkL_c cm_Lines]; exact mkL_mk cm_Atom mm_Atom))) rfl rfl rfl (by decide) (fun w Lp hA => ⟨hA.ow m0, hA.ow (mS m0), (by (try simp only [mkL_c cm_I, mkL_c cm_Is, mkL_c cm_Fact, mkL_c cm_Facts, mkL_c cm_Atom, mkL_c cm_Atoms, mkL_c cm_Access, mkL_c cm_Accesss, mkL_c cm_Step, mkL_c cm_Steps, mkL_c cm_Query, mkL_c cm_Querys, mkL_c cm_Binding, mkL_c cm_Bindings, mkL_c cm_Method, mkL_c cm_Methods, mkL_c cm_Rule, mkL_c cm_Rules, mkL_c cm_Line, mkL_c cm_Lines]); omega), (by (try simp only [mkL_c cm_I, mkL_c cm_Is, mkL_c cm_Fact, mkL_c cm_Facts, mkL_c cm_Atom, mkL_c cm_Atoms, mkL_c cm_Access, mkL_c cm_Accesss, mkL_c cm_Step, mkL_c cm_Steps, mkL_c cm_Query, mkL_c cm_Querys, mkL_c cm_Binding, mkL_c cm_Bindings, mkL_c cm_Method, mkL_c cm_Methods, mkL_c cm_Rule, mkL_c cm_Rules, mkL_c cm_Line, mkL_c cm_Lines]); omega)⟩)) (fun _ _ => (E.y rfl rfl (by decide) ((Y.as rfl).yd) (E.nil (E.thn (E.seq (E.seq (E.region (l := [0, 1]) rfl (E.y rfl rfl (by decide) ((Y.mv rfl).yd) (E.y rfl rfl (by decide) ((Y.lss rfl rfl).yd) (Ent.d (fun q109 => ?_) (fun q109 => ?_))))))))))))))))))))))))))))))))))))))))))
                          · exact absurd q109 (by omega)
                          · refine E.nil (E.thn (E.cf rfl (E.skipc (E.thn (E.seq (E.seq (E.region (l := [0, 1, 2]) rfl (E.y rfl rfl (by decide) ((Y.mv rfl).yd) (E.y rfl rfl (by decide) ((Y.mv rfl).yd) (E.y rfl rfl (by decide) ((Y.neq rfl rfl).yd) (Ent.d (fun q112 => ?_) (fun q112 => ?_))))))))))))
                            · exact absurd (by simp only [mkL_c cm_I, mkL_c cm_Is, mkL_c cm_Fact, mkL_c cm_Facts, mkL_c cm_Atom, mkL_c cm_Atoms, mkL_c cm_Access, mkL_c cm_Accesss, mkL_c cm_Step, mkL_c cm_Steps, mkL_c cm_Query, mkL_c cm_Querys, mkL_c cm_Binding, mkL_c cm_Bindings, mkL_c cm_Method, mkL_c cm_Methods, mkL_c cm_Rule, mkL_c cm_Rules, mkL_c cm_Line, mkL_c cm_Lines]) q112
                            · refine E.nil (E.thn (E.cf rfl (E.skipc (E.thn (E.seq (E.mid (κ := Nat × Option Addr × Nat × Option Addr × Nat) (fun _ => True) (fun kM => [(8, .pointer (some ⟨b8, 0, none⟩)), (9, .bool (prtB aS aL (aQ_Head, aQ_Atoms))), (13, .pointer (some ⟨b13, 0, none⟩)), (16, .int .i64 (1 + ((totS cE_I (prtH aS aL (aQ_Head, aQ_Atoms)) + totS cE_Atom (prtA aS aL (aQ_Head, aQ_Atoms)) : Nat) : Int))), (18, .pointer (some ⟨kM.1, 0, none⟩)), (19, .bool (prtB aS aL (aQ_Head, aQ_Atoms)))]) (fun kM => [pt kM.1 55 [.slice kM.2.1 (prtH aS aL (aQ_Head, aQ_Atoms)).length kM.2.2.1, .slice kM.2.2.2.1 (prtA aS aL (aQ_Head, aQ_Atoms)).length kM.2.2.2.2], ow eIs [.slice kM.2.1 (prtH aS aL (aQ_Head, aQ_Atoms)).length kM.2.2.1] (prtH aS aL (aQ_Head, aQ_Atoms)), ow eAtoms [.slice kM.2.2.2.1 (prtA aS aL (aQ_Head, aQ_Atoms)).length kM.2.2.2.2] (prtA aS aL (aQ_Head, aQ_Atoms)), ow eIs [.slice a53_0 (prtH aS aL (aQ_Head, aQ_Atoms)).length c53_0] (mkL cE_I mE_I (prtH aS aL (aQ_Head, aQ_Atoms)) 1), ow eAtoms [.slice a53_1 (prtA aS aL (aQ_Head, aQ_Atoms)).length c53_1] (mkL cE_Atom mE_Atom (prtA aS aL (aQ_Head, aQ_Atoms)) (1 + ((totS cE_I (prtH aS aL (aQ_Head, aQ_Atoms)) : Nat) : Int))), ow eIs [.slice a48_0 (aQ_Head).length c48_0] (mkL cE_I mE_I aQ_Head ((1 + (totS cE_I aS : Nat)) + (totS cE_Method aL : Nat))), ow eAtoms [.slice a48_1 (aQ_Atoms).length c48_1] (mkL cE_Atom mE_Atom aQ_Atoms (((1 + (totS cE_I aS : Nat)) + (totS cE_Method aL : Nat)) + ((totS cE_I aQ_Head : Nat) : Int))), ow eMethods [.slice a46 (aL).length c46] (mkL cE_Method mE_Method aL (1 + (totS cE_I aS : Nat))), ow eIs [.slice a44 (aS).length c44] (mkL cE_I mE_I aS 1), ow eIs [.slice a77_0 (aQ_Head).length c77_0] aQ_Head, ow eAtoms [.slice a77_1 (aQ_Atoms).length c77_1] aQ_Atoms, ow eMethods [.slice a72 (aL).length c72] aL, ow eIs [.slice a67 (aS).length c67] aS, pt b13 55 [.slice a53_0 (prtH aS aL (aQ_Head, aQ_Atoms)).length c53_0, .slice a53_1 (prtA aS aL (aQ_Head, aQ_Atoms)).length c53_1], pt b12 55 [.slice a48_0 (aQ_Head).length c48_0, .slice a48_1 (aQ_Atoms).length c48_1], pt b8 55 [.slice a40_0 (prtH aS aL (aQ_Head, aQ_Atoms)).length c40_0, .slice a40_1 (prtA aS aL (aQ_Head, aQ_Atoms)).length c40_1], ow eIs [.slice a40_0 (prtH aS aL (aQ_Head, aQ_Atoms)).length c40_0] (prtH aS aL (aQ_Head, aQ_Atoms)), ow eAtoms [.slice a40_1 (prtA aS aL (aQ_Head, aQ_Atoms)).length c40_1] (prtA aS aL (aQ_Head, aQ_Atoms)), pt b5 51 [.slice a_aQ_Head aQ_Head.length c_aQ_Head, .slice a_aQ_Atoms aQ_Atoms.length c_aQ_Atoms]]) ?_ (fun kM _ => ?_)))))))
                              · refine D.region (fun j => !(Nat.beq j 11)) mixed (D.yp 0 rfl rfl (by decide) (Y.mv rfl) (by kernel_rfl) (D.yp 2 rfl rfl (by decide) (Y.mv rfl) (by kernel_rfl) (D.y 4 rfl rfl (by decide) (Y.ldS (cs := [_, _]) ty_lQuery rfl (Has.pt (mS (mS (mS (mS (mS (mS (mS (mS (mS (mS (mS (mS (mS (mS (mS m0)))))))))))))))) rfl) (by kernel_rfl) (D.ch2 (i := 1) (j := 10) (by kernel_rfl) ?_ ?_))))
                                · refine D.pk 1 rfl rfl (fun _ => rfl) (N.call (t_laws_toIntS (by first | omega | assumption | (constructor <;> omega))) rfl rfl rfl (by decide) rfl (fun w Lp hA => hA.ro haS)) (fun k115 _ => ?_)
                                  obtain ⟨a115, m115, c115⟩ := k115
                                  refine Ent.lenow m0 fun e115 l115 => ?_
                                  subst e115
                                  refine D.ch2 (i := 3) (j := 10) (by kernel_rfl) ?_ ?_
                                  · refine D.pk 3 rfl rfl (fun _ => rfl) (N.call (t_laws_toMethodS (by first | omega | assumption | (constructor <;> omega))) rfl rfl rfl (by decide) rfl (fun w Lp hA => hA.ro haL)) (fun k117 _ => ?_)
                                    obtain ⟨a117, m117, c117⟩ := k117
                                    refine Ent.lenow m0 fun e117 l117 => ?_
                                    subst e117
                                    refine D.ch2 (i := 5) (j := 10) (by kernel_rfl) ?_ ?_
                                    · refine D.pk 5 rfl rfl (fun _ => rfl) (N.call (t_laws_toQuery (by first | omega | assumption | (constructor <;> omega)) (by first | omega | assumption | (constructor <;> omega))) rfl rfl rfl (by decide) rfl (fun w Lp hA => ⟨hA.ro haQ_Head, hA.ro haQ_Atoms⟩)) (fun k119 _ => ?_)
                                      obtain ⟨⟨a119_0, m119_0, c119_0⟩, ⟨a119_1, m119_1, c119_1⟩⟩ := k119
                                      refine Ent.lenow m0 fun e119_0 l119_0 => ?_
                                      subst e119_0
                                      refine Ent.lenow (mS m0) fun e119_1 l119_1 => ?_
                                      subst e119_1
                                      refine D.ch2 (i := 6) (j := 10) (by kernel_rfl) ?_ ?_
                                      · refine D.pk 6 rfl rfl (fun _ => rfl) (N.call (t_impl_AnswerablePart (by first | omega | assumption | (constructor <;> omega))) rfl rfl rfl (by decide) rfl (fun w Lp hA => ⟨hA.ow (mS (mS (mS m0))), hA.ow (mS (mS m0)), hA.ow m0, hA.ow (mS m0)⟩)) (fun k120 _ => ?_)
                                        obtain ⟨⟨a120_0, m120_0, c120_0⟩, ⟨a120_1, m120_1, c120_1⟩⟩ := k120
                                        refine Ent.lenow m0 fun e120_0 l120_0 => ?_
                                        subst e120_0
                                        refine Ent.lenow (mS m0) fun e120_1 l120_1 => ?_
                                        subst e120_1
                                        refine D.yp 7 rfl rfl (by decide) (Y.mv rfl) (by kernel_rfl) (D.yp 8 rfl rfl (by decide) (Y.ext rfl rfl) (by kernel_rfl) (D.yp 9 rfl rfl (by decide) (Y.ext rfl rfl) (by kernel_rfl) (D.st 10 rfl rfl (by kernel_rfl) (fun _ => rfl) (N.alloc ty_Query (by decide)) (fun b18 _ => (D.st 11 rfl rfl (by kernel_rfl) (fun h => by cases h) (N.sto (vs := [_, _]) (cs' := [_, _]) ty_Query rfl rfl rfl rfl rfl (Nat.le_of_ble_eq_true rfl) rfl) (fun _ _ => (D.yp 12 rfl rfl (by decide) (Y.as rfl) (by kernel_rfl) (D.done (by kernel_rfl) (Ent.p3 (Ent.drop (Ent.p3 (Ent.drop (Ent.p3 (Ent.drop (Ent.p3 (Ent.drop (Ent.p18 ?_)))))))))))))))))
                                        refine Ent.p18 (Ent.p18 (Ent.p18 (Ent.p18 (Ent.p18 (Ent.p18 (Ent.p18 (Ent.p18 (Ent.p18 (Ent.p18 (Ent.p18 (Ent.p18 (Ent.p18 (Ent.p18 (Ent.p18 ?_))))))))))))))
                                        refine Ent.p18 (Ent.p18 (Ent.p18 ?_))
                                        exact E.mdn (b18, a120_0, c120_0, a120_1, c120_1) trivial ⟨rfl, rfl, rfl, rfl, rfl, rfl, trivial⟩ (.refl _)
                                      · refine D.pk 10 rfl rfl (fun _ => rfl) (N.alloc ty_Query (by decide)) (fun b18 _ => (D.st 6 rfl rfl (by kernel_rfl) (fun _ => rfl) (N.call (t_impl_AnswerablePart (by first | omega | assumption | (constructor <;> omega))) rfl rfl rfl (by decide) rfl (fun w Lp hA => ⟨hA.ow (mS (mS (mS (mS m0)))), hA.ow (mS (mS (mS m0))), hA.ow (mS m0), hA.ow (mS (mS m0))⟩)) (fun k120 _ => ?_)))
                                        obtain ⟨⟨a120_0, m120_0, c120_0⟩, ⟨a120_1, m120_1, c120_1⟩⟩ := k120
                                        refine Ent.lenow m0 fun e120_0 l120_0 => ?_
                                        subst e120_0
                                        refine Ent.lenow (mS m0) fun e120_1 l120_1 => ?_
                                        subst e120_1
                                        refine D.yp 7 rfl rfl (by decide) (Y.mv rfl) (by kernel_rfl) (D.yp 8 rfl rfl (by decide) (Y.ext rfl rfl) (by kernel_rfl) (D.yp 9 rfl rfl (by decide) (Y.ext rfl rfl) (by kernel_rfl) (Ent.p2 (D.st 11 rfl rfl (by kernel_rfl) (fun h => by cases h) (N.sto (vs := [_, _]) (cs' := [_, _]) ty_Query rfl rfl rfl rfl rfl (Nat.le_of_ble_eq_true rfl) rfl) (fun _ _ => (D.yp 12 rfl rfl (by decide) (Y.as rfl) (by kernel_rfl) (D.done (by kernel_rfl) (Ent.p3 (Ent.drop (Ent.p3 (Ent.drop (Ent.p3 (Ent.drop (Ent.p3 (Ent.drop (Ent.p18 ?_))))))))))))))))
                                        refine Ent.p18 (Ent.p18 (Ent.p18 (Ent.p18 (Ent.p18 (Ent.p18 (Ent.p18 (Ent.p18 (Ent.p18 (Ent.p18 (Ent.p18 (Ent.p18 (Ent.p18 (Ent.p18 (Ent.p18 ?_))))))))))))))
                                        refine Ent.p18 (Ent.p18 (Ent.p18 ?_))
                                        exact E.mdn (b18, a120_0, c120_0, a120_1, c120_1) trivial ⟨rfl, rfl, rfl, rfl, rfl, rfl, trivial⟩ (.refl _)
                                    · refine D.pk 10 rfl rfl (fun _ => rfl) (N.alloc ty_Query (by decide)) (fun b18 _ => (D.st 5 rfl rfl (by kernel_rfl) (fun _ => rfl) (N.call (t_laws_toQuery (by first | omega | assumption | (constructor <;> omega)) (by first | omega | assumption | (constructor <;> omega))) rfl rfl rfl (by decide) rfl (fun w Lp hA => ⟨hA.ro haQ_Head, hA.ro haQ_Atoms⟩)) (fun k119 _ => ?_)))
                                      obtain ⟨⟨a119_0, m119_0, c119_0⟩, ⟨a119_1, m119_1, c119_1⟩⟩ := k119
                                      refine Ent.lenow m0 fun e119_0 l119_0 => ?_
                                      subst e119_0
                                      refine Ent.lenow (mS m0) fun e119_1 l119_1 => ?_
                                      subst e119_1
                                      refine D.st 6 rfl rfl (by kernel_rfl) (fun _ => rfl) (N.call (t_impl_AnswerablePart (by first | omega | assumption | (constructor <;> omega))) rfl rfl rfl (by decide) rfl (fun w Lp hA => ⟨hA.ow (mS (mS (mS (mS m0)))), hA.ow (mS (mS (mS m0))), hA.ow m0, hA.ow (mS m0)⟩)) (fun k120 _ => ?_)
                                      obtain ⟨⟨a120_0, m120_0, c120_0⟩, ⟨a120_1, m120_1, c120_1⟩⟩ := k120
                                      refine Ent.lenow m0 fun e120_0 l120_0 => ?_
                                      subst e120_0
                                      refine Ent.lenow (mS m0) fun e120_1 l120_1 => ?_
                                      subst e120_1
                                      refine D.yp 7 rfl rfl (by decide) (Y.mv rfl) (by kernel_rfl) (D.yp 8 rfl rfl (by decide) (Y.ext rfl rfl) (by kernel_rfl) (D.yp 9 rfl rfl (by decide) (Y.ext rfl rfl) (by kernel_rfl) (Ent.p4 (D.st 11 rfl rfl (by kernel_rfl) (fun h => by cases h) (N.sto (vs := [_, _]) (cs' := [_, _]) ty_Query rfl rfl rfl rfl rfl (Nat.le_of_ble_eq_true rfl) rfl) (fun _ _ => (D.yp 12 rfl rfl (by decide) (Y.as rfl) (by kernel_rfl) (D.done (by kernel_rfl) (Ent.p3 (Ent.drop (Ent.p3 (Ent.drop (Ent.p3 (Ent.drop (Ent.p3 (Ent.drop (Ent.p18 ?_))))))))))))))))
                                      refine Ent.p18 (Ent.p18 (Ent.p18 (Ent.p18 (Ent.p18 (Ent.p18 (Ent.p18 (Ent.p18 (Ent.p18 (Ent.p18 (Ent.p18 (Ent.p18 (Ent.p18 (Ent.p18 (Ent.p18 ?_))))))))))))))
                                      refine Ent.p18 (Ent.p18 (Ent.p18 ?_))
                                      exact E.mdn (b18, a120_0, c120_0, a120_1, c120_1) trivial ⟨rfl, rfl, rfl, rfl, rfl, rfl, trivial⟩ (.refl _)
                                  · refine D.pk 10 rfl rfl (fun _ => rfl) (N.alloc ty_Query (by decide)) (fun b18 _ => (D.st 3 rfl rfl (by kernel_rfl) (fun _ => rfl) (N.call (t_laws_toMethodS (by first | omega | assumption | (constructor <;> omega))) rfl rfl rfl (by decide) rfl (fun w Lp hA => hA.ro haL)) (fun k117 _ => ?_)))
                                    obtain ⟨a117, m117, c117⟩ := k117
                                    refine Ent.lenow m0 fun e117 l117 => ?_
                                    subst e117
                                    refine D.st 5 rfl rfl (by kernel_rfl) (fun _ => rfl) (N.call (t_laws_toQuery (by first | omega | assumption | (constructor <;> omega)) (by first | omega | assumption | (constructor <;> omega))) rfl rfl rfl (by decide) rfl (fun w Lp hA => ⟨hA.ro haQ_Head, hA.ro haQ_Atoms⟩)) (fun k119 _ => ?_)
                                    obtain ⟨⟨a119_0, m119_0, c119_0⟩, ⟨a119_1, m119_1, c119_1⟩⟩ := k119
                                    refine Ent.lenow m0 fun e119_0 l119_0 => ?_
                                    subst e119_0
                                    refine Ent.lenow (mS m0) fun e119_1 l119_1 => ?_
                                    subst e119_1
                                    refine D.st 6 rfl rfl (by kernel_rfl) (fun _ => rfl) (N.call (t_impl_AnswerablePart (by first | omega | assumption | (constructor <;> omega))) rfl rfl rfl (by decide) rfl (fun w Lp hA => ⟨hA.ow (mS (mS (mS (mS m0)))), hA.ow (mS (mS m0)), hA.ow m0, hA.ow (mS m0)⟩)) (fun k120 _ => ?_)
                                    obtain ⟨⟨a120_0, m120_0, c120_0⟩, ⟨a120_1, m120_1, c120_1⟩⟩ := k120
                                    refine Ent.lenow m0 fun e120_0 l120_0 => ?_
                                    subst e120_0
                                    refine Ent.lenow (mS m0) fun e120_1 l120_1 => ?_
                                    subst e120_1
                                    refine D.yp 7 rfl rfl (by decide) (Y.mv rfl) (by kernel_rfl) (D.yp 8 rfl rfl (by decide) (Y.ext rfl rfl) (by kernel_rfl) (D.yp 9 rfl rfl (by decide) (Y.ext rfl rfl) (by kernel_rfl) (Ent.p5 (D.st 11 rfl rfl (by kernel_rfl) (fun h => by cases h) (N.sto (vs := [_, _]) (cs' := [_, _]) ty_Query rfl rfl rfl rfl rfl (Nat.le_of_ble_eq_true rfl) rfl) (fun _ _ => (D.yp 12 rfl rfl (by decide) (Y.as rfl) (by kernel_rfl) (D.done (by kernel_rfl) (Ent.p3 (Ent.drop (Ent.p3 (Ent.drop (Ent.p3 (Ent.drop (Ent.p3 (Ent.drop (Ent.p18 ?_))))))))))))))))
                                    refine Ent.p18 (Ent.p18 (Ent.p18 (Ent.p18 (Ent.p18 (Ent.p18 (Ent.p18 (Ent.p18 (Ent.p18 (Ent.p18 (Ent.p18 (Ent.p18 (Ent.p18 (Ent.p18 (Ent.p18 ?_))))))))))))))
                                    refine Ent.p18 (Ent.p18 (Ent.p18 ?_))
                                    exact E.mdn (b18, a120_0, c120_0, a120_1, c120_1) trivial ⟨rfl, rfl, rfl, rfl, rfl, rfl, trivial⟩ (.refl _)
                                · refine D.pk 10 rfl rfl (fun _ => rfl) (N.alloc ty_Query (by decide)) (fun b18 _ => (D.st 1 rfl rfl (by kernel_rfl) (fun _ => rfl) (N.call (t_laws_toIntS (by first | omega | assumption | (constructor <;> omega))) rfl rfl rfl (by decide) rfl (fun w Lp hA => hA.ro haS)) (fun k115 _ => ?_)))
                                  obtain ⟨a115, m115, c115⟩ := k115
                                  refine Ent.lenow m0 fun e115 l115 => ?_
                                  subst e115
                                  refine D.st 3 rfl rfl (by kernel_rfl) (fun _ => rfl) (N.call (t_laws_toMethodS (by first | omega | assumption | (constructor <;> omega))) rfl rfl rfl (by decide) rfl (fun w Lp hA => hA.ro haL)) (fun k117 _ => ?_)
                                  obtain ⟨a117, m117, c117⟩ := k117
                                  refine Ent.lenow m0 fun e117 l117 => ?_
                                  subst e117
                                  refine D.st 5 rfl rfl (by kernel_rfl) (fun _ => rfl) (N.call (t_laws_toQuery (by first | omega | assumption | (constructor <;> omega)) (by first | omega | assumption | (constructor <;> omega))) rfl rfl rfl (by decide) rfl (fun w Lp hA => ⟨hA.ro haQ_Head, hA.ro haQ_Atoms⟩)) (fun k119 _ => ?_)
                                  obtain ⟨⟨a119_0, m119_0, c119_0⟩, ⟨a119_1, m119_1, c119_1⟩⟩ := k119
                                  refine Ent.lenow m0 fun e119_0 l119_0 => ?_
                                  subst e119_0
                                  refine Ent.lenow (mS m0) fun e119_1 l119_1 => ?_
                                  subst e119_1
                                  refine D.st 6 rfl rfl (by kernel_rfl) (fun _ => rfl) (N.call (t_impl_AnswerablePart (by first | omega | assumption | (constructor <;> omega))) rfl rfl rfl (by decide) rfl (fun w Lp hA => ⟨hA.ow (mS (mS (mS m0))), hA.ow (mS (mS m0)), hA.ow m0, hA.ow (mS m0)⟩)) (fun k120 _ => ?_)
                                  obtain ⟨⟨a120_0, m120_0, c120_0⟩, ⟨a120_1, m120_1, c120_1⟩⟩ := k120
                                  refine Ent.lenow m0 fun e120_0 l120_0 => ?_
                                  subst e120_0
                                  refine Ent.lenow (mS m0) fun e120_1 l120_1 => ?_
                                  subst e120_1
                                  refine D.yp 7 rfl rfl (by decide) (Y.mv rfl) (by kernel_rfl) (D.yp 8 rfl rfl (by decide) (Y.ext rfl rfl) (by kernel_rfl) (D.yp 9 rfl rfl (by decide) (Y.ext rfl rfl) (by kernel_rfl) (Ent.p6 (D.st 11 rfl rfl (by kernel_rfl) (fun h => by cases h) (N.sto (vs := [_, _]) (cs' := [_, _]) ty_Query rfl rfl rfl rfl rfl (Nat.le_of_ble_eq_true rfl) rfl) (fun _ _ => (D.yp 12 rfl rfl (by decide) (Y.as rfl) (by kernel_rfl) (D.done (by kernel_rfl) (Ent.p3 (Ent.drop (Ent.p3 (Ent.drop (Ent.p3 (Ent.drop (Ent.p3 (Ent.drop (Ent.p18 ?_))))))))))))))))
                                  refine Ent.p18 (Ent.p18 (Ent.p18 (Ent.p18 (Ent.p18 (Ent.p18 (Ent.p18 (Ent.p18 (Ent.p18 (Ent.p18 (Ent.p18 (Ent.p18 (Ent.p18 (Ent.p18 (Ent.p18 ?_))))))))))))))
                                  refine Ent.p18 (Ent.p18 (Ent.p18 ?_))
                                  exact E.mdn (b18, a120_0, c120_0, a120_1, c120_1) trivial ⟨rfl, rfl, rfl, rfl, rfl, rfl, trivial⟩ (.refl _)
                              · obtain ⟨b18, a120_0, c120_0, a120_1, c120_1⟩ := kM
                                show Ent _ _ _ [(8, .pointer (some ⟨b8, 0, none⟩)), (9, .bool (prtB aS aL (aQ_Head, aQ_Atoms))), (13, .pointer (some ⟨b13, 0, none⟩)), (16, .int .i64 (1 + ((totS cE_I (prtH aS aL (aQ_Head, aQ_Atoms)) + totS cE_Atom (prtA aS aL (aQ_Head, aQ_Atoms)) : Nat) : Int))), (18, .pointer (some ⟨b18, 0, none⟩)), (19, .bool (prtB aS aL (aQ_Head, aQ_Atoms)))] [pt b18 55 [.slice a120_0 (prtH aS aL (aQ_Head, aQ_Atoms)).length c120_0, .slice a120_1 (prtA aS aL (aQ_Head, aQ_Atoms)).length c120_1], ow eIs [.slice a120_0 (prtH aS aL (aQ_Head, aQ_Atoms)).length c120_0] (prtH aS aL (aQ_Head, aQ_Atoms)), ow eAtoms [.slice a120_1 (prtA aS aL (aQ_Head, aQ_Atoms)).length c120_1] (prtA aS aL (aQ_Head, aQ_Atoms)), ow eIs [.slice a53_0 (prtH aS aL (aQ_Head, aQ_Atoms)).length c53_0] (mkL cE_I mE_I (prtH aS aL (aQ_Head, aQ_Atoms)) 1), ow eAtoms [.slice a53_1 (prtA aS aL (aQ_Head, aQ_Atoms)).length c53_1] (mkL cE_Atom mE_Atom (prtA aS aL (aQ_Head, aQ_Atoms)) (1 + ((totS cE_I (prtH aS aL (aQ_Head, aQ_Atoms)) : Nat) : Int))), ow eIs [.slice a48_0 (aQ_Head).length c48_0] (mkL cE_I mE_I aQ_Head ((1 + (totS cE_I aS : Nat)) + (totS cE_Method aL : Nat))), ow eAtoms [.slice a48_1 (aQ_Atoms).length c48_1] (mkL cE_Atom mE_Atom aQ_Atoms (((1 + (totS cE_I aS : Nat)) + (totS cE_Method aL : Nat)) + ((totS cE_I aQ_Head : Nat) : Int))), ow eMethods [.slice a46 (aL).length c46] (mkL cE_Method mE_Method aL (1 + (totS cE_I aS : Nat))), ow eIs [.slice a44 (aS).length c44] (mkL cE_I mE_I aS 1), ow eIs [.slice a77_0 (aQ_Head).length c77_0] aQ_Head, ow eAtoms [.slice a77_1 (aQ_Atoms).length c77_1] aQ_Atoms, ow eMethods [.slice a72 (aL).length c72] aL, ow eIs [.slice a67 (aS).length c67] aS, pt b13 55 [.slice a53_0 (prtH aS aL (aQ_Head, aQ_Atoms)).length c53_0, .slice a53_1 (prtA aS aL (aQ_Head, aQ_Atoms)).length c53_1], pt b12 55 [.slice a48_0 (aQ_Head).length c48_0, .slice a48_1 (aQ_Atoms).length c48_1], pt b8 55 [.slice a40_0 (prtH aS aL (aQ_Head, aQ_Atoms)).length c40_0, .slice a40_1 (prtA aS aL (aQ_Head, aQ_Atoms)).length c40_1], ow eIs [.slice a40_0 (prtH aS aL (aQ_Head, aQ_Atoms)).length c40_0] (prtH aS aL (aQ_Head, aQ_Atoms)), ow eAtoms [.slice a40_1 (prtA aS aL (aQ_Head, aQ_Atoms)).length c40_1] (prtA aS aL (aQ_Head, aQ_Atoms)), pt b5 51 [.slice a_aQ_Head aQ_Head.length c_aQ_Head, .slice a_aQ_Atoms aQ_Atoms.length c_aQ_Atoms]] _
                                refine E.thn (E.seq (E.seq (E.region (l := [0, 1, 2, 3, 4, 5, 6, 7, 8]) rfl (E.y rfl rfl (by decide) (Y.ldS (cs := [_, _]) ty_Query rfl (Has.pt m0) rfl) (E.y rfl rfl (by decide) (Y.ldS (cs := [_, _]) ty_Query rfl (Has.pt (mS (mS (mS (mS (mS (mS (mS (mS (mS (mS (mS (mS (mS (mS (mS m0)))))))))))))))) rfl) (E.st rfl rfl (N.call0 t_laws_eqQuery rfl rfl rfl (by decide) (fun w Lp hA => ⟨hA.ow (mS m0), hA.ow (mS (mS m0)), hA.ow (mS (mS (mS (mS (mS (mS (mS (mS (mS (mS (mS (mS (mS (mS (mS (mS m0)))))))))))))))), hA.ow (mS (mS (mS (mS (mS (mS (mS (mS (mS (mS (mS (mS (mS (mS (mS (mS (mS m0)))))))))))))))))⟩)) (fun _ _ => (Ent.b (fun q125 => ?_) (fun q125 => ?_)))))))))
                                · refine E.y rfl rfl (by decide) ((Y.not (b := true) rfl).yd) (E.y rfl rfl (by decide) ((Y.mv rfl).yd) (E.y rfl rfl (by decide) ((Y.mv rfl).yd) (E.y rfl rfl (by decide) ((Y.mv rfl).yd) (E.y rfl rfl (by decide) ((Y.neqB (by kernel_rfl) rfl rfl).yd) (Ent.d (fun q130 => ?_) (fun q130 => ?_))))))
                                  · exact absurd rfl q130
                                  · refine E.y rfl rfl (by decide) ((Y.pkf rfl rfl).yd) (E.nil (E.thn (E.cf rfl (E.skipc (E.thn (E.seq (E.region (l := [0]) rfl (E.y rfl rfl (by decide) ((Y.as rfl).yd) (E.nil (E.thn (E.seq (E.region (l := [0, 1, 2, 3]) rfl (E.y rfl rfl (by decide) (Y.ldS (cs := [_, _]) ty_Query rfl (Has.pt (mS (mS (mS (mS (mS (mS (mS (mS (mS (mS (mS (mS (mS m0)))))))))))))) rfl) (E.y rfl rfl (by decide) ((Y.mv rfl).yd) (E.st rfl rfl (N.call0 (t_laws_heldQuery (by first | exact mkL_mk cm_I mm_I | (simp only [mkL_c cm_I, mkL_c cm_Is, mkL_c cm_Fact, mkL_c cm_Facts, mkL_c cm_Atom, mkL_c cm_Atoms, mkL_c cm_Access, mkL_c cm_Accesss, mkL_c cm_Step, mkL_c cm_Steps, mkL_c cm_Query, mkL_c cm_Querys, mkL_c cm_Binding, mkL_c cm_Bindings, mkL_c cm_Method, mkL_c cm_Methods, mkL_c cm_Rule, mkL_c cm_Rules, mkL_c cm_Line, mkL_c cm_Lines]; exact mkL_mk cm_I mm_I)) (by first | exact mkL_mk cm_Atom mm_Atom | (simp only [mkL_c cm_I, mkL_c cm_Is, mkL_c cm_Fact, mkL_c cm_Facts, mkL_c cm_Atom, mkL_c cm_Atoms, mkL_c cm_Access, mkL_c cm_Accesss, mkL_c cm_Step, mkL_c cm_Steps, mkL_c cm_Query, mkL_c cm_Querys, mkL_c cm_Binding, mkL_c cm_Bindings, mkL_c cm_Method, mkL_c cm_Methods, mkL_c cm_Rule, mkL_c cm_Rules, mkL_c cm_Line, mkL_c cm_Lines]; exact mkL_mk cm_Atom mm_Atom))) rfl rfl rfl (by decide) (fun w Lp hA => ⟨hA.ow (mS (mS (mS m0))), hA.ow (mS (mS (mS (mS m0)))), (by (try simp only [mkL_c cm_I, mkL_c cm_Is, mkL_c cm_Fact, mkL_c cm_Facts, mkL_c cm_Atom, mkL_c cm_Atoms, mkL_c cm_Access, mkL_c cm_Accesss, mkL_c cm_Step, mkL_c cm_Steps, mkL_c cm_Query, mkL_c cm_Querys, mkL_c cm_Binding, mkL_c cm_Bindings, mkL_c cm_Method, mkL_c cm_Methods, mkL_c cm_Rule, mkL_c cm_Rules, mkL_c cm_Line, mkL_c cm_Lines]); omega), (by (try simp only [mkL_c cm_I, mkL_c cm_Is, mkL_c cm_Fact, mkL_c cm_Facts, mkL_c cm_Atom, mkL_c cm_Atoms, mkL_c cm_Access, mkL_c cm_Accesss, mkL_c cm_Step, mkL_c cm_Steps, mkL_c cm_Query, mkL_c cm_Querys, mkL_c cm_Binding, mkL_c cm_Bindings, mkL_c cm_Method, mkL_c cm_Methods, mkL_c cm_Rule, mkL_c cm_Rules, mkL_c cm_Line, mkL_c cm_Lines]); omega)⟩)) (fun _ _ => (E.y rfl rfl (by decide) ((Y.as rfl).yd) (E.nil (E.thn (E.seq (E.seq (E.region (l := [0, 1]) rfl (E.y rfl rfl (by decide) ((Y.mv rfl).yd) (E.y rfl rfl (by decide) ((Y.lss rfl rfl).yd) (Ent.d (fun q136 => ?_) (fun q136 => ?_))))))))))))))))))))))))))
                                    · exact absurd q136 (by omega)
                                    · refine E.nil (E.thn (E.cf rfl (E.skipc (E.thn (E.seq (E.seq (E.region (l := [0, 1, 2]) rfl (E.y rfl rfl (by decide) ((Y.mv rfl).yd) (E.y rfl rfl (by decide) ((Y.mv rfl).yd) (E.y rfl rfl (by decide) ((Y.neq rfl rfl).yd) (Ent.d (fun q139 => ?_) (fun q139 => ?_))))))))))))
                                      · exact absurd (by simp only [mkL_c cm_I, mkL_c cm_Is, mkL_c cm_Fact, mkL_c cm_Facts, mkL_c cm_Atom, mkL_c cm_Atoms, mkL_c cm_Access, mkL_c cm_Accesss, mkL_c cm_Step, mkL_c cm_Steps, mkL_c cm_Query, mkL_c cm_Querys, mkL_c cm_Binding, mkL_c cm_Bindings, mkL_c cm_Method, mkL_c cm_Methods, mkL_c cm_Rule, mkL_c cm_Rules, mkL_c cm_Line, mkL_c cm_Lines]) q139
                                      · refine E.nil (E.thn (E.cf rfl (E.skipc (E.thn (E.seq (E.region (l := [0]) rfl (E.y rfl rfl (by decide) ((Y.as rfl).yd) ?_)))))))
                                        exact E.nil (E.thn (E.ret (F.r1 (Back.refl _ _) rfl rfl () trivial rfl (J := _) (.refl _) (.inl rfl))))
                                · refine E.y rfl rfl (by decide) ((Y.not (b := false) rfl).yd) (E.y rfl rfl (by decide) ((Y.mv rfl).yd) (E.skip rfl rfl rfl (E.skip rfl rfl rfl (E.skip rfl rfl rfl (E.y rfl rfl (by decide) ((Y.pkt rfl rfl).yd) (E.nil (E.thn (E.ct rfl (E.seq (E.region (l := [0]) rfl (E.y rfl rfl (by decide) ((Y.as rfl).yd) ?_)))))))))))
                                  exact E.nil (E.thn (E.ret (E.thr (F.r1 (Back.refl _ _) rfl rfl () trivial (congrArg Value.bool (by simp_all)) (J := _) (.refl _) (.inl rfl)))))
                      · refine E.y rfl rfl (by decide) ((Y.not (b := false) rfl).yd) (E.y rfl rfl (by decide) ((Y.pkf rfl rfl).yd) (E.y rfl rfl (by decide) ((Y.mv rfl).yd) (E.skip rfl rfl rfl (E.skip rfl rfl rfl (E.skip rfl rfl rfl (E.y rfl rfl (by decide) ((Y.pkt rfl rfl).yd) (E.nil (E.thn (E.ct rfl (E.seq (E.region (l := [0]) rfl (E.y rfl rfl (by decide) ((Y.as rfl).yd) ?_))))))))))))
                        exact E.nil (E.thn (E.ret (E.thr (F.r1 (Back.refl _ _) rfl rfl () trivial (congrArg Value.bool (by simp_all)) (J := _) (.refl _) (.inl rfl)))))
                  · refine D.yp 4 rfl rfl (by decide) (Y.not (b := false) rfl) (by kernel_rfl) (D.done (by kernel_rfl) (E.thn (E.ct rfl (E.seq (E.region (l := [0]) rfl (E.y rfl rfl (by decide) ((Y.as rfl).yd) ?_))))))
                    exact E.nil (E.thn (E.ret (E.thr (F.r1 (Back.refl _ _) rfl rfl () trivial (congrArg Value.bool (by simp_all)) (J := _) (.refl _) (.inl rfl)))))
                · refine E.y rfl rfl (by decide) ((Y.not (b := false) rfl).yd) (E.nil (E.thn (E.ct rfl (E.seq (E.region (l := [0]) rfl (E.y rfl rfl (by decide) ((Y.as rfl).yd) ?_))))))
                  exact E.nil (E.thn (E.ret (E.thr (F.r1 (Back.refl _ _) rfl rfl () trivial (congrArg Value.bool (by simp_all)) (J := _) (.refl _) (.inl rfl)))))
              · refine E.y rfl rfl (by decide) ((Y.not (b := false) rfl).yd) (E.nil (E.thn (E.ct rfl (E.seq (E.region (l := [0]) rfl (E.y rfl rfl (by decide) ((Y.as rfl).yd) ?_))))))
                exact E.nil (E.thn (E.ret (E.thr (F.r1 (Back.refl _ _) rfl rfl () trivial (congrArg Value.bool (by simp_all)) (J := _) (.refl _) (.inl rfl)))))
          · refine E.y rfl rfl (by decide) ((Y.not (b := false) rfl).yd) (E.y rfl rfl (by decide) ((Y.mv rfl).yd) (E.skip rfl rfl rfl (E.skip rfl rfl rfl (E.skip rfl rfl rfl (E.y rfl rfl (by decide) ((Y.pkt rfl rfl).yd) (E.nil (E.thn (E.ct rfl (E.seq (E.region (l := [0]) rfl (E.y rfl rfl (by decide) ((Y.as rfl).yd) ?_)))))))))))
            exact E.nil (E.thn (E.ret (E.thr (F.r1 (Back.refl _ _) rfl rfl () trivial (congrArg Value.bool (by simp_all)) (J := _) (.refl _) (.inl rfl)))))
end Go.Proofs.YtonkkkjgdohooaaGreat
