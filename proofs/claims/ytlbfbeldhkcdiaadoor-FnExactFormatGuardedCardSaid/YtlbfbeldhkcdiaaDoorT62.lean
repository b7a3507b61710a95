import Derived.Test.YtlbfbeldhkcdiaaDoorT61
namespace Go.Proofs.YtlbfbeldhkcdiaaDoor
open Go.RowKit
set_option linter.unusedVariables false
set_option linter.unusedSimpArgs false
set_option maxHeartbeats 2000000
attribute [local irreducible] Nop Yd Yp Ent Has Tr FnP FnP2 Src listsF opnF opn1 opnR chainB
theorem t_impl_FormatUnion {a_u : Option Addr} {m_u c_u : Nat} {u : List (List Int × List (Int × List Int))} (hyu : ∀ q ∈ u, totL (fun x => x.2.length) q.2 ≤ 1048576) (hn : u.length ≤ 1048576) : Tr Tryd.prog 15 [.slice a_u m_u c_u] (fun w L => Ro w L eQuerys [.slice a_u m_u c_u] u) [] (κ := Unit) (fun k => True) (fun k => strV (textU u)) (fun k => []) := by
  refine Tr.intro Tryd.func15 rfl (n := 23) rfl (by decide +kernel) (Nat.le_of_ble_eq_true rfl) (fr := [(0, .slice a_u m_u c_u)]) rfl fun w L hR => ?_
  have hu := hR
  obtain ⟨rfl, lu⟩ := hu.slen
  refine E.seq (E.region (l := [0]) rfl (E.y rfl rfl (by decide) ((Y.as rfl).yd) ?_))
  refine E.nil (E.thn (E.seq (E.region (l := [0, 1]) rfl (E.st rfl rfl (N.bsl (pvs := []) (cs := []) us_Ss ty_S rfl (by decide) (by decide) (fillZ rfl rfl) rfl (by decide)) (fun b6 _ => ?_)))))
  refine Ent.drop ?_
  refine E.y rfl rfl (by decide) ((Y.as rfl).yd) ?_
  refine E.nil (E.thn (E.seq (E.seq (E.region (l := [0, 1, 2]) rfl (E.y rfl rfl (by decide) ((Y.mv rfl).yd) ?_)))))
  refine E.y rfl rfl (by decide) ((Y.len us_Querys rfl).yd) ?_
  refine E.y rfl rfl (by decide) ((Y.mv rfl).yd) ?_
  refine E.nil (E.thn (E.block (Ent.mkow (A := []) (Own.nil (E := Enc.str) (e := tS) (a := (some ⟨b6, 0, none⟩))) rfl ?_)))
  refine Ent.cv (congrArg (ow eSs [_]) (show [] = (u.take 0).map textQ from by rfl)) ?_
  refine E.loop (κ := Nat × Option Addr × Nat × Nat) (fun g => g.1 ≤ u.length ∧ True) (fun g => [(3, .slice g.2.1 g.2.2.1 g.2.2.2), (7, .slice a_u u.length c_u), (8, .int .i64 (↑u.length : Int)), (9, .int .i64 (↑g.1 : Int))]) (fun g => [ow eSs [.slice g.2.1 g.2.2.1 g.2.2.2] ((u.take g.1).map textQ)]) (fun g => u.length - g.1) (0, (some ⟨b6, 0, none⟩), 0, 0) ⟨Nat.zero_le _, by simp⟩ ⟨rfl, rfl, rfl, rfl, trivial⟩ (.refl _) (fun g pg => ?_)
  obtain ⟨g, aA0_0, mA0_0, cA0_0⟩ := g
  try dsimp only at pg
  show Ent _ _ _ [(3, .slice aA0_0 mA0_0 cA0_0), (7, .slice a_u u.length c_u), (8, .int .i64 (↑u.length : Int)), (9, .int .i64 (↑g : Int))] [ow eSs [.slice aA0_0 mA0_0 cA0_0] ((u.take g).map textQ)] _
  obtain ⟨pk, pa⟩ := pg
  have jt := List.length_take_le g u
  refine Ent.lenow m0 fun eaA0_0 laA0_0 => ?_
  subst eaA0_0
  refine E.seq (E.region (l := [0]) rfl (E.y rfl rfl (by decide) ((Y.lss rfl rfl).yd) (Ent.d (fun q10 => ?_) (fun q10 => ?_))))
  · obtain ⟨eb11, eo11, ec11, ea11, er11, el11, eh11⟩ := hu.elem g (by omega)
    obtain ⟨xa11_0, xc11_0, xa11_1, xc11_1, rfl, xh11_0, xh11_1⟩ := Ro.pQuery er11
    have := xh11_0.slen.2
    have := xh11_1.slen.2
    refine E.nil (E.thn (E.seq (E.ct rfl (E.skipc (E.thn (E.seq (E.block (E.seq (E.region (l := [0, 1, 2, 3]) rfl (E.y rfl rfl (by decide) ((Y.ix us_Querys ty_Query rfl ea11 rfl g rfl (by omega)).yd) ?_))))))))))
    refine E.y rfl rfl (by decide) (Y.ldS (cs := [_, _]) ty_Query rfl (eh11 _) rfl) ?_
    refine E.st rfl rfl (N.alloc ty_Query (by decide)) (fun b5 _ => ?_)
    refine E.st rfl rfl (N.sto (vs := [_, _]) (cs' := [_, _]) ty_Query rfl rfl rfl rfl rfl (Nat.le_of_ble_eq_true rfl) rfl) (fun _ _ => ?_)
    refine E.nil (E.thn (E.region (l := [0, 1, 2, 3, 4, 5]) rfl (E.y rfl rfl (by decide) ((Y.mv rfl).yd) ?_)))
    refine E.y rfl rfl (by decide) (Y.ldS (cs := [_, _]) ty_Query rfl (Has.pt m0) rfl) ?_
    refine E.st rfl rfl (N.call0 (t_impl_FormatQuery (hyu _ (List.getElem_mem (by omega)))) rfl rfl rfl (by decide) (fun w Lp hA => ⟨hA.ro xh11_0, hA.ro xh11_1⟩)) (fun _ _ => ?_)
    refine E.st rfl rfl (N.bsl (pvs := [_]) (cs := [_]) us_Ss ty_S rfl (by decide) (by decide) (fillZ rfl rfl) rfl (by decide)) (fun b16 _ => ?_)
    refine Ent.p2 ?_
    refine E.st rfl rfl (N.push (E := Enc.str) (ex := textQ u[g]) us_Ss ty_S rfl rfl rfl Own.str rfl (by first | omega | (simp only [List.length_map, List.length_take, List.length_append, List.length_drop, List.length_cons, List.length_nil]; omega)) (by first | omega | (simp only [List.length_map, List.length_take, List.length_append, List.length_drop, List.length_cons, List.length_nil]; omega)) (by decide)) (fun p17 _ => ?_)
    refine E.y rfl rfl (by decide) ((Y.as rfl).yd) ?_
    refine E.nil (E.bln (E.thn (E.region (l := [0, 1]) rfl (E.y rfl rfl (by decide) ((Y.add rfl rfl (by omega) (by omega)).yd) ?_))))
    refine E.y rfl rfl (by decide) ((Y.mv rfl).yd) ?_
    refine E.nil (E.thn (Ent.p1 ?_))
    refine Ent.drop ?_
    refine Ent.cv (congrArg (ow eSs [_]) (show ((u.take g).map textQ) ++ [textQ u[g]] = (u.take (g + 1)).map textQ from by rw [List.take_succ_eq_append_getElem (by omega), List.map_append]; rfl)) ?_
    exact E.again (Back.refl _ _) (g + 1, p17.1, (((u.take g).map textQ).length + 1), p17.2) ⟨rfl, rfl, rfl, rfl, trivial⟩ (.refl _) ⟨(show g + 1 ≤ u.length from by omega), (show True from by grind [List.drop_eq_getElem_cons, List.drop_eq_nil_of_le, List.take_succ_eq_append_getElem, List.take_of_length_le])⟩ (show u.length - (g + 1) < u.length - g from by omega)
  · refine E.nil (E.thn (E.seq (E.cf rfl (E.exit (E.the (E.the (E.blh (E.thn (E.seq (E.seq (E.region (l := [0, 1]) rfl (E.y rfl rfl (by decide) ((Y.mv rfl).yd) ?_))))))))))))
    have jg : (u.take g).map textQ = u.map textQ := by rw [List.take_of_length_le (by omega)]
    have jj := join_map_len (f := textQ) (K := 500) (l := u) (n := 1048576) (sep := [32, 111, 114, 32]) (fun x => textQ_len) hn
    refine E.st rfl rfl (N.call0 t_slices_Contains_string_string rfl rfl rfl (by decide) (fun w Lp hA => hA.ow m0)) (fun _ _ => (Ent.b (fun q20 => ?_) (fun q20 => ?_)))
    · refine E.nil (E.thn (E.ct rfl (E.seq (E.region (l := [0]) rfl (E.y rfl rfl (by decide) ((Y.as rfl).yd) ?_)))))
      exact E.nil (E.thn (E.ret (E.thr (F.r1 (Back.refl _ _) rfl rfl () trivial (by rw [show (textU u) = ([]) from (by rw [jg, nT_any] at q20; exact textU_no q20)]; try rfl) (J := _) (.refl _) (.inl rfl)))))
    · refine E.nil (E.thn (E.cf rfl (E.skipc (E.thn (E.seq (E.region (l := [0, 1, 2]) rfl (E.y rfl rfl (by decide) ((Y.mv rfl).yd) ?_)))))))
      refine E.st rfl rfl (N.call0 (tr_join (by simp only [List.length_map, List.length_take]; omega) (by rw [jg]; exact Nat.le_trans jj (by decide))) rfl rfl rfl (by decide) (fun w Lp hA => hA.ow m0)) (fun _ _ => ?_)
      refine E.y rfl rfl (by decide) ((Y.as rfl).yd) ?_
      exact E.nil (E.thn (E.ret (F.r1 (Back.refl _ _) rfl rfl () trivial (by rw [show (textU u) = (Lib.join ((u.take g).map textQ) ([32, 111, 114, 32])) from (by rw [jg, nT_any] at q20; rw [jg]; exact textU_yes q20)]; try rfl) (J := _) (.refl _) (.inl rfl))))
theorem t_spec_FormatUnion {a_u : Option Addr} {m_u c_u : Nat} {u : List (List Int × List (Int × List Int))} (hyu : ∀ q ∈ u, totL (fun x => x.2.length) q.2 ≤ 1048576) (hn : u.length ≤ 1048576) : Tr Tryd.prog 13 [.slice a_u m_u c_u] (fun w L => Ro w L eQuerys [.slice a_u m_u c_u] u) [] (κ := Unit) (fun k => True) (fun k => strV (textU u)) (fun k => []) := by
  refine Tr.intro Tryd.func13 rfl (n := 27) rfl (by decide +kernel) (Nat.le_of_ble_eq_true rfl) (fr := [(0, .slice a_u m_u c_u)]) rfl fun w L hR => ?_
  have hu := hR
  obtain ⟨rfl, lu⟩ := hu.slen
  refine E.seq (E.region (l := [0]) rfl (E.y rfl rfl (by decide) ((Y.as rfl).yd) ?_))
  refine E.nil (E.thn (E.seq (E.region (l := [0]) rfl (E.y rfl rfl (by decide) ((Y.as rfl).yd) ?_))))
  refine E.nil (E.thn (E.seq (E.seq (E.region (l := [0]) rfl (E.y rfl rfl (by decide) ((Y.as rfl).yd) ?_)))))
  refine E.nil (E.thn (E.block (E.loop (κ := Nat) (fun g => g ≤ u.length ∧ nT textQ u = nT textQ (u.drop g)) (fun g => [(0, .slice a_u u.length c_u), (3, strV (Lib.join ((u.take g).map textQ) [32, 111, 114, 32])), (4, .int .i64 (↑g : Int))]) (fun g => []) (fun g => u.length - g) (0) ⟨Nat.zero_le _, by rfl⟩ ⟨rfl, frS (by simp [Lib.join_nil]), rfl, trivial⟩ (.refl _) (fun g pg => ?_))))
  show Ent _ _ _ [(0, .slice a_u u.length c_u), (3, strV (Lib.join ((u.take g).map textQ) [32, 111, 114, 32])), (4, .int .i64 (↑g : Int))] [] _
  obtain ⟨pk, pa⟩ := pg
  have jl := join_take_len (f := textQ) (K := 500) (l := u) (g := g) (n := 1048576) (B := 528482304) (sep := [32, 111, 114, 32]) (fun x => textQ_len) hn (by decide)
  refine E.seq (E.seq (E.region (l := [0, 1, 2, 3]) rfl (E.y rfl rfl (by decide) ((Y.mv rfl).yd) ?_)))
  refine E.y rfl rfl (by decide) ((Y.mv rfl).yd) ?_
  refine E.y rfl rfl (by decide) ((Y.len us_Querys rfl).yd) ?_
  refine E.y rfl rfl (by decide) ((Y.lss rfl rfl).yd) (Ent.d (fun q9 => ?_) (fun q9 => ?_))
  · refine E.nil (E.thn (E.ct rfl (E.skipc (E.thn (E.seq (E.block (E.seq (E.region (l := [0, 1, 2, 3, 4, 5]) rfl (E.y rfl rfl (by decide) ((Y.mv rfl).yd) ?_)))))))))
    refine E.y rfl rfl (by decide) ((Y.mv rfl).yd) ?_
    obtain ⟨eb14, eo14, ec14, ea14, er14, el14, eh14⟩ := hu.elem g (by omega)
    obtain ⟨xa14_0, xc14_0, xa14_1, xc14_1, rfl, xh14_0, xh14_1⟩ := Ro.pQuery er14
    have := xh14_0.slen.2
    have := xh14_1.slen.2
    refine E.y rfl rfl (by decide) ((Y.ix us_Querys ty_Query rfl ea14 rfl g rfl (by omega)).yd) ?_
    refine E.y rfl rfl (by decide) (Y.ldS (cs := [_, _]) ty_Query rfl (eh14 _) rfl) ?_
    refine E.st rfl rfl (N.call0 (t_spec_FormatQuery (hyu _ (List.getElem_mem (by omega)))) rfl rfl rfl (by decide) (fun w Lp hA => ⟨hA.ro xh14_0, hA.ro xh14_1⟩)) (fun _ _ => ?_)
    refine E.y rfl rfl (by decide) ((Y.as rfl).yd) ?_
    refine E.nil (E.thn (E.seq (E.seq (E.region (l := [0, 1]) rfl (E.y rfl rfl (by decide) ((Y.mv rfl).yd) ?_)))))
    refine E.y rfl rfl (by decide) ((Y.eqlS rfl rfl).yd) (Ent.d (fun q18 => ?_) (fun q18 => ?_))
    · refine E.nil (E.thn (E.ct rfl (E.seq (E.region (l := [0]) rfl (E.y rfl rfl (by decide) ((Y.as rfl).yd) ?_)))))
      exact E.nil (E.thn (E.ret (E.thr (E.blr (E.thr (E.thr (E.blr (E.thr (F.r1 (Back.refl _ _) rfl rfl () trivial (by rw [show (textU u) = ([]) from (by exact textU_no (pa.trans (nT_no (by omega) q18)))]; try rfl) (J := _) (.refl _) (.inl rfl))))))))))
    · have ja : (textQ (u[g].1, u[g].2)).length ≤ 500 := textQ_len
      refine E.nil (E.thn (E.cf rfl (E.skipc (E.thn (E.seq (E.seq (E.region (l := [0, 1]) rfl (E.y rfl rfl (by decide) ((Y.mv rfl).yd) ?_))))))))
      refine E.y rfl rfl (by decide) ((Y.gtr rfl rfl).yd) (Ent.d (fun q20 => ?_) (fun q20 => ?_))
      · refine E.nil (E.thn (E.ct rfl (E.region (l := [0, 1, 2]) rfl (E.y rfl rfl (by decide) ((Y.mv rfl).yd) ?_))))
        refine E.y rfl rfl (by decide) ((Y.addS rfl rfl (by first | omega | (simp only [List.length_append, List.length_cons, List.length_nil] at *; omega))).yd) ?_
        refine E.y rfl rfl (by decide) ((Y.as rfl).yd) ?_
        refine E.nil (E.thn (E.region (l := [0, 1, 2, 3]) rfl (E.y rfl rfl (by decide) ((Y.mv rfl).yd) ?_)))
        refine E.y rfl rfl (by decide) ((Y.mv rfl).yd) ?_
        refine E.y rfl rfl (by decide) ((Y.addS rfl rfl (by first | omega | (simp only [List.length_append, List.length_cons, List.length_nil] at *; omega))).yd) ?_
        refine E.y rfl rfl (by decide) ((Y.as rfl).yd) ?_
        refine E.nil (E.bln (E.thn (E.region (l := [0, 1, 2]) rfl (E.y rfl rfl (by decide) ((Y.mv rfl).yd) ?_))))
        refine E.y rfl rfl (by decide) ((Y.add rfl rfl (by omega) (by omega)).yd) ?_
        refine E.y rfl rfl (by decide) ((Y.as rfl).yd) ?_
        exact E.nil (E.thn (E.again (Back.refl _ _) (g + 1) ⟨rfl, frS (by first | exact join_step0 (f := textQ) (by omega) (by omega) | exact join_step1 (f := textQ) (by omega) (by omega)), rfl, trivial⟩ (.refl _) ⟨(show g + 1 ≤ u.length from by omega), (show nT textQ u = nT textQ (u.drop (g + 1)) from by rw [pa]; exact nT_step (by omega) q18)⟩ (show u.length - (g + 1) < u.length - g from by omega)))
      · refine E.nil (E.thn (E.cf rfl (E.skipc (E.thn (E.region (l := [0, 1, 2, 3]) rfl (E.y rfl rfl (by decide) ((Y.mv rfl).yd) ?_))))))
        refine E.y rfl rfl (by decide) ((Y.mv rfl).yd) ?_
        refine E.y rfl rfl (by decide) ((Y.addS rfl rfl (by first | omega | (simp only [List.length_append, List.length_cons, List.length_nil] at *; omega))).yd) ?_
        refine E.y rfl rfl (by decide) ((Y.as rfl).yd) ?_
        refine E.nil (E.bln (E.thn (E.region (l := [0, 1, 2]) rfl (E.y rfl rfl (by decide) ((Y.mv rfl).yd) ?_))))
        refine E.y rfl rfl (by decide) ((Y.add rfl rfl (by omega) (by omega)).yd) ?_
        refine E.y rfl rfl (by decide) ((Y.as rfl).yd) ?_
        exact E.nil (E.thn (E.again (Back.refl _ _) (g + 1) ⟨rfl, frS (by first | exact join_step0 (f := textQ) (by omega) (by omega) | exact join_step1 (f := textQ) (by omega) (by omega)), rfl, trivial⟩ (.refl _) ⟨(show g + 1 ≤ u.length from by omega), (show nT textQ u = nT textQ (u.drop (g + 1)) from by rw [pa]; exact nT_step (by omega) q18)⟩ (show u.length - (g + 1) < u.length - g from by omega)))
  · refine E.nil (E.thn (E.cf rfl (E.exit (E.the (E.the (E.blh (E.thn (E.seq (E.region (l := [0, 1]) rfl (E.y rfl rfl (by decide) ((Y.mv rfl).yd) ?_))))))))))
    refine E.y rfl rfl (by decide) ((Y.as rfl).yd) ?_
    exact E.nil (E.thn (E.ret (F.r1 (Back.refl _ _) rfl rfl () trivial (by rw [show (textU u) = (Lib.join ((u.take g).map textQ) [32, 111, 114, 32]) from (by rw [textU_yes (pa.trans (nT_end (by omega))), List.take_of_length_le (by omega)])]; try rfl) (J := _) (.refl _) (.inl rfl))))
theorem t_impl_FormatGuarded {a_g_Query_Head : Option Addr} {m_g_Query_Head c_g_Query_Head : Nat} {g_Query_Head : List Int} {a_g_Query_Atoms : Option Addr} {m_g_Query_Atoms c_g_Query_Atoms : Nat} {g_Query_Atoms : List (Int × List Int)} {a_g_Not : Option Addr} {m_g_Not c_g_Not : Nat} {g_Not : List (Int × List Int)} (hz : totL (fun x => x.2.length) g_Query_Atoms ≤ 1048576) (hn : totL (fun x => x.2.length) g_Not ≤ 1048576) : Tr Tryd.prog 20 [.agg #[.slice a_g_Query_Head m_g_Query_Head c_g_Query_Head, .slice a_g_Query_Atoms m_g_Query_Atoms c_g_Query_Atoms, .slice a_g_Not m_g_Not c_g_Not]] (fun w L => Ro w L eIs [.slice a_g_Query_Head m_g_Query_Head c_g_Query_Head] g_Query_Head ∧ Ro w L eAtoms [.slice a_g_Query_Atoms m_g_Query_Atoms c_g_Query_Atoms] g_Query_Atoms ∧ Ro w L eAtoms [.slice a_g_Not m_g_Not c_g_Not] g_Not) [] (κ := Unit) (fun k => True) (fun k => strV (textG ((g_Query_Head, g_Query_Atoms), g_Not))) (fun k => []) := by
  refine Tr.intro Tryd.func20 rfl (n := 29) rfl (by decide +kernel) (Nat.le_of_ble_eq_true rfl) (fr := [(0, .agg #[.slice a_g_Query_Head m_g_Query_Head c_g_Query_Head, .slice a_g_Query_Atoms m_g_Query_Atoms c_g_Query_Atoms, .slice a_g_Not m_g_Not c_g_Not])]) rfl fun w L hR => ?_
  obtain ⟨hg_Query_Head, hg_Query_Atoms, hg_Not⟩ := hR
  obtain ⟨rfl, lg_Query_Head⟩ := hg_Query_Head.slen
  obtain ⟨rfl, lg_Query_Atoms⟩ := hg_Query_Atoms.slen
  obtain ⟨rfl, lg_Not⟩ := hg_Not.slen
  have jm : g_Not.length ≤ 1048576 := by unfold totL at hn; omega
  refine E.seq (E.region (l := [0, 1]) rfl (E.st rfl rfl (N.box (cs := [_, _, _]) rfl (by decide) rfl) (fun b1 _ => ?_)))
  refine E.y rfl rfl (by decide) ((Y.as rfl).yd) ?_
  refine E.nil (E.thn (E.seq (E.region (l := [0, 1, 2, 3]) rfl (E.y rfl rfl (by decide) ((Y.fld fo_Guarded_0 ty_Query (by decide) rfl).yd) ?_))))
  refine E.y rfl rfl (by decide) (Y.ldS (cs := [_, _]) ty_Query rfl ((Has.pt m0).sub (cs' := [_, _]) 0 rfl) rfl) ?_
  refine E.st rfl rfl (N.call0 (t_impl_FormatQuery (by first | omega | assumption | (constructor <;> omega))) rfl rfl rfl (by decide) (fun w Lp hA => ⟨hA.ro hg_Query_Head, hA.ro hg_Query_Atoms⟩)) (fun _ _ => ?_)
  refine E.y rfl rfl (by decide) ((Y.as rfl).yd) ?_
  refine E.nil (E.thn (E.seq (E.seq (E.region (l := [0, 1]) rfl (E.y rfl rfl (by decide) ((Y.mv rfl).yd) ?_)))))
  refine E.y rfl rfl (by decide) ((Y.eqlS rfl rfl).yd) (Ent.d (fun q11 => ?_) (fun q11 => ?_))
  · refine E.nil (E.thn (E.ct rfl (E.seq (E.region (l := [0]) rfl (E.y rfl rfl (by decide) ((Y.as rfl).yd) ?_)))))
    exact E.nil (E.thn (E.ret (E.thr (F.r1 (Back.refl _ _) rfl rfl () trivial (by rw [show (textG ((g_Query_Head, g_Query_Atoms), g_Not)) = ([]) from (by exact textG_nil q11)]; try rfl) (J := _) (.refl _) (.inl rfl)))))
  · refine E.nil (E.thn (E.cf rfl (E.skipc (E.thn (E.seq (E.seq (E.region (l := [0, 1, 2, 3]) rfl (E.y rfl rfl (by decide) ((Y.fld fo_Guarded_1 ty_Atoms (by decide) rfl).yd) ?_))))))))
    refine E.y rfl rfl (by decide) (Y.ld1 ty_Atoms rfl ((Has.pt m0).sub (cs' := [_]) 2 rfl) rfl) ?_
    refine E.y rfl rfl (by decide) ((Y.len us_Atoms rfl).yd) ?_
    refine E.y rfl rfl (by decide) ((Y.mv rfl).yd) ?_
    refine E.nil (E.thn (E.block (E.loop (κ := Nat) (fun r => r ≤ g_Not.length ∧ nT textA g_Not = nT textA (g_Not.drop r)) (fun r => [(3, strV (textN (textQ (g_Query_Head, g_Query_Atoms)) (g_Not.take r))), (13, .slice a_g_Not g_Not.length c_g_Not), (14, .int .i64 (↑g_Not.length : Int)), (15, .int .i64 (↑r : Int))]) (fun r => [pt b1 49 [.slice a_g_Query_Head g_Query_Head.length c_g_Query_Head, .slice a_g_Query_Atoms g_Query_Atoms.length c_g_Query_Atoms, .slice a_g_Not g_Not.length c_g_Not]]) (fun r => g_Not.length - r) (0) ⟨Nat.zero_le _, by rfl⟩ ⟨frS (by rfl), rfl, rfl, rfl, trivial⟩ (.refl _) (fun r pr => ?_))))
    show Ent _ _ _ [(3, strV (textN (textQ (g_Query_Head, g_Query_Atoms)) (g_Not.take r))), (13, .slice a_g_Not g_Not.length c_g_Not), (14, .int .i64 (↑g_Not.length : Int)), (15, .int .i64 (↑r : Int))] [pt b1 49 [.slice a_g_Query_Head g_Query_Head.length c_g_Query_Head, .slice a_g_Query_Atoms g_Query_Atoms.length c_g_Query_Atoms, .slice a_g_Not g_Not.length c_g_Not]] _
    obtain ⟨pk, pa⟩ := pr
    have jl := textN_len (l := g_Not.take r) (s := (textQ (g_Query_Head, g_Query_Atoms)))
    have jt := List.length_take_le r g_Not
    have jk := textQ_len (q := (g_Query_Head, g_Query_Atoms))
    refine E.seq (E.region (l := [0]) rfl (E.y rfl rfl (by decide) ((Y.lss rfl rfl).yd) (Ent.d (fun q16 => ?_) (fun q16 => ?_))))
    · obtain ⟨eb17, eo17, ec17, ea17, er17, el17, eh17⟩ := hg_Not.elem r (by omega)
      obtain ⟨xa17_0, xc17_0, rfl, ei17_0, xh17_0⟩ := Ro.pAtom er17
      have := xh17_0.slen.2
      refine E.nil (E.thn (E.seq (E.ct rfl (E.skipc (E.thn (E.seq (E.block (E.seq (E.region (l := [0, 1, 2, 3]) rfl (E.y rfl rfl (by decide) ((Y.ix us_Atoms ty_Atom rfl ea17 rfl r rfl (by omega)).yd) ?_))))))))))
      refine E.y rfl rfl (by decide) (Y.ldS (cs := [_, _]) ty_Atom rfl (eh17 _) rfl) ?_
      refine E.st rfl rfl (N.alloc ty_Atom (by decide)) (fun b5 _ => ?_)
      refine E.st rfl rfl (N.sto (vs := [_, _]) (cs' := [_, _]) ty_Atom rfl rfl rfl rfl rfl (Nat.le_of_ble_eq_true rfl) rfl) (fun _ _ => ?_)
      refine E.nil (E.thn (E.seq (E.region (l := [0, 1, 2]) rfl (E.y rfl rfl (by decide) (Y.ldS (cs := [_, _]) ty_Atom rfl (Has.pt m0) rfl) ?_))))
      refine E.st rfl rfl (N.call0 t_impl_FormatAtom rfl rfl rfl (by decide) (fun w Lp hA => ⟨ei17_0, hA.ro xh17_0⟩)) (fun _ _ => ?_)
      refine E.y rfl rfl (by decide) ((Y.as rfl).yd) ?_
      refine E.nil (E.thn (E.seq (E.seq (E.region (l := [0, 1]) rfl (E.y rfl rfl (by decide) ((Y.mv rfl).yd) ?_)))))
      refine E.y rfl rfl (by decide) ((Y.eqlS rfl rfl).yd) (Ent.d (fun q22 => ?_) (fun q22 => ?_))
      · refine E.nil (E.thn (E.ct rfl (E.seq (E.region (l := [0]) rfl (E.y rfl rfl (by decide) ((Y.as rfl).yd) ?_)))))
        exact E.nil (E.thn (E.ret (E.thr (E.blr (E.thr (E.thr (E.blr (E.thr (F.r1 (Back.refl _ _) rfl rfl () trivial (by rw [show (textG ((g_Query_Head, g_Query_Atoms), g_Not)) = ([]) from (by exact textG_no (pa.trans (nT_no (by omega) q22)))]; try rfl) (J := _) (.refl _) (.inl rfl))))))))))
      · have ja : (textA (g_Not[r].1, g_Not[r].2)).length ≤ 100 := textA_len
        refine E.nil (E.thn (E.cf rfl (E.skipc (E.thn (E.region (l := [0, 1, 2, 3, 4]) rfl (E.y rfl rfl (by decide) ((Y.mv rfl).yd) ?_))))))
        refine E.y rfl rfl (by decide) ((Y.mv rfl).yd) ?_
        refine E.y rfl rfl (by decide) ((Y.addS rfl rfl (by first | omega | (simp only [List.length_append, List.length_cons, List.length_nil] at *; omega))).yd) ?_
        refine E.y rfl rfl (by decide) ((Y.addS rfl rfl (by first | omega | (simp only [List.length_append, List.length_cons, List.length_nil] at *; omega))).yd) ?_
        refine E.y rfl rfl (by decide) ((Y.as rfl).yd) ?_
        refine E.nil (E.bln (E.thn (E.region (l := [0, 1]) rfl (E.y rfl rfl (by decide) ((Y.add rfl rfl (by omega) (by omega)).yd) ?_))))
        refine E.y rfl rfl (by decide) ((Y.mv rfl).yd) ?_
        refine E.nil (E.thn (Ent.drop ?_))
        exact E.again (Back.refl _ _) (r + 1) ⟨frS (by rw [← textN_snoc (by omega), List.append_assoc]; rfl), rfl, rfl, rfl, trivial⟩ (.refl _) ⟨(show r + 1 ≤ g_Not.length from by omega), (show nT textA g_Not = nT textA (g_Not.drop (r + 1)) from by rw [pa]; exact nT_step (by omega) q22)⟩ (show g_Not.length - (r + 1) < g_Not.length - r from by omega)
    · refine E.nil (E.thn (E.seq (E.cf rfl (E.exit (E.the (E.the (E.blh (E.thn (E.seq (E.region (l := [0, 1]) rfl (E.y rfl rfl (by decide) ((Y.mv rfl).yd) ?_)))))))))))
      refine E.y rfl rfl (by decide) ((Y.as rfl).yd) ?_
      exact E.nil (E.thn (E.ret (F.r1 (Back.refl _ _) rfl rfl () trivial (by rw [show (textG ((g_Query_Head, g_Query_Atoms), g_Not)) = (textN (textQ (g_Query_Head, g_Query_Atoms)) (g_Not.take r)) from (by rw [textG_yes q11 (pa.trans (nT_end (by omega))), List.take_of_length_le (by omega)])]; try rfl) (J := _) (.refl _) (.inl rfl))))
theorem t_spec_FormatGuarded {a_g_Query_Head : Option Addr} {m_g_Query_Head c_g_Query_Head : Nat} {g_Query_Head : List Int} {a_g_Query_Atoms : Option Addr} {m_g_Query_Atoms c_g_Query_Atoms : Nat} {g_Query_Atoms : List (Int × List Int)} {a_g_Not : Option Addr} {m_g_Not c_g_Not : Nat} {g_Not : List (Int × List Int)} (hz : totL (fun x => x.2.length) g_Query_Atoms ≤ 1048576) (hn : totL (fun x => x.2.length) g_Not ≤ 1048576) : Tr Tryd.prog 18 [.agg #[.slice a_g_Query_Head m_g_Query_Head c_g_Query_Head, .slice a_g_Query_Atoms m_g_Query_Atoms c_g_Query_Atoms, .slice a_g_Not m_g_Not c_g_Not]] (fun w L => Ro w L eIs [.slice a_g_Query_Head m_g_Query_Head c_g_Query_Head] g_Query_Head ∧ Ro w L eAtoms [.slice a_g_Query_Atoms m_g_Query_Atoms c_g_Query_Atoms] g_Query_Atoms ∧ Ro w L eAtoms [.slice a_g_Not m_g_Not c_g_Not] g_Not) [] (κ := Unit) (fun k => True) (fun k => strV (textG ((g_Query_Head, g_Query_Atoms), g_Not))) (fun k => []) := by
  refine Tr.intro Tryd.func18 rfl (n := 33) rfl (by decide +kernel) (Nat.le_of_ble_eq_true rfl) (fr := [(0, .agg #[.slice a_g_Query_Head m_g_Query_Head c_g_Query_Head, .slice a_g_Query_Atoms m_g_Query_Atoms c_g_Query_Atoms, .slice a_g_Not m_g_Not c_g_Not])]) rfl fun w L hR => ?_
  obtain ⟨hg_Query_Head, hg_Query_Atoms, hg_Not⟩ := hR
  obtain ⟨rfl, lg_Query_Head⟩ := hg_Query_Head.slen
  obtain ⟨rfl, lg_Query_Atoms⟩ := hg_Query_Atoms.slen
  obtain ⟨rfl, lg_Not⟩ := hg_Not.slen
  have jm : g_Not.length ≤ 1048576 := by unfold totL at hn; omega
  refine E.seq (E.region (l := [0, 1]) rfl (E.st rfl rfl (N.box (cs := [_, _, _]) rfl (by decide) rfl) (fun b1 _ => ?_)))
  refine E.y rfl rfl (by decide) ((Y.as rfl).yd) ?_
  refine E.nil (E.thn (E.seq (E.region (l := [0, 1, 2, 3]) rfl (E.y rfl rfl (by decide) ((Y.fld fo_Guarded_0 ty_Query (by decide) rfl).yd) ?_))))
  refine E.y rfl rfl (by decide) (Y.ldS (cs := [_, _]) ty_Query rfl ((Has.pt m0).sub (cs' := [_, _]) 0 rfl) rfl) ?_
  refine E.st rfl rfl (N.call0 (t_spec_FormatQuery (by first | omega | assumption | (constructor <;> omega))) rfl rfl rfl (by decide) (fun w Lp hA => ⟨hA.ro hg_Query_Head, hA.ro hg_Query_Atoms⟩)) (fun _ _ => ?_)
  refine E.y rfl rfl (by decide) ((Y.as rfl).yd) ?_
  refine E.nil (E.thn (E.seq (E.seq (E.region (l := [0]) rfl (E.y rfl rfl (by decide) ((Y.as rfl).yd) ?_)))))
  refine E.nil (E.thn (E.block (E.loop (κ := Nat) (fun r => r ≤ g_Not.length ∧ (r = 0 ∨ ¬ (textQ (g_Query_Head, g_Query_Atoms)) = []) ∧ nT textA g_Not = nT textA (g_Not.drop r)) (fun r => [(1, .pointer (some ⟨b1, 0, none⟩)), (3, strV (textN (textQ (g_Query_Head, g_Query_Atoms)) (g_Not.take r))), (4, .int .i64 (↑r : Int))]) (fun r => [pt b1 49 [.slice a_g_Query_Head g_Query_Head.length c_g_Query_Head, .slice a_g_Query_Atoms g_Query_Atoms.length c_g_Query_Atoms, .slice a_g_Not g_Not.length c_g_Not]]) (fun r => g_Not.length - r) (0) ⟨Nat.zero_le _, by exact ⟨.inl rfl, rfl⟩⟩ ⟨rfl, frS (by rfl), rfl, trivial⟩ (.refl _) (fun r pr => ?_))))
  show Ent _ _ _ [(1, .pointer (some ⟨b1, 0, none⟩)), (3, strV (textN (textQ (g_Query_Head, g_Query_Atoms)) (g_Not.take r))), (4, .int .i64 (↑r : Int))] [pt b1 49 [.slice a_g_Query_Head g_Query_Head.length c_g_Query_Head, .slice a_g_Query_Atoms g_Query_Atoms.length c_g_Query_Atoms, .slice a_g_Not g_Not.length c_g_Not]] _
  obtain ⟨pk, pa⟩ := pr
  have jl := textN_len (l := g_Not.take r) (s := (textQ (g_Query_Head, g_Query_Atoms)))
  have jt := List.length_take_le r g_Not
  have jk := textQ_len (q := (g_Query_Head, g_Query_Atoms))
  refine E.seq (E.seq (E.region (l := [0, 1, 2, 3, 4, 5, 6, 7, 8]) rfl (E.y rfl rfl (by decide) ((Y.mv rfl).yd) ?_)))
  refine E.y rfl rfl (by decide) ((Y.fld fo_Guarded_1 ty_Atoms (by decide) rfl).yd) ?_
  refine E.y rfl rfl (by decide) (Y.ld1 ty_Atoms rfl ((Has.pt m0).sub (cs' := [_]) 2 rfl) rfl) ?_
  refine E.y rfl rfl (by decide) ((Y.len us_Atoms rfl).yd) ?_
  refine E.y rfl rfl (by decide) ((Y.lss rfl rfl).yd) (Ent.d (fun q13 => ?_) (fun q13 => ?_))
  · refine E.y rfl rfl (by decide) ((Y.mv rfl).yd) ?_
    refine E.y rfl rfl (by decide) ((Y.mv rfl).yd) ?_
    refine E.y rfl rfl (by decide) ((Y.neqS rfl rfl).yd) (Ent.d (fun q16 => ?_) (fun q16 => ?_))
    · refine E.y rfl rfl (by decide) ((Y.pkt rfl rfl).yd) ?_
      refine E.nil (E.thn (E.ct rfl (E.skipc (E.thn (E.seq (E.block (E.seq (E.region (l := [0, 1, 2, 3, 4, 5, 6]) rfl (E.y rfl rfl (by decide) ((Y.fld fo_Guarded_1 ty_Atoms (by decide) rfl).yd) ?_)))))))))
      refine E.y rfl rfl (by decide) (Y.ld1 ty_Atoms rfl ((Has.pt m0).sub (cs' := [_]) 2 rfl) rfl) ?_
      refine E.y rfl rfl (by decide) ((Y.mv rfl).yd) ?_
      obtain ⟨eb23, eo23, ec23, ea23, er23, el23, eh23⟩ := hg_Not.elem r (by omega)
      obtain ⟨xa23_0, xc23_0, rfl, ei23_0, xh23_0⟩ := Ro.pAtom er23
      have := xh23_0.slen.2
      refine E.y rfl rfl (by decide) ((Y.ix us_Atoms ty_Atom rfl ea23 rfl r rfl (by omega)).yd) ?_
      refine E.y rfl rfl (by decide) (Y.ldS (cs := [_, _]) ty_Atom rfl (eh23 _) rfl) ?_
      refine E.st rfl rfl (N.call0 t_spec_FormatAtom rfl rfl rfl (by decide) (fun w Lp hA => ⟨ei23_0, hA.ro xh23_0⟩)) (fun _ _ => ?_)
      refine E.y rfl rfl (by decide) ((Y.as rfl).yd) ?_
      refine E.nil (E.thn (E.seq (E.seq (E.region (l := [0, 1]) rfl (E.y rfl rfl (by decide) ((Y.mv rfl).yd) ?_)))))
      refine E.y rfl rfl (by decide) ((Y.eqlS rfl rfl).yd) (Ent.d (fun q27 => ?_) (fun q27 => ?_))
      · refine E.nil (E.thn (E.ct rfl (E.seq (E.region (l := [0]) rfl (E.y rfl rfl (by decide) ((Y.as rfl).yd) ?_)))))
        exact E.nil (E.thn (E.ret (E.thr (E.blr (E.thr (E.thr (E.blr (E.thr (F.r1 (Back.refl _ _) rfl rfl () trivial (by rw [show (textG ((g_Query_Head, g_Query_Atoms), g_Not)) = ([]) from (by exact textG_no (pa.2.trans (nT_no (by omega) q27)))]; try rfl) (J := _) (.refl _) (.inl rfl))))))))))
      · have ja : (textA (g_Not[r].1, g_Not[r].2)).length ≤ 100 := textA_len
        refine E.nil (E.thn (E.cf rfl (E.skipc (E.thn (E.region (l := [0, 1, 2, 3, 4]) rfl (E.y rfl rfl (by decide) ((Y.mv rfl).yd) ?_))))))
        refine E.y rfl rfl (by decide) ((Y.addS rfl rfl (by first | omega | (simp only [List.length_append, List.length_cons, List.length_nil] at *; omega))).yd) ?_
        refine E.y rfl rfl (by decide) ((Y.mv rfl).yd) ?_
        refine E.y rfl rfl (by decide) ((Y.addS rfl rfl (by first | omega | (simp only [List.length_append, List.length_cons, List.length_nil] at *; omega))).yd) ?_
        refine E.y rfl rfl (by decide) ((Y.as rfl).yd) ?_
        refine E.nil (E.bln (E.thn (E.region (l := [0, 1, 2]) rfl (E.y rfl rfl (by decide) ((Y.mv rfl).yd) ?_))))
        refine E.y rfl rfl (by decide) ((Y.add rfl rfl (by omega) (by omega)).yd) ?_
        refine E.y rfl rfl (by decide) ((Y.as rfl).yd) ?_
        exact E.nil (E.thn (E.again (Back.refl _ _) (r + 1) ⟨rfl, frS (by exact textN_snoc (by omega)), rfl, trivial⟩ (.refl _) ⟨(show r + 1 ≤ g_Not.length from by omega), (show ((r + 1) = 0 ∨ ¬ (textQ (g_Query_Head, g_Query_Atoms)) = []) ∧ nT textA g_Not = nT textA (g_Not.drop (r + 1)) from by exact ⟨.inr (textN_ne0 pa.1 q16), by rw [pa.2]; exact nT_step (by omega) q27⟩)⟩ (show g_Not.length - (r + 1) < g_Not.length - r from by omega)))
    · refine E.y rfl rfl (by decide) ((Y.pkt rfl rfl).yd) ?_
      refine E.nil (E.thn (E.cf rfl (E.exit (E.the (E.the (E.blh (E.thn (E.seq (E.region (l := [0, 1]) rfl (E.y rfl rfl (by decide) ((Y.mv rfl).yd) ?_))))))))))
      refine E.y rfl rfl (by decide) ((Y.as rfl).yd) ?_
      exact E.nil (E.thn (E.ret (F.r1 (Back.refl _ _) rfl rfl () trivial (by rw [show (textG ((g_Query_Head, g_Query_Atoms), g_Not)) = (textN (textQ (g_Query_Head, g_Query_Atoms)) (g_Not.take r)) from (by rw [textG_nil (textN_nil (Decidable.not_not.1 q16))]; exact (Decidable.not_not.1 q16).symm)]; try rfl) (J := _) (.refl _) (.inl rfl))))
  · refine E.y rfl rfl (by decide) ((Y.mv rfl).yd) ?_
    refine E.skip rfl rfl rfl ?_
    refine E.skip rfl rfl rfl ?_
    refine E.y rfl rfl (by decide) ((Y.pkf rfl rfl).yd) ?_
    refine E.nil (E.thn (E.cf rfl (E.exit (E.the (E.the (E.blh (E.thn (E.seq (E.region (l := [0, 1]) rfl (E.y rfl rfl (by decide) ((Y.mv rfl).yd) ?_))))))))))
    refine E.y rfl rfl (by decide) ((Y.as rfl).yd) ?_
    exact E.nil (E.thn (E.ret (F.r1 (Back.refl _ _) rfl rfl () trivial (by rw [show (textG ((g_Query_Head, g_Query_Atoms), g_Not)) = (textN (textQ (g_Query_Head, g_Query_Atoms)) (g_Not.take r)) from (by exact textG_end (show ¬ r < g_Not.length by omega) pa.1 pa.2)]; try rfl) (J := _) (.refl _) (.inl rfl))))
theorem t_laws_FnExactFormatUnion {a_aU : Option Addr} {m_aU c_aU : Nat} {aU : List (List Int × List (Int × List Int))} : Tr Tryd.prog 4 [.slice a_aU m_aU c_aU] (fun w L => Ro w L eQuerys [.slice a_aU m_aU c_aU] aU) [] (κ := Unit) (fun k => True) (fun k => .bool (true)) (fun k => []) := by
  refine Tr.intro Tryd.func4 rfl (n := 27) rfl (by decide +kernel) (Nat.le_of_ble_eq_true rfl) (fr := [(0, .slice a_aU m_aU c_aU)]) rfl fun w L hR => ?_
  have haU := hR
  obtain ⟨rfl, laU⟩ := haU.slen
  refine E.seq (E.region (l := [0]) rfl (E.y rfl rfl (by decide) ((Y.as rfl).yd) ?_))
  refine E.nil (E.thn (E.seq (E.region (l := [0]) rfl (E.y rfl rfl (by decide) ((Y.as rfl).yd) ?_))))
  refine E.nil (E.thn (E.seq (E.region (l := [0, 1, 2, 3]) rfl (E.y rfl rfl (by decide) ((Y.mv rfl).yd) ?_))))
  refine E.y rfl rfl (by decide) ((Y.mv rfl).yd) ?_
  refine E.st rfl rfl (N.call0 t_laws_szQueryS rfl rfl rfl (by decide) (fun w Lp hA => ⟨hA.ro haU, (by first | assumption | omega), (by first | assumption | omega)⟩)) (fun _ _ => ?_)
  refine E.y rfl rfl (by decide) ((Y.as rfl).yd) ?_
  refine E.nil (E.thn (E.seq (E.seq (E.region (l := [0, 1]) rfl (E.y rfl rfl (by decide) ((Y.mv rfl).yd) ?_)))))
  refine E.y rfl rfl (by decide) ((Y.lss rfl rfl).yd) (Ent.d (fun q11 => ?_) (fun q11 => ?_))
  · have z11 := szR_bad q11 (by omega)
    refine E.nil (E.thn (E.ct rfl (E.seq (E.region (l := [0]) rfl (E.y rfl rfl (by decide) ((Y.as rfl).yd) ?_)))))
    exact E.nil (E.thn (E.ret (E.thr (F.r1 (Back.refl _ _) rfl rfl () trivial rfl (J := _) (.refl _) (.inl rfl)))))
  · obtain ⟨z11, y11⟩ := szR_ok q11 (by omega)
    refine E.nil (E.thn (E.cf rfl (E.skipc (E.thn (E.seq (E.region (l := [0, 1, 2, 3]) rfl (E.y rfl rfl (by decide) ((Y.mv rfl).yd) ?_)))))))
    refine E.st rfl rfl (N.call (t_laws_toQueryS (by first | omega | assumption)) rfl rfl rfl (by decide) rfl (fun w Lp hA => hA.ro haU)) (fun k13 _ => ?_)
    obtain ⟨a13, m13, c13⟩ := k13
    refine Ent.lenow m0 fun e13 l13 => ?_
    subst e13
    refine E.st rfl rfl (N.call0 (t_spec_FormatUnion (union_len (u := aU) (by omega)) (by simp only [totL] at y11; omega)) rfl rfl rfl (by decide) (fun w Lp hA => hA.ow m0)) (fun _ _ => ?_)
    refine E.y rfl rfl (by decide) ((Y.as rfl).yd) ?_
    refine E.nil (E.thn (E.seq (E.region (l := [0, 1, 2]) rfl (E.y rfl rfl (by decide) ((Y.mv rfl).yd) ?_))))
    refine E.st rfl rfl (N.call (t_laws_toQueryS (by first | omega | assumption)) rfl rfl rfl (by decide) rfl (fun w Lp hA => hA.ro haU)) (fun k16 _ => ?_)
    obtain ⟨a16, m16, c16⟩ := k16
    refine Ent.lenow m0 fun e16 l16 => ?_
    subst e16
    refine E.y rfl rfl (by decide) ((Y.as rfl).yd) ?_
    refine E.nil (E.thn (E.seq (E.region (l := [0, 1, 2]) rfl (E.y rfl rfl (by decide) ((Y.mv rfl).yd) ?_))))
    refine E.st rfl rfl (N.call0 (t_impl_FormatUnion (union_len (u := aU) (by omega)) (by simp only [totL] at y11; omega)) rfl rfl rfl (by decide) (fun w Lp hA => hA.ow m0)) (fun _ _ => ?_)
    refine E.y rfl rfl (by decide) ((Y.as rfl).yd) ?_
    refine E.nil (E.thn (E.seq (E.seq (E.region (l := [0, 1, 2]) rfl (E.y rfl rfl (by decide) ((Y.mv rfl).yd) ?_)))))
    refine E.y rfl rfl (by decide) ((Y.mv rfl).yd) ?_
    refine E.y rfl rfl (by decide) ((Y.neqS rfl rfl).yd) (Ent.d (fun q21 => ?_) (fun q21 => ?_))
    · exact absurd rfl q21
    · refine E.nil (E.thn (E.cf rfl (E.skipc (E.thn (E.seq (E.seq (E.region (l := [0, 1, 2, 3, 4]) rfl (E.y rfl rfl (by decide) ((Y.mv rfl).yd) ?_))))))))
      refine E.y rfl rfl (by decide) ((Y.mv rfl).yd) ?_
      refine E.st rfl rfl (N.call (t_laws_toQueryS (by first | omega | assumption)) rfl rfl rfl (by decide) rfl (fun w Lp hA => hA.ro haU)) (fun k24 _ => ?_)
      obtain ⟨a24, m24, c24⟩ := k24
      refine Ent.lenow m0 fun e24 l24 => ?_
      subst e24
      refine E.st rfl rfl (N.call0 t_laws_eqQueryS rfl rfl rfl (by decide) (fun w Lp hA => ⟨hA.ow (mS m0), hA.ow m0⟩)) (fun _ _ => (Ent.b (fun q25 => ?_) (fun q25 => ?_)))
      · refine E.y rfl rfl (by decide) ((Y.not (b := true) rfl).yd) ?_
        refine E.nil (E.thn (E.cf rfl (E.skipc (E.thn (E.seq (E.region (l := [0]) rfl (E.y rfl rfl (by decide) ((Y.as rfl).yd) ?_)))))))
        exact E.nil (E.thn (E.ret (F.r1 (Back.refl _ _) rfl rfl () trivial rfl (J := _) (.refl _) (.inl rfl))))
      · refine E.y rfl rfl (by decide) ((Y.not (b := false) rfl).yd) ?_
        refine E.nil (E.thn (E.ct rfl (E.seq (E.region (l := [0]) rfl (E.y rfl rfl (by decide) ((Y.as rfl).yd) ?_)))))
        exact E.nil (E.thn (E.ret (E.thr (F.r1 (Back.refl _ _) rfl rfl () trivial (congrArg Value.bool (by simp_all)) (J := _) (.refl _) (.inl rfl)))))
theorem t_laws_FnExactFormatGuarded {a_aG_Query_Head : Option Addr} {m_aG_Query_Head c_aG_Query_Head : Nat} {aG_Query_Head : List Int} {a_aG_Query_Atoms : Option Addr} {m_aG_Query_Atoms c_aG_Query_Atoms : Nat} {aG_Query_Atoms : List (Int × List Int)} {a_aG_Not : Option Addr} {m_aG_Not c_aG_Not : Nat} {aG_Not : List (Int × List Int)} : Tr Tryd.prog 5 [.agg #[.slice a_aG_Query_Head m_aG_Query_Head c_aG_Query_Head, .slice a_aG_Query_Atoms m_aG_Query_Atoms c_aG_Query_Atoms, .slice a_aG_Not m_aG_Not c_aG_Not]] (fun w L => Ro w L eIs [.slice a_aG_Query_Head m_aG_Query_Head c_aG_Query_Head] aG_Query_Head ∧ Ro w L eAtoms [.slice a_aG_Query_Atoms m_aG_Query_Atoms c_aG_Query_Atoms] aG_Query_Atoms ∧ Ro w L eAtoms [.slice a_aG_Not m_aG_Not c_aG_Not] aG_Not) [] (κ := Unit) (fun k => True) (fun k => .bool (true)) (fun k => []) := by
  refine Tr.intro Tryd.func5 rfl (n := 27) rfl (by decide +kernel) (Nat.le_of_ble_eq_true rfl) (fr := [(0, .agg #[.slice a_aG_Query_Head m_aG_Query_Head c_aG_Query_Head, .slice a_aG_Query_Atoms m_aG_Query_Atoms c_aG_Query_Atoms, .slice a_aG_Not m_aG_Not c_aG_Not])]) rfl fun w L hR => ?_
  obtain ⟨haG_Query_Head, haG_Query_Atoms, haG_Not⟩ := hR
  obtain ⟨rfl, laG_Query_Head⟩ := haG_Query_Head.slen
  obtain ⟨rfl, laG_Query_Atoms⟩ := haG_Query_Atoms.slen
  obtain ⟨rfl, laG_Not⟩ := haG_Not.slen
  refine E.seq (E.region (l := [0, 1]) rfl (E.st rfl rfl (N.box (cs := [_, _, _]) rfl (by decide) rfl) (fun b1 _ => ?_)))
  refine E.y rfl rfl (by decide) ((Y.as rfl).yd) ?_
  refine E.nil (E.thn (E.seq (E.region (l := [0]) rfl (E.y rfl rfl (by decide) ((Y.as rfl).yd) ?_))))
  refine E.nil (E.thn (E.seq (E.region (l := [0, 1, 2, 3]) rfl (E.y rfl rfl (by decide) (Y.ldS (cs := [_, _, _]) ty_lGuarded rfl (Has.pt m0) rfl) ?_))))
  refine E.y rfl rfl (by decide) ((Y.mv rfl).yd) ?_
  refine E.st rfl rfl (N.call0 t_laws_szGuarded rfl rfl rfl (by decide) (fun w Lp hA => ⟨hA.ro haG_Query_Head, hA.ro haG_Query_Atoms, hA.ro haG_Not, (by first | assumption | omega), (by first | assumption | omega)⟩)) (fun _ _ => ?_)
  refine E.y rfl rfl (by decide) ((Y.as rfl).yd) ?_
  refine E.nil (E.thn (E.seq (E.seq (E.region (l := [0, 1]) rfl (E.y rfl rfl (by decide) ((Y.mv rfl).yd) ?_)))))
  refine E.y rfl rfl (by decide) ((Y.lss rfl rfl).yd) (Ent.d (fun q11 => ?_) (fun q11 => ?_))
  · have z11 := szR_bad q11 (by omega)
    refine E.nil (E.thn (E.ct rfl (E.seq (E.region (l := [0]) rfl (E.y rfl rfl (by decide) ((Y.as rfl).yd) ?_)))))
    exact E.nil (E.thn (E.ret (E.thr (F.r1 (Back.refl _ _) rfl rfl () trivial rfl (J := _) (.refl _) (.inl rfl)))))
  · obtain ⟨z11, y11⟩ := szR_ok q11 (by omega)
    refine E.nil (E.thn (E.cf rfl (E.skipc (E.thn (E.seq (E.region (l := [0, 1, 2, 3]) rfl (E.y rfl rfl (by decide) (Y.ldS (cs := [_, _, _]) ty_lGuarded rfl (Has.pt m0) rfl) ?_)))))))
    refine E.st rfl rfl (N.call (t_laws_toGuarded (by first | omega | assumption | (constructor <;> omega)) (by first | omega | assumption | (constructor <;> omega)) (by first | omega | assumption | (constructor <;> omega))) rfl rfl rfl (by decide) rfl (fun w Lp hA => ⟨hA.ro haG_Query_Head, hA.ro haG_Query_Atoms, hA.ro haG_Not⟩)) (fun k13 _ => ?_)
    obtain ⟨⟨a13_0, m13_0, c13_0⟩, ⟨a13_1, m13_1, c13_1⟩, ⟨a13_2, m13_2, c13_2⟩⟩ := k13
    refine Ent.lenow m0 fun e13_0 l13_0 => ?_
    subst e13_0
    refine Ent.lenow (mS m0) fun e13_1 l13_1 => ?_
    subst e13_1
    refine Ent.lenow (mS (mS m0)) fun e13_2 l13_2 => ?_
    subst e13_2
    refine E.st rfl rfl (N.call0 (t_spec_FormatGuarded (by first | omega | assumption | (constructor <;> omega)) (by first | omega | assumption | (constructor <;> omega))) rfl rfl rfl (by decide) (fun w Lp hA => ⟨hA.ow m0, hA.ow (mS m0), hA.ow (mS (mS m0))⟩)) (fun _ _ => ?_)
    refine E.y rfl rfl (by decide) ((Y.as rfl).yd) ?_
    refine E.nil (E.thn (E.seq (E.region (l := [0, 1, 2, 3]) rfl (E.y rfl rfl (by decide) (Y.ldS (cs := [_, _, _]) ty_lGuarded rfl (Has.pt (mS (mS (mS m0)))) rfl) ?_))))
    refine E.st rfl rfl (N.call (t_laws_toGuarded (by first | omega | assumption | (constructor <;> omega)) (by first | omega | assumption | (constructor <;> omega)) (by first | omega | assumption | (constructor <;> omega))) rfl rfl rfl (by decide) rfl (fun w Lp hA => ⟨hA.ro haG_Query_Head, hA.ro haG_Query_Atoms, hA.ro haG_Not⟩)) (fun k16 _ => ?_)
    obtain ⟨⟨a16_0, m16_0, c16_0⟩, ⟨a16_1, m16_1, c16_1⟩, ⟨a16_2, m16_2, c16_2⟩⟩ := k16
    refine Ent.lenow m0 fun e16_0 l16_0 => ?_
    subst e16_0
    refine Ent.lenow (mS m0) fun e16_1 l16_1 => ?_
    subst e16_1
    refine Ent.lenow (mS (mS m0)) fun e16_2 l16_2 => ?_
    subst e16_2
    refine E.st rfl rfl (N.alloc ty_Guarded (by decide)) (fun b5 _ => ?_)
    refine E.st rfl rfl (N.sto (vs := [_, _, _]) (cs' := [_, _, _]) ty_Guarded rfl rfl rfl rfl rfl (Nat.le_of_ble_eq_true rfl) rfl) (fun _ _ => ?_)
    refine E.nil (E.thn (E.seq (E.region (l := [0, 1, 2]) rfl (E.y rfl rfl (by decide) (Y.ldS (cs := [_, _, _]) ty_Guarded rfl (Has.pt m0) rfl) ?_))))
    refine E.st rfl rfl (N.call0 (t_impl_FormatGuarded (by first | omega | assumption | (constructor <;> omega)) (by first | omega | assumption | (constructor <;> omega))) rfl rfl rfl (by decide) (fun w Lp hA => ⟨hA.ow (mS m0), hA.ow (mS (mS m0)), hA.ow (mS (mS (mS m0)))⟩)) (fun _ _ => ?_)
    refine E.y rfl rfl (by decide) ((Y.as rfl).yd) ?_
    refine E.nil (E.thn (E.seq (E.seq (E.region (l := [0, 1, 2]) rfl (E.y rfl rfl (by decide) ((Y.mv rfl).yd) ?_)))))
    refine E.y rfl rfl (by decide) ((Y.mv rfl).yd) ?_
    refine E.y rfl rfl (by decide) ((Y.neqS rfl rfl).yd) (Ent.d (fun q21 => ?_) (fun q21 => ?_))
    · exact absurd rfl q21
    · refine E.nil (E.thn (E.cf rfl (E.skipc (E.thn (E.seq (E.seq (D.region (fun j => true) mixed (D.y 0 rfl rfl (by decide) (Y.ldS (cs := [_, _, _]) ty_Guarded rfl (Has.pt m0) rfl) (by kernel_rfl) ?_))))))))
      refine D.y 1 rfl rfl (by decide) (Y.ldS (cs := [_, _, _]) ty_lGuarded rfl (Has.pt (mS (mS (mS (mS (mS (mS (mS m0)))))))) rfl) (by kernel_rfl) ?_
      refine D.st 2 rfl rfl (by kernel_rfl) (fun _ => rfl) (N.call (t_laws_toGuarded (by first | omega | assumption | (constructor <;> omega)) (by first | omega | assumption | (constructor <;> omega)) (by first | omega | assumption | (constructor <;> omega))) rfl rfl rfl (by decide) rfl (fun w Lp hA => ⟨hA.ro haG_Query_Head, hA.ro haG_Query_Atoms, hA.ro haG_Not⟩)) (fun k24 _ => ?_)
      obtain ⟨⟨a24_0, m24_0, c24_0⟩, ⟨a24_1, m24_1, c24_1⟩, ⟨a24_2, m24_2, c24_2⟩⟩ := k24
      refine Ent.lenow m0 fun e24_0 l24_0 => ?_
      subst e24_0
      refine Ent.lenow (mS m0) fun e24_1 l24_1 => ?_
      subst e24_1
      refine Ent.lenow (mS (mS m0)) fun e24_2 l24_2 => ?_
      subst e24_2
      refine D.st 3 rfl rfl (by kernel_rfl) (fun _ => rfl) (N.call0 t_laws_eqGuarded rfl rfl rfl (by decide) (fun w Lp hA => ⟨hA.ow (mS (mS (mS (mS m0)))), hA.ow (mS (mS (mS (mS (mS m0))))), hA.ow (mS (mS (mS (mS (mS (mS m0)))))), hA.ow m0, hA.ow (mS m0), hA.ow (mS (mS m0))⟩)) (fun _ _ => (Ent.b (fun q25 => ?_) (fun q25 => ?_)))
      · refine D.yp 4 rfl rfl (by decide) (Y.not (b := true) rfl) (by kernel_rfl) ?_
        refine D.done (by kernel_rfl) (E.thn (E.cf rfl (E.skipc (E.thn (E.seq (E.region (l := [0]) rfl (E.y rfl rfl (by decide) ((Y.as rfl).yd) ?_)))))))
        exact E.nil (E.thn (E.ret (F.r1 (Back.refl _ _) rfl rfl () trivial rfl (J := _) (.refl _) (.inl rfl))))
      · refine D.yp 4 rfl rfl (by decide) (Y.not (b := false) rfl) (by kernel_rfl) ?_
        refine D.done (by kernel_rfl) (E.thn (E.ct rfl (E.seq (E.region (l := [0]) rfl (E.y rfl rfl (by decide) ((Y.as rfl).yd) ?_)))))
        exact E.nil (E.thn (E.ret (E.thr (F.r1 (Back.refl _ _) rfl rfl () trivial (congrArg Value.bool (by simp_all)) (J := _) (.refl _) (.inl rfl)))))
end Go.Proofs.YtlbfbeldhkcdiaaDoor
