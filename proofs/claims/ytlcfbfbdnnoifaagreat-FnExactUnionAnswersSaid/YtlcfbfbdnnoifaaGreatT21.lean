import Derived.Test.YtlcfbfbdnnoifaaGreatT19
namespace Go.Proofs.YtlcfbfbdnnoifaaGreat
open Go.RowKit
set_option linter.unusedVariables false
set_option linter.unusedSimpArgs false
set_option maxHeartbeats 2000000
attribute [local irreducible] Nop Yd Yp Ent Has Tr FnP FnP2 Src listsF opnF opn1 opnR chainB
theorem t_impl_addedTuples {a_l : Option Addr} {m_l c_l : Nat} {l : List (List Int)} {a_more : Option Addr} {m_more c_more : Nat} {more : List (List Int)} (hz : l.length + more.length ≤ 100000000) (hym : ∀ t ∈ more, t.length ≤ 1048576) : Tr Tryz.prog 87 [.slice a_l m_l c_l, .slice a_more m_more c_more] (fun w L => Ro w L eIss [.slice a_more m_more c_more] more) [ow eIss [.slice a_l m_l c_l] l] (κ := Option Addr × Nat × Nat) (fun k => True) (fun k => .slice k.1 k.2.1 k.2.2) (fun k => [ow eIss [.slice k.1 k.2.1 k.2.2] (more.foldl addT l)]) := by
  refine Tr.intro Tryz.func87 rfl (n := 18) rfl (by decide +kernel) (Nat.le_of_ble_eq_true rfl) (fr := [(0, .slice a_l m_l c_l), (1, .slice a_more m_more c_more)]) rfl fun w L hR => ?_
  have hmore := hR
  obtain ⟨rfl, lmore⟩ := hmore.slen
  refine Ent.lenow m0 fun el ll => ?_
  subst el
  refine E.seq (E.region (l := [0]) rfl (E.y rfl rfl (by decide) ((Y.as rfl).yd) ?_))
  refine E.nil (E.thn (E.seq (E.seq (E.region (l := [0, 1, 2]) rfl (E.y rfl rfl (by decide) ((Y.mv rfl).yd) ?_)))))
  refine E.y rfl rfl (by decide) ((Y.len us_Iss rfl).yd) ?_
  refine E.y rfl rfl (by decide) ((Y.mv rfl).yd) ?_
  refine E.nil (E.thn (E.block (Ent.cv (congrArg (ow eIss [_]) (show l = (more.take 0).foldl addT l from by first | rfl | (simp; done) | grind [List.drop_eq_getElem_cons, List.drop_eq_nil_of_le, List.take_succ_eq_append_getElem, List.take_of_length_le])) ?_)))
  refine E.loop (κ := Nat × Option Addr × Nat × Nat) (fun g => g.1 ≤ more.length ∧ True) (fun g => [(0, .slice g.2.1 g.2.2.1 g.2.2.2), (7, .slice a_more more.length c_more), (8, .int .i64 (↑more.length : Int)), (9, .int .i64 (↑g.1 : Int))]) (fun g => [ow eIss [.slice g.2.1 g.2.2.1 g.2.2.2] ((more.take g.1).foldl addT l)]) (fun g => more.length - g.1) (0, a_l, l.length, c_l) ⟨Nat.zero_le _, by simp⟩ ⟨rfl, rfl, rfl, rfl, trivial⟩ (.refl _) (fun g pg => ?_)
  obtain ⟨g, aA0_0, mA0_0, cA0_0⟩ := g
  try dsimp only at pg
  show Ent _ _ _ [(0, .slice aA0_0 mA0_0 cA0_0), (7, .slice a_more more.length c_more), (8, .int .i64 (↑more.length : Int)), (9, .int .i64 (↑g : Int))] [ow eIss [.slice aA0_0 mA0_0 cA0_0] ((more.take g).foldl addT l)] _
  obtain ⟨pk, pa⟩ := pg
  have jn := (addT_fold (n := 0) (m := more.take g) (out := l)).1
  have jp := List.length_take_le g more
  refine Ent.lenow m0 fun eaA0_0 laA0_0 => ?_
  subst eaA0_0
  refine E.seq (E.region (l := [0]) rfl (E.y rfl rfl (by decide) ((Y.lss rfl rfl).yd) (Ent.d (fun q10 => ?_) (fun q10 => ?_))))
  · obtain ⟨eb11, eo11, ec11, ea11, er11, el11, eh11⟩ := hmore.elem g (by omega)
    obtain ⟨xa11, xc11, rfl⟩ := er11.sl
    have := er11.slen.2
    refine E.nil (E.thn (E.seq (E.ct rfl (E.skipc (E.thn (E.seq (E.block (E.seq (E.region (l := [0, 1, 2]) rfl (E.y rfl rfl (by decide) ((Y.ix us_Iss ty_Is rfl ea11 rfl g rfl (by omega)).yd) ?_))))))))))
    refine E.y rfl rfl (by decide) (Y.ld1 ty_Is rfl (eh11 _) rfl) ?_
    refine E.y rfl rfl (by decide) ((Y.as rfl).yd) ?_
    refine E.nil (E.thn (E.region (l := [0, 1, 2, 3]) rfl (E.y rfl rfl (by decide) ((Y.mv rfl).yd) ?_)))
    refine E.y rfl rfl (by decide) ((Y.mv rfl).yd) ?_
    refine E.st rfl rfl (N.call (pre := [_]) (t_impl_addedTuple (by first | omega | assumption) (hym _ (List.getElem_mem (by omega)))) rfl rfl rfl (by decide) rfl (fun w Lp hA => hA.ro er11)) (fun k15 _ => ?_)
    obtain ⟨a15, m15, c15⟩ := k15
    refine Ent.lenow m0 fun e15 l15 => ?_
    subst e15
    refine E.y rfl rfl (by decide) ((Y.as rfl).yd) ?_
    refine E.nil (E.bln (E.thn (E.region (l := [0, 1]) rfl (E.y rfl rfl (by decide) ((Y.add rfl rfl (by omega) (by omega)).yd) ?_))))
    refine E.y rfl rfl (by decide) ((Y.mv rfl).yd) ?_
    refine E.nil (E.thn (Ent.cv (congrArg (ow eIss [_]) (show addT ((more.take g).foldl addT l) more[g] = (more.take (g + 1)).foldl addT l from by grind [List.drop_eq_getElem_cons, List.drop_eq_nil_of_le, List.take_succ_eq_append_getElem, List.take_of_length_le])) ?_))
    exact E.again (Back.refl _ _) (g + 1, a15, (addT ((more.take g).foldl addT l) more[g]).length, c15) ⟨rfl, rfl, rfl, rfl, trivial⟩ (.refl _) ⟨(show g + 1 ≤ more.length from by omega), (show True from by grind [List.drop_eq_getElem_cons, List.drop_eq_nil_of_le, List.take_succ_eq_append_getElem, List.take_of_length_le])⟩ (show more.length - (g + 1) < more.length - g from by omega)
  · refine E.nil (E.thn (E.seq (E.cf rfl (E.exit (E.the (E.the (E.blh (E.thn (E.seq (E.region (l := [0, 1]) rfl (E.y rfl rfl (by decide) ((Y.mv rfl).yd) ?_)))))))))))
    refine E.y rfl rfl (by decide) ((Y.as rfl).yd) ?_
    refine E.nil (E.thn (E.ret (Ent.cv (congrArg (ow eIss [_]) (show _ = more.foldl addT l by grind [List.drop_eq_getElem_cons, List.drop_eq_nil_of_le, List.take_succ_eq_append_getElem, List.take_of_length_le])) ?_)))
    exact F.r1 (Back.refl _ _) rfl rfl (_, _, _) trivial rfl (J := _) (.refl _) (.inl rfl)
theorem t_spec_UnionAnswers {a_s : Option Addr} {m_s c_s : Nat} {s : List Int} {a_u : Option Addr} {m_u c_u : Nat} {u : List (List Int × List (Int × List Int))} {a_facts : Option Addr} {m_facts c_facts : Nat} {facts : List (Int × List Int)} (hyu : ∀ q ∈ u, totL (fun x => x.2.length) q.2 ≤ 1048576) : Tr Tryz.prog 45 [.slice a_s m_s c_s, .slice a_u m_u c_u, .slice a_facts m_facts c_facts] (fun w L => Ro w L eIs [.slice a_s m_s c_s] s ∧ Ro w L eQuerys [.slice a_u m_u c_u] u ∧ Ro w L eFacts [.slice a_facts m_facts c_facts] facts) [] (κ := Option Addr × Nat × Nat) (fun k => True) (fun k => .slice k.1 k.2.1 k.2.2) (fun k => [ow eIss [.slice k.1 k.2.1 k.2.2] (uniA s u facts)]) := by
  refine Tr.intro Tryz.func45 rfl (n := 43) rfl (by decide +kernel) (Nat.le_of_ble_eq_true rfl) (fr := [(0, .slice a_s m_s c_s), (1, .slice a_u m_u c_u), (2, .slice a_facts m_facts c_facts)]) rfl fun w L hR => ?_
  obtain ⟨hs, hu, hfacts⟩ := hR
  obtain ⟨rfl, ls⟩ := hs.slen
  obtain ⟨rfl, lu⟩ := hu.slen
  obtain ⟨rfl, lfacts⟩ := hfacts.slen
  refine E.seq (E.region (l := [0]) rfl (E.y rfl rfl (by decide) ((Y.as rfl).yd) ?_))
  refine E.nil (E.thn (E.seq (E.region (l := [0, 1]) rfl (E.st rfl rfl (N.bsl (pvs := []) (cs := []) us_Iss ty_Is rfl (by decide) (by decide) (fillZ rfl rfl) rfl (by decide)) (fun b11 _ => ?_)))))
  refine Ent.drop ?_
  refine E.y rfl rfl (by decide) ((Y.as rfl).yd) ?_
  refine E.nil (E.thn (E.seq (E.seq (E.region (l := [0]) rfl (E.y rfl rfl (by decide) ((Y.as rfl).yd) ?_)))))
  refine E.nil (E.thn (E.block (Ent.mkow (A := []) (Own.nil (E := eIs) (e := tIs) (a := (some ⟨b11, 0, none⟩))) rfl ?_)))
  refine Ent.cv (congrArg (ow eIss [_]) (show [] = (u.take 0).foldl (uniS s facts) [] from by first | rfl | (simp; done) | grind [uniA, uniS, List.drop_eq_getElem_cons, List.drop_eq_nil_of_le, List.take_succ_eq_append_getElem, List.take_of_length_le])) ?_
  refine E.loop (κ := Nat × Option Addr × Nat × Nat) (fun g => g.1 ≤ u.length ∧ (g.1 = 0 ∨ okUnion s u = true)) (fun g => [(0, .slice a_s s.length c_s), (1, .slice a_u u.length c_u), (2, .slice a_facts facts.length c_facts), (7, .slice g.2.1 g.2.2.1 g.2.2.2), (8, .int .i64 (↑g.1 : Int))]) (fun g => [ow eIss [.slice g.2.1 g.2.2.1 g.2.2.2] ((u.take g.1).foldl (uniS s facts) [])]) (fun g => u.length - g.1) (0, (some ⟨b11, 0, none⟩), 0, 0) ⟨Nat.zero_le _, by simp⟩ ⟨rfl, rfl, rfl, rfl, rfl, trivial⟩ (.refl _) (fun g pg => ?_)
  obtain ⟨g, aA0_0, mA0_0, cA0_0⟩ := g
  try dsimp only at pg
  show Ent _ _ _ [(0, .slice a_s s.length c_s), (1, .slice a_u u.length c_u), (2, .slice a_facts facts.length c_facts), (7, .slice aA0_0 mA0_0 cA0_0), (8, .int .i64 (↑g : Int))] [ow eIss [.slice aA0_0 mA0_0 cA0_0] ((u.take g).foldl (uniS s facts) [])] _
  obtain ⟨pk, pa⟩ := pg
  refine Ent.lenow m0 fun eaA0_0 laA0_0 => ?_
  subst eaA0_0
  refine E.seq (E.seq (E.region (l := [0, 1, 2, 3, 4, 5, 6, 7, 8]) rfl (E.y rfl rfl (by decide) ((Y.mv rfl).yd) ?_)))
  refine E.y rfl rfl (by decide) ((Y.mv rfl).yd) ?_
  refine E.y rfl rfl (by decide) ((Y.len us_Querys rfl).yd) ?_
  refine E.y rfl rfl (by decide) ((Y.lss rfl rfl).yd) (Ent.d (fun q15 => ?_) (fun q15 => ?_))
  · refine E.y rfl rfl (by decide) ((Y.mv rfl).yd) ?_
    refine E.y rfl rfl (by decide) ((Y.mv rfl).yd) ?_
    refine E.y rfl rfl (by decide) ((Y.mv rfl).yd) ?_
    refine E.st rfl rfl (N.call0 (t_spec_IsUnion hyu) rfl rfl rfl (by decide) (fun w Lp hA => ⟨hA.ro hs, hA.ro hu⟩)) (fun _ _ => (Ent.b (fun q19 => ?_) (fun q19 => ?_)))
    · have ju := okUnion_h (s := s) (u := u) (by assumption)
      refine E.y rfl rfl (by decide) ((Y.pkt rfl rfl).yd) ?_
      refine E.nil (E.thn (E.ct rfl (E.skipc (E.thn (E.seq (E.block (E.seq (E.region (l := [0, 1, 2, 3, 4, 5, 6, 7]) rfl (E.y rfl rfl (by decide) ((Y.mv rfl).yd) ?_)))))))))
      refine E.y rfl rfl (by decide) ((Y.mv rfl).yd) ?_
      refine E.y rfl rfl (by decide) ((Y.mv rfl).yd) ?_
      obtain ⟨eb26, eo26, ec26, ea26, er26, el26, eh26⟩ := hu.elem g (by omega)
      obtain ⟨xa26_0, xc26_0, xa26_1, xc26_1, rfl, xh26_0, xh26_1⟩ := Ro.pQuery er26
      have := xh26_0.slen.2
      have := xh26_1.slen.2
      refine E.y rfl rfl (by decide) ((Y.ix us_Querys ty_Query rfl ea26 rfl g rfl (by omega)).yd) ?_
      refine E.y rfl rfl (by decide) (Y.ldS (cs := [_, _]) ty_Query rfl (eh26 _) rfl) ?_
      refine E.y rfl rfl (by decide) ((Y.mv rfl).yd) ?_
      refine E.st rfl rfl (N.call (t_spec_AnswersOf (hyu _ (List.getElem_mem (by omega)))) rfl rfl rfl (by decide) rfl (fun w Lp hA => ⟨hA.ro hs, hA.ro xh26_0, hA.ro xh26_1, hA.ro hfacts⟩)) (fun k29 _ => ?_)
      obtain ⟨a29, m29, c29⟩ := k29
      refine Ent.lenow m0 fun e29 l29 => ?_
      subst e29
      refine Ent.rebase (A := [_]) rfl fun wb1 Lb1 hB1 hA1 => ?_
      have hs := hA1.ro hs
      have hu := hA1.ro hu
      have hfacts := hA1.ro hfacts
      have xh26_0 := hA1.ro xh26_0
      have xh26_1 := hA1.ro xh26_1
      have eh26 := hB1.has eh26
      have rb1 : Ro wb1 Lb1 eIss [.slice a29 (ansR s u[g] facts).length c29] (ansR s u[g] facts) := hA1.ow m0
      refine E.y rfl rfl (by decide) ((Y.as rfl).yd) ?_
      refine E.nil (E.thn (E.seq (E.region (l := [0]) rfl (E.y rfl rfl (by decide) ((Y.as rfl).yd) ?_))))
      refine E.nil (E.thn (E.block (Ent.cv (congrArg (ow eIss [_]) (show (u.take g).foldl (uniS s facts) [] = ((ansR s u[g] facts).take 0).foldl addT ((u.take g).foldl (uniS s facts) []) from by first | rfl | (simp; done) | grind [uniA, uniS, List.drop_eq_getElem_cons, List.drop_eq_nil_of_le, List.take_succ_eq_append_getElem, List.take_of_length_le])) ?_)))
      refine E.loop (κ := Nat × Option Addr × Nat × Nat) (fun h => h.1 ≤ (ansR s u[g] facts).length ∧ True) (fun h => [(0, .slice a_s s.length c_s), (1, .slice a_u u.length c_u), (2, .slice a_facts facts.length c_facts), (7, .slice h.2.1 h.2.2.1 h.2.2.2), (8, .int .i64 (↑g : Int)), (9, .slice a29 (ansR s u[g] facts).length c29), (10, .int .i64 (↑h.1 : Int))]) (fun h => [ow eIss [.slice h.2.1 h.2.2.1 h.2.2.2] (((ansR s u[g] facts).take h.1).foldl addT ((u.take g).foldl (uniS s facts) []))]) (fun h => (ansR s u[g] facts).length - h.1) (0, aA0_0, ((u.take g).foldl (uniS s facts) []).length, cA0_0) ⟨Nat.zero_le _, by simp⟩ ⟨rfl, rfl, rfl, rfl, rfl, rfl, rfl, trivial⟩ (.refl _) (fun h ph => ?_)
      obtain ⟨h, aA1_0, mA1_0, cA1_0⟩ := h
      try dsimp only at ph
      show Ent _ _ _ [(0, .slice a_s s.length c_s), (1, .slice a_u u.length c_u), (2, .slice a_facts facts.length c_facts), (7, .slice aA1_0 mA1_0 cA1_0), (8, .int .i64 (↑g : Int)), (9, .slice a29 (ansR s u[g] facts).length c29), (10, .int .i64 (↑h : Int))] [ow eIss [.slice aA1_0 mA1_0 cA1_0] (((ansR s u[g] facts).take h).foldl addT ((u.take g).foldl (uniS s facts) []))] _
      obtain ⟨pk, pa⟩ := ph
      have jr := ansR_len (s := s) (q := u[g]) (facts := facts)
      have jt := uni_take (s := s) (facts := facts) (u := u) (g := g) (h := h) (m := ansR s u[g] facts) (by omega) jr.1 jr.2
      refine Ent.lenow m0 fun eaA1_0 laA1_0 => ?_
      subst eaA1_0
      refine E.seq (E.seq (E.region (l := [0, 1, 2, 3]) rfl (E.y rfl rfl (by decide) ((Y.mv rfl).yd) ?_)))
      refine E.y rfl rfl (by decide) ((Y.mv rfl).yd) ?_
      refine E.y rfl rfl (by decide) ((Y.len us_Iss rfl).yd) ?_
      refine E.y rfl rfl (by decide) ((Y.lss rfl rfl).yd) (Ent.d (fun q33 => ?_) (fun q33 => ?_))
      · refine E.nil (E.thn (E.ct rfl (E.skipc (E.thn (E.seq (E.block (E.region (l := [0, 1, 2, 3, 4, 5, 6]) rfl (E.y rfl rfl (by decide) ((Y.mv rfl).yd) ?_))))))))
        refine E.y rfl rfl (by decide) ((Y.mv rfl).yd) ?_
        refine E.y rfl rfl (by decide) ((Y.mv rfl).yd) ?_
        obtain ⟨eb39, eo39, ec39, ea39, er39, el39, eh39⟩ := rb1.elem h (by omega)
        obtain ⟨xa39, xc39, rfl⟩ := er39.sl
        have := er39.slen.2
        refine E.y rfl rfl (by decide) ((Y.ix us_Iss ty_Is rfl ea39 rfl h rfl (by omega)).yd) ?_
        refine E.y rfl rfl (by decide) (Y.ld1 ty_Is rfl (eh39 _) rfl) ?_
        refine E.st rfl rfl (N.call (t_spec_AddTuple (Nat.le_trans jt.1 (by decide)) jt.2 (Nat.le_trans (jr.2 _ (List.getElem_mem (by omega))) (by decide))) rfl rfl rfl (by decide) rfl (fun w Lp hA => ⟨hA.ow m0, hA.ro er39⟩)) (fun k41 _ => ?_)
        obtain ⟨a41, m41, c41⟩ := k41
        refine Ent.lenow m0 fun e41 l41 => ?_
        subst e41
        refine E.y rfl rfl (by decide) ((Y.as rfl).yd) ?_
        refine E.nil (E.bln (E.thn (E.region (l := [0, 1, 2]) rfl (E.y rfl rfl (by decide) ((Y.mv rfl).yd) ?_))))
        refine E.y rfl rfl (by decide) ((Y.add rfl rfl (by omega) (by omega)).yd) ?_
        refine E.y rfl rfl (by decide) ((Y.as rfl).yd) ?_
        refine E.nil (E.thn (Ent.p1 ?_))
        refine Ent.drop ?_
        refine Ent.cv (congrArg (ow eIss [_]) (show addT (((ansR s u[g] facts).take h).foldl addT ((u.take g).foldl (uniS s facts) [])) ((ansR s u[g] facts)[h]) = ((ansR s u[g] facts).take (h + 1)).foldl addT ((u.take g).foldl (uniS s facts) []) from by grind [uniA, uniS, List.drop_eq_getElem_cons, List.drop_eq_nil_of_le, List.take_succ_eq_append_getElem, List.take_of_length_le])) ?_
        exact E.again (Back.refl _ _) (h + 1, a41, (addT (((ansR s u[g] facts).take h).foldl addT ((u.take g).foldl (uniS s facts) [])) ((ansR s u[g] facts)[h])).length, c41) ⟨rfl, rfl, rfl, rfl, rfl, rfl, rfl, trivial⟩ (.refl _) ⟨(show h + 1 ≤ (ansR s u[g] facts).length from by omega), (show True from by grind [List.drop_eq_getElem_cons, List.drop_eq_nil_of_le, List.take_succ_eq_append_getElem, List.take_of_length_le])⟩ (show (ansR s u[g] facts).length - (h + 1) < (ansR s u[g] facts).length - h from by omega)
      · refine E.nil (E.thn (E.cf rfl (E.exit (E.the (E.the (E.blh (E.bln (E.thn (E.region (l := [0, 1, 2]) rfl (E.y rfl rfl (by decide) ((Y.mv rfl).yd) ?_))))))))))
        refine E.y rfl rfl (by decide) ((Y.add rfl rfl (by omega) (by omega)).yd) ?_
        refine E.y rfl rfl (by decide) ((Y.as rfl).yd) ?_
        refine E.nil (E.thn (Ent.cv (congrArg (ow eIss [_]) (show ((ansR s u[g] facts).take h).foldl addT ((u.take g).foldl (uniS s facts) []) = (u.take (g + 1)).foldl (uniS s facts) [] from by grind [uniA, uniS, List.drop_eq_getElem_cons, List.drop_eq_nil_of_le, List.take_succ_eq_append_getElem, List.take_of_length_le])) ?_))
        exact E.again hB1 (g + 1, aA1_0, (((ansR s u[g] facts).take h).foldl addT ((u.take g).foldl (uniS s facts) [])).length, cA1_0) ⟨rfl, rfl, rfl, rfl, rfl, trivial⟩ (.refl _) ⟨(show g + 1 ≤ u.length from by omega), (show ((g + 1) = 0 ∨ okUnion s u = true) from by exact .inr (by assumption))⟩ (show u.length - (g + 1) < u.length - g from by omega)
    · refine E.y rfl rfl (by decide) ((Y.pkt rfl rfl).yd) ?_
      refine E.nil (E.thn (E.cf rfl (E.exit (E.the (E.the (E.blh (E.thn (E.seq (E.region (l := [0, 1]) rfl (E.y rfl rfl (by decide) ((Y.mv rfl).yd) ?_))))))))))
      refine E.y rfl rfl (by decide) ((Y.as rfl).yd) ?_
      refine E.nil (E.thn (E.ret (Ent.cv (congrArg (ow eIss [_]) (show _ = uniA s u facts by grind [uniA, uniS, List.drop_eq_getElem_cons, List.drop_eq_nil_of_le, List.take_succ_eq_append_getElem, List.take_of_length_le])) ?_)))
      exact F.r1 (Back.refl _ _) rfl rfl (_, _, _) trivial rfl (J := _) (.refl _) (.inl rfl)
  · refine E.y rfl rfl (by decide) ((Y.mv rfl).yd) ?_
    refine E.skip rfl rfl rfl ?_
    refine E.skip rfl rfl rfl ?_
    refine E.skip rfl rfl rfl ?_
    refine E.y rfl rfl (by decide) ((Y.pkf rfl rfl).yd) ?_
    refine E.nil (E.thn (E.cf rfl (E.exit (E.the (E.the (E.blh (E.thn (E.seq (E.region (l := [0, 1]) rfl (E.y rfl rfl (by decide) ((Y.mv rfl).yd) ?_))))))))))
    refine E.y rfl rfl (by decide) ((Y.as rfl).yd) ?_
    refine E.nil (E.thn (E.ret (Ent.cv (congrArg (ow eIss [_]) (show _ = uniA s u facts by grind [uniA, uniS, List.drop_eq_getElem_cons, List.drop_eq_nil_of_le, List.take_succ_eq_append_getElem, List.take_of_length_le])) ?_)))
    exact F.r1 (Back.refl _ _) rfl rfl (_, _, _) trivial rfl (J := _) (.refl _) (.inl rfl)
theorem t_impl_UnionAnswers {a_s : Option Addr} {m_s c_s : Nat} {s : List Int} {a_u : Option Addr} {m_u c_u : Nat} {u : List (List Int × List (Int × List Int))} {a_facts : Option Addr} {m_facts c_facts : Nat} {facts : List (Int × List Int)} (hyu : ∀ q ∈ u, totL (fun x => x.2.length) q.2 ≤ 1048576) : Tr Tryz.prog 46 [.slice a_s m_s c_s, .slice a_u m_u c_u, .slice a_facts m_facts c_facts] (fun w L => Ro w L eIs [.slice a_s m_s c_s] s ∧ Ro w L eQuerys [.slice a_u m_u c_u] u ∧ Ro w L eFacts [.slice a_facts m_facts c_facts] facts) [] (κ := Option Addr × Nat × Nat) (fun k => True) (fun k => .slice k.1 k.2.1 k.2.2) (fun k => [ow eIss [.slice k.1 k.2.1 k.2.2] (uniA s u facts)]) := by
  refine Tr.intro Tryz.func46 rfl (n := 34) rfl (by decide +kernel) (Nat.le_of_ble_eq_true rfl) (fr := [(0, .slice a_s m_s c_s), (1, .slice a_u m_u c_u), (2, .slice a_facts m_facts c_facts)]) rfl fun w L hR => ?_
  obtain ⟨hs, hu, hfacts⟩ := hR
  obtain ⟨rfl, ls⟩ := hs.slen
  obtain ⟨rfl, lu⟩ := hu.slen
  obtain ⟨rfl, lfacts⟩ := hfacts.slen
  refine E.seq (E.region (l := [0]) rfl (E.y rfl rfl (by decide) ((Y.as rfl).yd) ?_))
  refine E.nil (E.thn (E.seq (E.seq (E.region (l := [0, 1, 2, 3, 4, 5, 6, 7, 8, 9]) rfl (E.y rfl rfl (by decide) ((Y.mv rfl).yd) ?_)))))
  refine E.y rfl rfl (by decide) ((Y.mv rfl).yd) ?_
  refine E.st rfl rfl (N.call0 (t_impl_IsUnion hyu) rfl rfl rfl (by decide) (fun w Lp hA => ⟨hA.ro hs, hA.ro hu⟩)) (fun _ _ => (Ent.b (fun q12 => ?_) (fun q12 => ?_)))
  · refine E.y rfl rfl (by decide) ((Y.not (b := true) rfl).yd) ?_
    refine E.y rfl rfl (by decide) ((Y.mv rfl).yd) ?_
    refine E.y rfl rfl (by decide) ((Y.mv rfl).yd) ?_
    refine E.y rfl rfl (by decide) ((Y.mv rfl).yd) ?_
    refine E.st rfl rfl (N.call0 t_impl_AreFacts rfl rfl rfl (by decide) (fun w Lp hA => ⟨hA.ro hs, hA.ro hfacts⟩)) (fun _ _ => (Ent.b (fun q17 => ?_) (fun q17 => ?_)))
    · refine E.y rfl rfl (by decide) ((Y.not (b := true) rfl).yd) ?_
      refine E.y rfl rfl (by decide) ((Y.pkf rfl rfl).yd) ?_
      refine E.nil (E.thn (E.cf rfl (E.skipc (E.thn (E.seq (E.region (l := [0, 1]) rfl (E.st rfl rfl (N.bsl (pvs := []) (cs := []) us_Iss ty_Is rfl (by decide) (by decide) (fillZ rfl rfl) rfl (by decide)) (fun b20 _ => ?_))))))))
      refine Ent.drop ?_
      refine E.y rfl rfl (by decide) ((Y.as rfl).yd) ?_
      refine E.nil (E.thn (E.seq (E.seq (E.region (l := [0, 1, 2]) rfl (E.y rfl rfl (by decide) ((Y.mv rfl).yd) ?_)))))
      refine E.y rfl rfl (by decide) ((Y.len us_Querys rfl).yd) ?_
      refine E.y rfl rfl (by decide) ((Y.mv rfl).yd) ?_
      refine E.nil (E.thn (E.block (Ent.mkow (A := []) (Own.nil (E := eIs) (e := tIs) (a := (some ⟨b20, 0, none⟩))) rfl ?_)))
      refine Ent.cv (congrArg (ow eIss [_]) (show [] = (u.take 0).foldl (uniS s facts) [] from by first | rfl | (simp; done) | grind [uniA, uniS, uni_no, List.drop_eq_getElem_cons, List.drop_eq_nil_of_le, List.take_succ_eq_append_getElem, List.take_of_length_le])) ?_
      refine E.loop (κ := Nat × Option Addr × Nat × Nat) (fun g => g.1 ≤ u.length ∧ True) (fun g => [(2, .slice a_facts facts.length c_facts), (7, .slice g.2.1 g.2.2.1 g.2.2.2), (21, .slice a_u u.length c_u), (22, .int .i64 (↑u.length : Int)), (23, .int .i64 (↑g.1 : Int))]) (fun g => [ow eIss [.slice g.2.1 g.2.2.1 g.2.2.2] ((u.take g.1).foldl (uniS s facts) [])]) (fun g => u.length - g.1) (0, (some ⟨b20, 0, none⟩), 0, 0) ⟨Nat.zero_le _, by simp⟩ ⟨rfl, rfl, rfl, rfl, rfl, trivial⟩ (.refl _) (fun g pg => ?_)
      obtain ⟨g, aA0_0, mA0_0, cA0_0⟩ := g
      try dsimp only at pg
      show Ent _ _ _ [(2, .slice a_facts facts.length c_facts), (7, .slice aA0_0 mA0_0 cA0_0), (21, .slice a_u u.length c_u), (22, .int .i64 (↑u.length : Int)), (23, .int .i64 (↑g : Int))] [ow eIss [.slice aA0_0 mA0_0 cA0_0] ((u.take g).foldl (uniS s facts) [])] _
      obtain ⟨pk, pa⟩ := pg
      have ju := okUnion_h (s := s) (u := u) (by assumption)
      have jf := okFacts_all (s := s) (l := facts) (by assumption)
      have jt := uni_take (s := s) (facts := facts) (u := u) (g := g) (h := 0) (m := []) (by omega) (by simp) (by simp)
      rw [List.take_nil, List.foldl_nil] at jt
      refine Ent.lenow m0 fun eaA0_0 laA0_0 => ?_
      subst eaA0_0
      refine E.seq (E.region (l := [0]) rfl (E.y rfl rfl (by decide) ((Y.lss rfl rfl).yd) (Ent.d (fun q24 => ?_) (fun q24 => ?_))))
      · have jq := okQuery_h (ju.2 u[g] (List.getElem_mem (by omega)))
        have jx := ansR_yes (facts := facts) (ju.2 u[g] (List.getElem_mem (by omega))) (by assumption)
        have jr := ansR_len (s := s) (q := u[g]) (facts := facts)
        rw [jx] at jr
        obtain ⟨eb25, eo25, ec25, ea25, er25, el25, eh25⟩ := hu.elem g (by omega)
        obtain ⟨xa25_0, xc25_0, xa25_1, xc25_1, rfl, xh25_0, xh25_1⟩ := Ro.pQuery er25
        have := xh25_0.slen.2
        have := xh25_1.slen.2
        refine E.nil (E.thn (E.seq (E.ct rfl (E.skipc (E.thn (E.seq (E.block (E.seq (E.region (l := [0, 1, 2, 3]) rfl (E.y rfl rfl (by decide) ((Y.ix us_Querys ty_Query rfl ea25 rfl g rfl (by omega)).yd) ?_))))))))))
        refine E.y rfl rfl (by decide) (Y.ldS (cs := [_, _]) ty_Query rfl (eh25 _) rfl) ?_
        refine E.st rfl rfl (N.alloc ty_Query (by decide)) (fun b9 _ => ?_)
        refine E.st rfl rfl (N.sto (vs := [_, _]) (cs' := [_, _]) ty_Query rfl rfl rfl rfl rfl (Nat.le_of_ble_eq_true rfl) rfl) (fun _ _ => ?_)
        refine E.nil (E.thn (E.region (l := [0, 1, 2, 3, 4, 5]) rfl (E.y rfl rfl (by decide) ((Y.mv rfl).yd) ?_)))
        refine E.y rfl rfl (by decide) (Y.ldS (cs := [_, _]) ty_Query rfl (Has.pt m0) rfl) ?_
        refine E.y rfl rfl (by decide) ((Y.mv rfl).yd) ?_
        refine E.st rfl rfl (N.call (t_impl_answers jq.1 jq.2.2 jf.1 jq.2.1) rfl rfl rfl (by decide) rfl (fun w Lp hA => ⟨hA.ro xh25_0, hA.ro xh25_1, hA.ro hfacts⟩)) (fun k30 _ => ?_)
        obtain ⟨a30, m30, c30⟩ := k30
        refine Ent.lenow m0 fun e30 l30 => ?_
        subst e30
        refine Ent.p2 ?_
        refine E.st rfl rfl (N.call (pre := [_]) (t_impl_addedTuples (by omega) (fun t ht => Nat.le_trans (jr.2 t ht) (by decide))) rfl rfl rfl (by decide) rfl (fun w Lp hA => hA.ow m0)) (fun k31 _ => ?_)
        obtain ⟨a31, m31, c31⟩ := k31
        refine Ent.lenow m0 fun e31 l31 => ?_
        subst e31
        refine E.y rfl rfl (by decide) ((Y.as rfl).yd) ?_
        refine E.nil (E.bln (E.thn (E.region (l := [0, 1]) rfl (E.y rfl rfl (by decide) ((Y.add rfl rfl (by omega) (by omega)).yd) ?_))))
        refine E.y rfl rfl (by decide) ((Y.mv rfl).yd) ?_
        refine E.nil (E.thn (Ent.p1 ?_))
        refine Ent.drop ?_
        refine Ent.p1 ?_
        refine Ent.drop ?_
        refine Ent.cv (congrArg (ow eIss [_]) (show (tupF u[g].1 (bindsF u[g].2 facts)).foldl addT ((u.take g).foldl (uniS s facts) []) = (u.take (g + 1)).foldl (uniS s facts) [] from by grind [uniA, uniS, uni_no, List.drop_eq_getElem_cons, List.drop_eq_nil_of_le, List.take_succ_eq_append_getElem, List.take_of_length_le])) ?_
        exact E.again (Back.refl _ _) (g + 1, a31, ((tupF u[g].1 (bindsF u[g].2 facts)).foldl addT ((u.take g).foldl (uniS s facts) [])).length, c31) ⟨rfl, rfl, rfl, rfl, rfl, trivial⟩ (.refl _) ⟨(show g + 1 ≤ u.length from by omega), (show True from by grind [List.drop_eq_getElem_cons, List.drop_eq_nil_of_le, List.take_succ_eq_append_getElem, List.take_of_length_le])⟩ (show u.length - (g + 1) < u.length - g from by omega)
      · refine E.nil (E.thn (E.seq (E.cf rfl (E.exit (E.the (E.the (E.blh (E.thn (E.seq (E.region (l := [0, 1]) rfl (E.y rfl rfl (by decide) ((Y.mv rfl).yd) ?_)))))))))))
        refine E.y rfl rfl (by decide) ((Y.as rfl).yd) ?_
        refine E.nil (E.thn (E.ret (Ent.cv (congrArg (ow eIss [_]) (show _ = uniA s u facts by grind [uniA, uniS, uni_no, List.drop_eq_getElem_cons, List.drop_eq_nil_of_le, List.take_succ_eq_append_getElem, List.take_of_length_le])) ?_)))
        exact F.r1 (Back.refl _ _) rfl rfl (_, _, _) trivial rfl (J := _) (.refl _) (.inl rfl)
    · refine E.y rfl rfl (by decide) ((Y.not (b := false) rfl).yd) ?_
      refine E.y rfl rfl (by decide) ((Y.pkf rfl rfl).yd) ?_
      refine E.nil (E.thn (E.ct rfl (E.seq (E.region (l := [0]) rfl (E.y rfl rfl (by decide) ((Y.as rfl).yd) ?_)))))
      refine E.nil (E.thn (E.ret (E.thr (Ent.mkow (A := []) (Own.nil (E := eIs) (e := tIs) (a := none)) rfl ?_))))
      refine Ent.cv (congrArg (ow eIss [_]) (show _ = uniA s u facts by grind [uniA, uniS, uni_no, List.drop_eq_getElem_cons, List.drop_eq_nil_of_le, List.take_succ_eq_append_getElem, List.take_of_length_le])) ?_
      exact F.r1 (Back.refl _ _) rfl rfl (none, 0, 0) trivial rfl (J := _) (.refl _) (.inl rfl)
  · refine E.y rfl rfl (by decide) ((Y.not (b := false) rfl).yd) ?_
    refine E.y rfl rfl (by decide) ((Y.mv rfl).yd) ?_
    refine E.skip rfl rfl rfl ?_
    refine E.skip rfl rfl rfl ?_
    refine E.skip rfl rfl rfl ?_
    refine E.skip rfl rfl rfl ?_
    refine E.y rfl rfl (by decide) ((Y.pkt rfl rfl).yd) ?_
    refine E.nil (E.thn (E.ct rfl (E.seq (E.region (l := [0]) rfl (E.y rfl rfl (by decide) ((Y.as rfl).yd) ?_)))))
    refine E.nil (E.thn (E.ret (E.thr (Ent.mkow (A := []) (Own.nil (E := eIs) (e := tIs) (a := none)) rfl ?_))))
    refine Ent.cv (congrArg (ow eIss [_]) (show _ = uniA s u facts by grind [uniA, uniS, uni_no, List.drop_eq_getElem_cons, List.drop_eq_nil_of_le, List.take_succ_eq_append_getElem, List.take_of_length_le])) ?_
    exact F.r1 (Back.refl _ _) rfl rfl (none, 0, 0) trivial rfl (J := _) (.refl _) (.inl rfl)
theorem t_laws_markQueryS {a_a : Option Addr} {m_a c_a : Nat} {a : List (List Int × List (Int × List Int))} {v : Int} : Tr Tryz.prog 47 [.slice a_a m_a c_a, .int .i64 v] (fun w L => 0 ≤ v ∧ v + ((totS cE_Query a : Nat) : Int) ≤ 4611686018427387904) [ow eQuerys [.slice a_a m_a c_a] a] (κ := Unit) (fun k => True) (fun k => .int .i64 (v + (totS cE_Query a : Nat))) (fun k => [ow eQuerys [.slice a_a m_a c_a] (mkL cE_Query mE_Query a v)]) := by
  refine Tr.intro Tryz.func47 rfl (n := 27) rfl (by decide +kernel) (Nat.le_of_ble_eq_true rfl) (fr := [(0, .slice a_a m_a c_a), (1, .int .i64 v)]) rfl fun w L hR => ?_
  obtain ⟨as0, as1⟩ := hR
  refine Ent.lenow m0 fun ea la => ?_
  subst ea
  refine E.seq (E.region (l := [0]) rfl (E.y rfl rfl (by decide) ((Y.as rfl).yd) ?_))
  refine E.nil (E.thn (E.seq (E.seq (E.region (l := [0]) rfl (E.y rfl rfl (by decide) ((Y.as rfl).yd) ?_)))))
  refine E.nil (E.thn (E.block (E.loop (κ := Nat) (fun g => g ≤ a.length) (fun g => [(0, .slice a_a a.length c_a), (1, .int .i64 (v + (totS cE_Query (a.take g) : Nat))), (5, .int .i64 (↑g : Int))]) (fun g => [ow eQuerys [.slice a_a a.length c_a] (mkL cE_Query mE_Query (a.take g) v ++ a.drop g)]) (fun g => a.length - g) 0 (Nat.zero_le _) ⟨rfl, frI (by simp [totS]), rfl, trivial⟩ (.refl _) (fun g pg => ?_))))
  have u1 := totS_le (t := cE_Query) (l := a) (g := g)
  have u2 := totS_le (t := cE_Query) (l := a) (g := g + 1)
  have hlen : (mkL cE_Query mE_Query (a.take g) v ++ a.drop g).length = a.length := by rw [List.length_append, mkL_len, ← List.length_append, List.take_append_drop]
  refine E.seq (E.seq (E.region (l := [0, 1, 2, 3]) rfl (E.y rfl rfl (by decide) ((Y.mv rfl).yd) ?_)))
  refine E.y rfl rfl (by decide) ((Y.mv rfl).yd) ?_
  refine E.y rfl rfl (by decide) ((Y.len us_Querys rfl).yd) ?_
  refine E.y rfl rfl (by decide) ((Y.lss rfl rfl).yd) (Ent.d (fun q9 => ?_) (fun q9 => ?_))
  · have u3 := totS_step (t := cE_Query) (show g < a.length by omega)
    have u4 : cE_Query a[g] = totS cE_I a[g].1 + totS cE_Atom a[g].2 := rfl
    refine E.nil (E.thn (E.ct rfl (E.skipc (E.thn (E.seq (E.block (E.seq (E.region (l := [0, 1, 2, 3, 4, 5, 6, 7]) rfl (E.y rfl rfl (by decide) ((Y.mv rfl).yd) ?_)))))))))
    refine E.y rfl rfl (by decide) ((Y.mv rfl).yd) ?_
    refine Ent.adr m0 (by omega) fun ab14 ae14 => ?_
    refine Ent.open (x := a[g]) g (mk_get (show g < a.length by omega)) fun ce14 => ?_
    refine Ent.p1 ?_
    refine Ent.oQuery fun oa14_0 om14_0 oc14_0 oa14_1 om14_1 oc14_1 oe14 on14_0 on14_1 => ?_
    subst oe14
    subst on14_0
    subst on14_1
    refine E.y rfl rfl (by decide) ((Y.ix us_Querys ty_Query rfl ae14 rfl g rfl (by omega)).yd) ?_
    refine E.y rfl rfl (by decide) ((Y.fld fo_Query_0 ty_Is (by decide) rfl).yd) ?_
    refine E.y rfl rfl (by decide) (Y.ld1 ty_Is rfl ((Has.hole ae14 (mS (mS m0))).sub (cs' := [_]) 0 rfl) rfl) ?_
    refine E.y rfl rfl (by decide) ((Y.mv rfl).yd) ?_
    refine E.st rfl rfl (N.call (pre := [_]) t_laws_markIntS rfl rfl rfl (by decide) rfl (fun w Lp hA => ⟨(by first | assumption | omega), (by first | assumption | omega)⟩)) (fun _ _ => ?_)
    refine E.y rfl rfl (by decide) ((Y.as rfl).yd) ?_
    refine E.nil (E.thn (E.region (l := [0, 1, 2, 3, 4, 5, 6, 7]) rfl (E.y rfl rfl (by decide) ((Y.mv rfl).yd) ?_)))
    refine E.y rfl rfl (by decide) ((Y.mv rfl).yd) ?_
    refine E.y rfl rfl (by decide) ((Y.ix us_Querys ty_Query rfl ae14 rfl g rfl (by omega)).yd) ?_
    refine E.y rfl rfl (by decide) ((Y.fld fo_Query_1 ty_Atoms (by decide) rfl).yd) ?_
    refine E.y rfl rfl (by decide) (Y.ld1 ty_Atoms rfl ((Has.hole ae14 (mS (mS m0))).sub (cs' := [_]) 1 rfl) rfl) ?_
    refine E.y rfl rfl (by decide) ((Y.mv rfl).yd) ?_
    refine Ent.p1 ?_
    refine E.st rfl rfl (N.call (pre := [_]) t_laws_markAtomS rfl rfl rfl (by decide) rfl (fun w Lp hA => ⟨(by first | assumption | omega), (by first | assumption | omega)⟩)) (fun _ _ => ?_)
    refine E.y rfl rfl (by decide) ((Y.as rfl).yd) ?_
    refine E.nil (E.bln (E.thn (E.region (l := [0, 1, 2]) rfl (E.y rfl rfl (by decide) ((Y.mv rfl).yd) ?_))))
    refine E.y rfl rfl (by decide) ((Y.add rfl rfl (by omega) (by omega)).yd) ?_
    refine E.y rfl rfl (by decide) ((Y.as rfl).yd) ?_
    refine E.nil (E.thn (Ent.p1 ?_))
    refine Ent.p2 ?_
    refine Ent.shut (Own.mkQuery (x := (mkL cE_I mE_I a[g].1 (v + (totS cE_Query (a.take g) : Nat)), mkL cE_Atom mE_Atom a[g].2 ((v + (totS cE_Query (a.take g) : Nat)) + (totS cE_I a[g].1 : Nat)))) Own.ow Own.ow) rfl ?_
    exact E.again (Back.refl _ _) (g + 1) ⟨rfl, frI (by omega), rfl, trivial⟩ (permOw (mk_set (c := cE_Query) (m := mE_Query) (show g < a.length by omega) rfl)) (by omega) (by omega)
  · refine E.nil (E.thn (E.cf rfl (E.exit (E.the (E.the (E.blh (E.thn (E.seq (E.region (l := [0, 1]) rfl (E.y rfl rfl (by decide) ((Y.mv rfl).yd) ?_))))))))))
    refine E.y rfl rfl (by decide) ((Y.as rfl).yd) ?_
    refine E.nil (E.thn (E.ret (Ent.cv (congrArg (ow eQuerys [_]) (show mkL cE_Query mE_Query (a.take g) v ++ a.drop g = mkL cE_Query mE_Query a v from by first | exact mk_all (by omega) | (rw [totS_all (by omega)]))) ?_)))
    exact F.r1 (Back.refl _ _) rfl rfl () trivial (by rw [show (v + (totS cE_Query a : Nat)) = (v + (totS cE_Query (a.take g) : Nat)) from (by first | exact mk_all (by omega) | (rw [totS_all (by omega)]))]; try rfl) (J := _) (.refl _) (.inl rfl)
theorem t_laws_FnExactUnionAnswers {a_aS : Option Addr} {m_aS c_aS : Nat} {aS : List Int} {a_aU : Option Addr} {m_aU c_aU : Nat} {aU : List (List Int × List (Int × List Int))} {a_aFacts : Option Addr} {m_aFacts c_aFacts : Nat} {aFacts : List (Int × List Int)} : Tr Tryz.prog 9 [.slice a_aS m_aS c_aS, .slice a_aU m_aU c_aU, .slice a_aFacts m_aFacts c_aFacts] (fun w L => Ro w L eIs [.slice a_aS m_aS c_aS] aS ∧ Ro w L eQuerys [.slice a_aU m_aU c_aU] aU ∧ Ro w L eFacts [.slice a_aFacts m_aFacts c_aFacts] aFacts) [] (κ := Unit) (fun k => True) (fun k => .bool (true)) (fun k => []) := by
  refine Tr.intro Tryz.func9 rfl (n := 113) rfl (by decide +kernel) (Nat.le_of_ble_eq_true rfl) (fr := [(0, .slice a_aS m_aS c_aS), (1, .slice a_aU m_aU c_aU), (2, .slice a_aFacts m_aFacts c_aFacts)]) rfl fun w L hR => ?_
  obtain ⟨haS, haU, haFacts⟩ := hR
  obtain ⟨rfl, laS⟩ := haS.slen
  obtain ⟨rfl, laU⟩ := haU.slen
  obtain ⟨rfl, laFacts⟩ := haFacts.slen
  have b_aS := totS_I (l := aS)
  have b_aU := totS_lin (c := cE_Query) (t := (fun x => x.1.length + totL (fun x => x.2.length) x.2)) (n := 0) (fun x => by have h1 := totS_lin (c := cE_Atom) (t := fun x => x.2.length) (n := 1) (fun x => by simp only [cE_Atom, totS_I]; omega) (l := x.2); simp only [cE_Query, totS_I, totL] at h1 ⊢; omega) (l := aU)
  have c_aU : totL (fun x => x.1.length + totL (fun x => x.2.length) x.2) aU = aU.length + totS (fun x => x.1.length + totL (fun x => x.2.length) x.2) aU := rfl
  have b_aFacts := totS_lin (c := cE_Fact) (t := (fun x => x.2.length)) (n := 1) (fun x => by simp only [cE_Fact, totS_I]; omega) (l := aFacts)
  have c_aFacts : totL (fun x => x.2.length) aFacts = aFacts.length + totS (fun x => x.2.length) aFacts := rfl
  have r1 := uniA_tot (s := aS) (u := aU) (facts := aFacts)
  refine E.seq (E.region (l := [0]) rfl (E.y rfl rfl (by decide) ((Y.as rfl).yd) ?_))
  refine E.nil (E.thn (E.seq (E.seq (E.region (l := [0, 1, 2]) rfl (E.y rfl rfl (by decide) ((Y.mv rfl).yd) ?_)))))
  refine E.y rfl rfl (by decide) ((Y.len us_Is rfl).yd) ?_
  refine E.y rfl rfl (by decide) ((Y.gtr rfl rfl).yd) (Ent.d (fun q19 => ?_) (fun q19 => ?_))
  · refine E.nil (E.thn (E.ct rfl (E.seq (E.region (l := [0]) rfl (E.y rfl rfl (by decide) ((Y.as rfl).yd) ?_)))))
    exact E.nil (E.thn (E.ret (E.thr (F.r1 (Back.refl _ _) rfl rfl () trivial rfl (J := _) (.refl _) (.inl rfl)))))
  · refine E.nil (E.thn (E.cf rfl (E.skipc (E.thn (E.seq (E.region (l := [0]) rfl (E.y rfl rfl (by decide) ((Y.as rfl).yd) ?_)))))))
    refine E.nil (E.thn (E.seq (E.region (l := [0, 1, 2, 3]) rfl (E.y rfl rfl (by decide) ((Y.mv rfl).yd) ?_))))
    refine E.y rfl rfl (by decide) ((Y.mv rfl).yd) ?_
    refine E.st rfl rfl (N.call0 t_laws_szQueryS rfl rfl rfl (by decide) (fun w Lp hA => ⟨hA.ro haU, (by first | assumption | omega), (by first | assumption | omega)⟩)) (fun _ _ => ?_)
    refine E.y rfl rfl (by decide) ((Y.as rfl).yd) ?_
    refine E.nil (E.thn (E.seq (E.seq (E.region (l := [0, 1]) rfl (E.y rfl rfl (by decide) ((Y.mv rfl).yd) ?_)))))
    refine E.y rfl rfl (by decide) ((Y.lss rfl rfl).yd) (Ent.d (fun q24 => ?_) (fun q24 => ?_))
    · have z24 := szR_bad q24 (by omega)
      refine E.nil (E.thn (E.ct rfl (E.seq (E.region (l := [0]) rfl (E.y rfl rfl (by decide) ((Y.as rfl).yd) ?_)))))
      exact E.nil (E.thn (E.ret (E.thr (F.r1 (Back.refl _ _) rfl rfl () trivial rfl (J := _) (.refl _) (.inl rfl)))))
    · obtain ⟨z24, y24⟩ := szR_ok q24 (by omega)
      refine E.nil (E.thn (E.cf rfl (E.skipc (E.thn (E.seq (E.region (l := [0, 1, 2, 3]) rfl (E.y rfl rfl (by decide) ((Y.mv rfl).yd) ?_)))))))
      refine E.y rfl rfl (by decide) ((Y.mv rfl).yd) ?_
      refine E.st rfl rfl (N.call0 t_laws_szFactS rfl rfl rfl (by decide) (fun w Lp hA => ⟨hA.ro haFacts, (by first | assumption | omega), (by first | assumption | omega)⟩)) (fun _ _ => ?_)
      refine E.y rfl rfl (by decide) ((Y.as rfl).yd) ?_
      refine E.nil (E.thn (E.seq (E.seq (E.region (l := [0, 1]) rfl (E.y rfl rfl (by decide) ((Y.mv rfl).yd) ?_)))))
      refine E.y rfl rfl (by decide) ((Y.lss rfl rfl).yd) (Ent.d (fun q29 => ?_) (fun q29 => ?_))
      · have z29 := szR_bad q29 (by omega)
        refine E.nil (E.thn (E.ct rfl (E.seq (E.region (l := [0]) rfl (E.y rfl rfl (by decide) ((Y.as rfl).yd) ?_)))))
        exact E.nil (E.thn (E.ret (E.thr (F.r1 (Back.refl _ _) rfl rfl () trivial rfl (J := _) (.refl _) (.inl rfl)))))
      · obtain ⟨z29, y29⟩ := szR_ok q29 (by omega)
        refine E.nil (E.thn (E.cf rfl (E.skipc (E.thn (E.seq (E.region (l := [0, 1, 2, 3, 4, 5, 6, 7]) rfl (E.y rfl rfl (by decide) ((Y.mv rfl).yd) ?_)))))))
        refine E.st rfl rfl (N.call (t_laws_toIntS (by first | omega | assumption)) rfl rfl rfl (by decide) rfl (fun w Lp hA => hA.ro haS)) (fun k31 _ => ?_)
        obtain ⟨a31, m31, c31⟩ := k31
        refine Ent.lenow m0 fun e31 l31 => ?_
        subst e31
        refine E.y rfl rfl (by decide) ((Y.mv rfl).yd) ?_
        refine E.st rfl rfl (N.call (t_laws_toQueryS (by first | omega | assumption)) rfl rfl rfl (by decide) rfl (fun w Lp hA => hA.ro haU)) (fun k33 _ => ?_)
        obtain ⟨a33, m33, c33⟩ := k33
        refine Ent.lenow m0 fun e33 l33 => ?_
        subst e33
        refine E.y rfl rfl (by decide) ((Y.mv rfl).yd) ?_
        refine E.st rfl rfl (N.call (t_laws_toFactS (by first | omega | assumption)) rfl rfl rfl (by decide) rfl (fun w Lp hA => hA.ro haFacts)) (fun k35 _ => ?_)
        obtain ⟨a35, m35, c35⟩ := k35
        refine Ent.lenow m0 fun e35 l35 => ?_
        subst e35
        refine E.st rfl rfl (N.call (t_spec_UnionAnswers (union_len (u := aU) (by omega))) rfl rfl rfl (by decide) rfl (fun w Lp hA => ⟨hA.ow (mS (mS m0)), hA.ow (mS m0), hA.ow m0⟩)) (fun k36 _ => ?_)
        obtain ⟨a36, m36, c36⟩ := k36
        refine Ent.lenow m0 fun e36 l36 => ?_
        subst e36
        refine E.y rfl rfl (by decide) ((Y.as rfl).yd) ?_
        refine E.nil (E.thn (E.seq (E.region (l := [0, 1, 2]) rfl (E.y rfl rfl (by decide) ((Y.mv rfl).yd) ?_))))
        refine E.st rfl rfl (N.call (t_laws_toIntS (by first | omega | assumption)) rfl rfl rfl (by decide) rfl (fun w Lp hA => hA.ro haS)) (fun k38 _ => ?_)
        obtain ⟨a38, m38, c38⟩ := k38
        refine Ent.lenow m0 fun e38 l38 => ?_
        subst e38
        refine E.y rfl rfl (by decide) ((Y.as rfl).yd) ?_
        refine E.nil (E.thn (E.seq (E.region (l := [0, 1, 2]) rfl (E.y rfl rfl (by decide) ((Y.mv rfl).yd) ?_))))
        refine E.st rfl rfl (N.call (t_laws_toQueryS (by first | omega | assumption)) rfl rfl rfl (by decide) rfl (fun w Lp hA => hA.ro haU)) (fun k40 _ => ?_)
        obtain ⟨a40, m40, c40⟩ := k40
        refine Ent.lenow m0 fun e40 l40 => ?_
        subst e40
        refine E.y rfl rfl (by decide) ((Y.as rfl).yd) ?_
        refine E.nil (E.thn (E.seq (E.region (l := [0, 1, 2]) rfl (E.y rfl rfl (by decide) ((Y.mv rfl).yd) ?_))))
        refine E.st rfl rfl (N.call (t_laws_toFactS (by first | omega | assumption)) rfl rfl rfl (by decide) rfl (fun w Lp hA => hA.ro haFacts)) (fun k42 _ => ?_)
        obtain ⟨a42, m42, c42⟩ := k42
        refine Ent.lenow m0 fun e42 l42 => ?_
        subst e42
        refine E.y rfl rfl (by decide) ((Y.as rfl).yd) ?_
        refine E.nil (E.thn (E.seq (E.region (l := [0, 1, 2, 3, 4]) rfl (E.y rfl rfl (by decide) ((Y.mv rfl).yd) ?_))))
        refine E.y rfl rfl (by decide) ((Y.mv rfl).yd) ?_
        refine E.y rfl rfl (by decide) ((Y.mv rfl).yd) ?_
        refine E.st rfl rfl (N.call (t_impl_UnionAnswers (union_len (u := aU) (by omega))) rfl rfl rfl (by decide) rfl (fun w Lp hA => ⟨hA.ow (mS (mS m0)), hA.ow (mS m0), hA.ow m0⟩)) (fun k46 _ => ?_)
        obtain ⟨a46, m46, c46⟩ := k46
        refine Ent.lenow m0 fun e46 l46 => ?_
        subst e46
        refine E.y rfl rfl (by decide) ((Y.as rfl).yd) ?_
        refine E.nil (E.thn (E.seq (E.seq (E.region (l := [0, 1, 2, 3]) rfl (E.y rfl rfl (by decide) ((Y.mv rfl).yd) ?_)))))
        refine E.y rfl rfl (by decide) ((Y.mv rfl).yd) ?_
        refine E.st rfl rfl (N.call0 t_laws_eqIntSS rfl rfl rfl (by decide) (fun w Lp hA => ⟨hA.ow m0, hA.ow (mS (mS (mS (mS m0))))⟩)) (fun _ _ => (Ent.b (fun q49 => ?_) (fun q49 => ?_)))
        · refine E.y rfl rfl (by decide) ((Y.not (b := true) rfl).yd) ?_
          refine E.nil (E.thn (E.cf rfl (E.skipc (E.thn (E.seq (E.seq (E.region (l := [0, 1, 2, 3, 4]) rfl (E.y rfl rfl (by decide) ((Y.mv rfl).yd) ?_))))))))
          refine E.y rfl rfl (by decide) ((Y.mv rfl).yd) ?_
          refine E.st rfl rfl (N.call (t_laws_toIntS (by first | omega | assumption)) rfl rfl rfl (by decide) rfl (fun w Lp hA => hA.ro haS)) (fun k53 _ => ?_)
          obtain ⟨a53, m53, c53⟩ := k53
          refine Ent.lenow m0 fun e53 l53 => ?_
          subst e53
          refine E.st rfl rfl (N.call0 t_laws_eqIntS rfl rfl rfl (by decide) (fun w Lp hA => ⟨hA.ow (mS (mS (mS (mS m0)))), hA.ow m0⟩)) (fun _ _ => (Ent.b (fun q54 => ?_) (fun q54 => ?_)))
          · refine E.y rfl rfl (by decide) ((Y.not (b := true) rfl).yd) ?_
            refine E.nil (E.thn (E.cf rfl (E.skipc (E.thn (E.seq (E.seq (E.region (l := [0, 1, 2, 3, 4]) rfl (E.y rfl rfl (by decide) ((Y.mv rfl).yd) ?_))))))))
            refine E.y rfl rfl (by decide) ((Y.mv rfl).yd) ?_
            refine E.st rfl rfl (N.call (t_laws_toQueryS (by first | omega | assumption)) rfl rfl rfl (by decide) rfl (fun w Lp hA => hA.ro haU)) (fun k58 _ => ?_)
            obtain ⟨a58, m58, c58⟩ := k58
            refine Ent.lenow m0 fun e58 l58 => ?_
            subst e58
            refine E.st rfl rfl (N.call0 t_laws_eqQueryS rfl rfl rfl (by decide) (fun w Lp hA => ⟨hA.ow (mS (mS (mS (mS m0)))), hA.ow m0⟩)) (fun _ _ => (Ent.b (fun q59 => ?_) (fun q59 => ?_)))
            · refine E.y rfl rfl (by decide) ((Y.not (b := true) rfl).yd) ?_
              refine E.nil (E.thn (E.cf rfl (E.skipc (E.thn (E.seq (E.seq (E.region (l := [0, 1, 2, 3, 4]) rfl (E.y rfl rfl (by decide) ((Y.mv rfl).yd) ?_))))))))
              refine E.y rfl rfl (by decide) ((Y.mv rfl).yd) ?_
              refine E.st rfl rfl (N.call (t_laws_toFactS (by first | omega | assumption)) rfl rfl rfl (by decide) rfl (fun w Lp hA => hA.ro haFacts)) (fun k63 _ => ?_)
              obtain ⟨a63, m63, c63⟩ := k63
              refine Ent.lenow m0 fun e63 l63 => ?_
              subst e63
              refine E.st rfl rfl (N.call0 t_laws_eqFactS rfl rfl rfl (by decide) (fun w Lp hA => ⟨hA.ow (mS (mS (mS (mS m0)))), hA.ow m0⟩)) (fun _ _ => (Ent.b (fun q64 => ?_) (fun q64 => ?_)))
              · refine E.y rfl rfl (by decide) ((Y.not (b := true) rfl).yd) ?_
                refine E.nil (E.thn (E.cf rfl (E.skipc (E.thn (E.seq (E.region (l := [0]) rfl (E.y rfl rfl (by decide) ((Y.as rfl).yd) ?_)))))))
                refine E.nil (E.thn (E.seq (E.region (l := [0, 1, 2, 3]) rfl (E.y rfl rfl (by decide) ((Y.mv rfl).yd) ?_))))
                refine E.y rfl rfl (by decide) ((Y.mv rfl).yd) ?_
                refine Ent.p6 ?_
                refine E.st rfl rfl (N.call (pre := [_]) t_laws_markIntS rfl rfl rfl (by decide) rfl (fun w Lp hA => ⟨(by first | assumption | omega), (by first | assumption | omega)⟩)) (fun _ _ => ?_)
                refine E.y rfl rfl (by decide) ((Y.as rfl).yd) ?_
                refine E.nil (E.thn (E.seq (E.region (l := [0, 1, 2, 3]) rfl (E.y rfl rfl (by decide) ((Y.mv rfl).yd) ?_))))
                refine E.y rfl rfl (by decide) ((Y.mv rfl).yd) ?_
                refine Ent.p6 ?_
                refine E.st rfl rfl (N.call (pre := [_]) t_laws_markQueryS rfl rfl rfl (by decide) rfl (fun w Lp hA => ⟨(by first | assumption | omega), (by first | assumption | omega)⟩)) (fun _ _ => ?_)
                refine E.y rfl rfl (by decide) ((Y.as rfl).yd) ?_
                refine E.nil (E.thn (E.seq (E.region (l := [0, 1, 2, 3]) rfl (E.y rfl rfl (by decide) ((Y.mv rfl).yd) ?_))))
                refine E.y rfl rfl (by decide) ((Y.mv rfl).yd) ?_
                refine Ent.p6 ?_
                refine E.st rfl rfl (N.call (pre := [_]) t_laws_markFactS rfl rfl rfl (by decide) rfl (fun w Lp hA => ⟨(by first | assumption | omega), (by first | assumption | omega)⟩)) (fun _ _ => ?_)
                refine E.y rfl rfl (by decide) ((Y.as rfl).yd) ?_
                refine E.nil (E.thn (E.seq (E.seq (E.region (l := [0, 1, 2, 3, 4, 5, 6, 7]) rfl (E.y rfl rfl (by decide) ((Y.mv rfl).yd) ?_)))))
                refine E.y rfl rfl (by decide) ((Y.lss rfl rfl).yd) (Ent.d (fun q76 => ?_) (fun q76 => ?_))
                · exact absurd q76 (by omega)
                · refine E.y rfl rfl (by decide) ((Y.mv rfl).yd) ?_
                  refine E.y rfl rfl (by decide) ((Y.mv rfl).yd) ?_
                  refine E.y rfl rfl (by decide) ((Y.mv rfl).yd) ?_
                  refine E.st rfl rfl (N.call0 t_laws_eqIntSS rfl rfl rfl (by decide) (fun w Lp hA => ⟨hA.ow (mS (mS (mS (mS (mS (mS m0)))))), hA.ow (mS (mS (mS (mS (mS (mS (mS m0)))))))⟩)) (fun _ _ => (Ent.b (fun q80 => ?_) (fun q80 => ?_)))
                  · refine E.y rfl rfl (by decide) ((Y.not (b := true) rfl).yd) ?_
                    refine E.y rfl rfl (by decide) ((Y.pkf rfl rfl).yd) ?_
                    refine E.nil (E.thn (E.cf rfl (E.skipc (E.thn (E.seq (E.region (l := [0]) rfl (E.y rfl rfl (by decide) ((Y.as rfl).yd) ?_)))))))
                    refine E.nil (E.thn (E.seq (E.region (l := [0, 1, 2, 3]) rfl (E.y rfl rfl (by decide) ((Y.mv rfl).yd) ?_))))
                    refine E.y rfl rfl (by decide) ((Y.mv rfl).yd) ?_
                    refine Ent.p6 ?_
                    refine E.st rfl rfl (N.call (pre := [_]) t_laws_markIntSS rfl rfl rfl (by decide) rfl (fun w Lp hA => ⟨(by first | assumption | omega), (by first | assumption | omega)⟩)) (fun _ _ => ?_)
                    refine E.y rfl rfl (by decide) ((Y.as rfl).yd) ?_
                    refine E.nil (E.thn (E.seq (E.region (l := [0]) rfl (E.y rfl rfl (by decide) ((Y.as rfl).yd) ?_))))
                    refine E.nil (E.thn (E.seq (E.region (l := [0, 1, 2, 3]) rfl (E.y rfl rfl (by decide) ((Y.mv rfl).yd) ?_))))
                    refine E.y rfl rfl (by decide) ((Y.mv rfl).yd) ?_
                    refine E.st rfl rfl (N.call0 (t_laws_heldIntSS (mkL_mk cm_Is mm_Is)) rfl rfl rfl (by decide) (fun w Lp hA => ⟨hA.ow m0, (by (try simp only [mkL_c cm_I, mkL_c cm_Is, mkL_c cm_Fact, mkL_c cm_Facts, mkL_c cm_Atom, mkL_c cm_Atoms, mkL_c cm_Access, mkL_c cm_Accesss, mkL_c cm_Step, mkL_c cm_Steps, mkL_c cm_Query, mkL_c cm_Querys, mkL_c cm_Binding, mkL_c cm_Bindings, mkL_c cm_Method, mkL_c cm_Methods, mkL_c cm_Rule, mkL_c cm_Rules, mkL_c cm_Line, mkL_c cm_Lines]); omega), (by (try simp only [mkL_c cm_I, mkL_c cm_Is, mkL_c cm_Fact, mkL_c cm_Facts, mkL_c cm_Atom, mkL_c cm_Atoms, mkL_c cm_Access, mkL_c cm_Accesss, mkL_c cm_Step, mkL_c cm_Steps, mkL_c cm_Query, mkL_c cm_Querys, mkL_c cm_Binding, mkL_c cm_Bindings, mkL_c cm_Method, mkL_c cm_Methods, mkL_c cm_Rule, mkL_c cm_Rules, mkL_c cm_Line, mkL_c cm_Lines]); omega)⟩)) (fun _ _ => ?_)
                    refine E.y rfl rfl (by decide) ((Y.as rfl).yd) ?_
                    refine E.nil (E.thn (E.seq (E.seq (E.region (l := [0, 1]) rfl (E.y rfl rfl (by decide) ((Y.mv rfl).yd) ?_)))))
                    refine E.y rfl rfl (by decide) ((Y.lss rfl rfl).yd) (Ent.d (fun q90 => ?_) (fun q90 => ?_))
                    · exact absurd q90 (by omega)
                    · refine E.nil (E.thn (E.cf rfl (E.skipc (E.thn (E.seq (E.seq (E.region (l := [0, 1, 2]) rfl (E.y rfl rfl (by decide) ((Y.mv rfl).yd) ?_))))))))
                      refine E.y rfl rfl (by decide) ((Y.mv rfl).yd) ?_
                      refine E.y rfl rfl (by decide) ((Y.neq rfl rfl).yd) (Ent.d (fun q93 => ?_) (fun q93 => ?_))
                      · exact absurd (by simp only [mkL_c cm_I, mkL_c cm_Is, mkL_c cm_Fact, mkL_c cm_Facts, mkL_c cm_Atom, mkL_c cm_Atoms, mkL_c cm_Access, mkL_c cm_Accesss, mkL_c cm_Step, mkL_c cm_Steps, mkL_c cm_Query, mkL_c cm_Querys, mkL_c cm_Binding, mkL_c cm_Bindings, mkL_c cm_Method, mkL_c cm_Methods, mkL_c cm_Rule, mkL_c cm_Rules, mkL_c cm_Line, mkL_c cm_Lines]) q93
                      · refine E.nil (E.thn (E.cf rfl (E.skipc (E.thn (E.seq (E.region (l := [0, 1, 2, 3, 4, 5, 6, 7]) rfl (E.y rfl rfl (by decide) ((Y.mv rfl).yd) ?_)))))))
                        refine E.st rfl rfl (N.call (t_laws_toIntS (by first | omega | assumption)) rfl rfl rfl (by decide) rfl (fun w Lp hA => hA.ro haS)) (fun k95 _ => ?_)
                        obtain ⟨a95, m95, c95⟩ := k95
                        refine Ent.lenow m0 fun e95 l95 => ?_
                        subst e95
                        refine E.y rfl rfl (by decide) ((Y.mv rfl).yd) ?_
                        refine E.st rfl rfl (N.call (t_laws_toQueryS (by first | omega | assumption)) rfl rfl rfl (by decide) rfl (fun w Lp hA => hA.ro haU)) (fun k97 _ => ?_)
                        obtain ⟨a97, m97, c97⟩ := k97
                        refine Ent.lenow m0 fun e97 l97 => ?_
                        subst e97
                        refine E.y rfl rfl (by decide) ((Y.mv rfl).yd) ?_
                        refine E.st rfl rfl (N.call (t_laws_toFactS (by first | omega | assumption)) rfl rfl rfl (by decide) rfl (fun w Lp hA => hA.ro haFacts)) (fun k99 _ => ?_)
                        obtain ⟨a99, m99, c99⟩ := k99
                        refine Ent.lenow m0 fun e99 l99 => ?_
                        subst e99
                        refine E.st rfl rfl (N.call (t_impl_UnionAnswers (union_len (u := aU) (by omega))) rfl rfl rfl (by decide) rfl (fun w Lp hA => ⟨hA.ow (mS (mS m0)), hA.ow (mS m0), hA.ow m0⟩)) (fun k100 _ => ?_)
                        obtain ⟨a100, m100, c100⟩ := k100
                        refine Ent.lenow m0 fun e100 l100 => ?_
                        subst e100
                        refine E.y rfl rfl (by decide) ((Y.as rfl).yd) ?_
                        refine E.nil (E.thn (E.seq (E.seq (E.region (l := [0, 1, 2, 3]) rfl (E.y rfl rfl (by decide) ((Y.mv rfl).yd) ?_)))))
                        refine E.y rfl rfl (by decide) ((Y.mv rfl).yd) ?_
                        refine E.st rfl rfl (N.call0 t_laws_eqIntSS rfl rfl rfl (by decide) (fun w Lp hA => ⟨hA.ow m0, hA.ow (mS (mS (mS (mS (mS (mS (mS (mS (mS (mS (mS m0)))))))))))⟩)) (fun _ _ => (Ent.b (fun q103 => ?_) (fun q103 => ?_)))
                        · refine E.y rfl rfl (by decide) ((Y.not (b := true) rfl).yd) ?_
                          refine E.nil (E.thn (E.cf rfl (E.skipc (E.thn (E.seq (E.region (l := [0]) rfl (E.y rfl rfl (by decide) ((Y.as rfl).yd) ?_)))))))
                          refine E.nil (E.thn (E.seq (E.region (l := [0, 1, 2, 3]) rfl (E.y rfl rfl (by decide) ((Y.mv rfl).yd) ?_))))
                          refine E.y rfl rfl (by decide) ((Y.mv rfl).yd) ?_
                          refine E.st rfl rfl (N.call0 (t_laws_heldIntSS (mkL_mk cm_Is mm_Is)) rfl rfl rfl (by decide) (fun w Lp hA => ⟨hA.ow (mS (mS (mS (mS m0)))), (by (try simp only [mkL_c cm_I, mkL_c cm_Is, mkL_c cm_Fact, mkL_c cm_Facts, mkL_c cm_Atom, mkL_c cm_Atoms, mkL_c cm_Access, mkL_c cm_Accesss, mkL_c cm_Step, mkL_c cm_Steps, mkL_c cm_Query, mkL_c cm_Querys, mkL_c cm_Binding, mkL_c cm_Bindings, mkL_c cm_Method, mkL_c cm_Methods, mkL_c cm_Rule, mkL_c cm_Rules, mkL_c cm_Line, mkL_c cm_Lines]); omega), (by (try simp only [mkL_c cm_I, mkL_c cm_Is, mkL_c cm_Fact, mkL_c cm_Facts, mkL_c cm_Atom, mkL_c cm_Atoms, mkL_c cm_Access, mkL_c cm_Accesss, mkL_c cm_Step, mkL_c cm_Steps, mkL_c cm_Query, mkL_c cm_Querys, mkL_c cm_Binding, mkL_c cm_Bindings, mkL_c cm_Method, mkL_c cm_Methods, mkL_c cm_Rule, mkL_c cm_Rules, mkL_c cm_Line, mkL_c cm_Lines]); omega)⟩)) (fun _ _ => ?_)
                          refine E.y rfl rfl (by decide) ((Y.as rfl).yd) ?_
                          refine E.nil (E.thn (E.seq (E.seq (E.region (l := [0, 1]) rfl (E.y rfl rfl (by decide) ((Y.mv rfl).yd) ?_)))))
                          refine E.y rfl rfl (by decide) ((Y.lss rfl rfl).yd) (Ent.d (fun q109 => ?_) (fun q109 => ?_))
                          · exact absurd q109 (by omega)
                          · refine E.nil (E.thn (E.cf rfl (E.skipc (E.thn (E.seq (E.seq (E.region (l := [0, 1, 2]) rfl (E.y rfl rfl (by decide) ((Y.mv rfl).yd) ?_))))))))
                            refine E.y rfl rfl (by decide) ((Y.mv rfl).yd) ?_
                            refine E.y rfl rfl (by decide) ((Y.neq rfl rfl).yd) (Ent.d (fun q112 => ?_) (fun q112 => ?_))
                            · exact absurd (by simp only [mkL_c cm_I, mkL_c cm_Is, mkL_c cm_Fact, mkL_c cm_Facts, mkL_c cm_Atom, mkL_c cm_Atoms, mkL_c cm_Access, mkL_c cm_Accesss, mkL_c cm_Step, mkL_c cm_Steps, mkL_c cm_Query, mkL_c cm_Querys, mkL_c cm_Binding, mkL_c cm_Bindings, mkL_c cm_Method, mkL_c cm_Methods, mkL_c cm_Rule, mkL_c cm_Rules, mkL_c cm_Line, mkL_c cm_Lines]) q112
                            · refine E.nil (E.thn (E.cf rfl (E.skipc (E.thn (E.seq (E.region (l := [0]) rfl (E.y rfl rfl (by decide) ((Y.as rfl).yd) ?_)))))))
                              exact E.nil (E.thn (E.ret (F.r1 (Back.refl _ _) rfl rfl () trivial rfl (J := _) (.refl _) (.inl rfl))))
                        · refine E.y rfl rfl (by decide) ((Y.not (b := false) rfl).yd) ?_
                          refine E.nil (E.thn (E.ct rfl (E.seq (E.region (l := [0]) rfl (E.y rfl rfl (by decide) ((Y.as rfl).yd) ?_)))))
                          exact E.nil (E.thn (E.ret (E.thr (F.r1 (Back.refl _ _) rfl rfl () trivial (congrArg Value.bool (by simp_all)) (J := _) (.refl _) (.inl rfl)))))
                  · refine E.y rfl rfl (by decide) ((Y.not (b := false) rfl).yd) ?_
                    refine E.y rfl rfl (by decide) ((Y.pkf rfl rfl).yd) ?_
                    refine E.nil (E.thn (E.ct rfl (E.seq (E.region (l := [0]) rfl (E.y rfl rfl (by decide) ((Y.as rfl).yd) ?_)))))
                    exact E.nil (E.thn (E.ret (E.thr (F.r1 (Back.refl _ _) rfl rfl () trivial (congrArg Value.bool (by simp_all)) (J := _) (.refl _) (.inl rfl)))))
              · refine E.y rfl rfl (by decide) ((Y.not (b := false) rfl).yd) ?_
                refine E.nil (E.thn (E.ct rfl (E.seq (E.region (l := [0]) rfl (E.y rfl rfl (by decide) ((Y.as rfl).yd) ?_)))))
                exact E.nil (E.thn (E.ret (E.thr (F.r1 (Back.refl _ _) rfl rfl () trivial (congrArg Value.bool (by simp_all)) (J := _) (.refl _) (.inl rfl)))))
            · refine E.y rfl rfl (by decide) ((Y.not (b := false) rfl).yd) ?_
              refine E.nil (E.thn (E.ct rfl (E.seq (E.region (l := [0]) rfl (E.y rfl rfl (by decide) ((Y.as rfl).yd) ?_)))))
              exact E.nil (E.thn (E.ret (E.thr (F.r1 (Back.refl _ _) rfl rfl () trivial (congrArg Value.bool (by simp_all)) (J := _) (.refl _) (.inl rfl)))))
          · refine E.y rfl rfl (by decide) ((Y.not (b := false) rfl).yd) ?_
            refine E.nil (E.thn (E.ct rfl (E.seq (E.region (l := [0]) rfl (E.y rfl rfl (by decide) ((Y.as rfl).yd) ?_)))))
            exact E.nil (E.thn (E.ret (E.thr (F.r1 (Back.refl _ _) rfl rfl () trivial (congrArg Value.bool (by simp_all)) (J := _) (.refl _) (.inl rfl)))))
        · refine E.y rfl rfl (by decide) ((Y.not (b := false) rfl).yd) ?_
          refine E.nil (E.thn (E.ct rfl (E.seq (E.region (l := [0]) rfl (E.y rfl rfl (by decide) ((Y.as rfl).yd) ?_)))))
          exact E.nil (E.thn (E.ret (E.thr (F.r1 (Back.refl _ _) rfl rfl () trivial (congrArg Value.bool (by simp_all)) (J := _) (.refl _) (.inl rfl)))))
end Go.Proofs.YtlcfbfbdnnoifaaGreat
