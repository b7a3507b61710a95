import Derived.Test.YtnagfcajnbkdoaaT13
namespace Go.Proofs.Ytnagfcajnbkdoaa
open Go.RowKit
set_option linter.unusedVariables false
set_option linter.unusedSimpArgs false
set_option maxHeartbeats 2000000
attribute [local irreducible] Nop Yd Yp Ent Has Tr FnP FnP2 Src listsF opnF opn1 opnR chainB
theorem t_impl_missing {a_l : Option Addr} {m_l c_l : Nat} {l : List (Int × Int × List Int)} {a_facts : Option Addr} {m_facts c_facts : Nat} {facts : List (Int × List Int)} (hr : ∀ r ∈ l, ∀ f ∈ facts, f.1 = r.1 → ∀ x ∈ r.2.2, 0 ≤ x ∧ x < f.2.length) (hrl : ∀ r ∈ l, r.2.2.length ≤ 1048576) (hn1 : l.length ≤ 4) (hn2 : facts.length ≤ 1048576) : Tr Try.prog 124 [.slice a_l m_l c_l, .slice a_facts m_facts c_facts] (fun w L => Ro w L eRules [.slice a_l m_l c_l] l ∧ Ro w L eFacts [.slice a_facts m_facts c_facts] facts) [] (κ := Option Addr × Nat × Nat) (fun k => True) (fun k => .slice k.1 k.2.1 k.2.2) (fun k => [ow eFacts [.slice k.1 k.2.1 k.2.2] (missF l facts)]) := by
  refine Tr.intro Try.func124 rfl (n := 44) rfl (by decide +kernel) (Nat.le_of_ble_eq_true rfl) (fr := [(0, .slice a_l m_l c_l), (1, .slice a_facts m_facts c_facts)]) rfl fun w L hR => ?_
  obtain ⟨hl, hfacts⟩ := hR
  obtain ⟨rfl, ll⟩ := hl.slen
  obtain ⟨rfl, lfacts⟩ := hfacts.slen
  refine E.seq (E.region (l := [0]) rfl (E.y rfl rfl (by decide) ((Y.as rfl).yd) ?_))
  refine E.nil (E.thn (E.seq (E.region (l := [0, 1]) rfl (E.st rfl rfl (N.bsl (pvs := []) (cs := []) us_Facts ty_Fact rfl (by decide) (by decide) (fillZ rfl rfl) rfl (by decide)) (fun b12 _ => ?_)))))
  refine Ent.drop ?_
  refine E.y rfl rfl (by decide) ((Y.as rfl).yd) ?_
  refine E.nil (E.thn (E.seq (E.seq (E.region (l := [0, 1, 2]) rfl (E.y rfl rfl (by decide) ((Y.mv rfl).yd) ?_)))))
  refine E.y rfl rfl (by decide) ((Y.len us_Facts rfl).yd) ?_
  refine E.y rfl rfl (by decide) ((Y.mv rfl).yd) ?_
  refine E.nil (E.thn (E.block (Ent.mkow (A := []) (Own.nil (E := eFact) (e := tFact) (a := (some ⟨b12, 0, none⟩))) rfl ?_)))
  refine Ent.cv (congrArg (ow eFacts [_]) (show [] = (facts.take 0).foldl (miss1 l facts) [] from by first | rfl | (simp; done) | grind [missF, miss1, miss2, List.drop_eq_getElem_cons, List.drop_eq_nil_of_le, List.take_succ_eq_append_getElem, List.take_of_length_le])) ?_
  refine E.loop (κ := Nat × Option Addr × Nat × Nat) (fun g => g.1 ≤ facts.length ∧ True) (fun g => [(0, .slice a_l l.length c_l), (1, .slice a_facts facts.length c_facts), (5, .slice g.2.1 g.2.2.1 g.2.2.2), (13, .slice a_facts facts.length c_facts), (14, .int .i64 (↑facts.length : Int)), (15, .int .i64 (↑g.1 : Int))]) (fun g => [ow eFacts [.slice g.2.1 g.2.2.1 g.2.2.2] ((facts.take g.1).foldl (miss1 l facts) [])]) (fun g => facts.length - g.1) (0, (some ⟨b12, 0, none⟩), 0, 0) ⟨Nat.zero_le _, by simp⟩ ⟨rfl, rfl, rfl, rfl, rfl, rfl, trivial⟩ (.refl _) (fun g pg => ?_)
  obtain ⟨g, aA0_0, mA0_0, cA0_0⟩ := g
  try dsimp only at pg
  show Ent _ _ _ [(0, .slice a_l l.length c_l), (1, .slice a_facts facts.length c_facts), (5, .slice aA0_0 mA0_0 cA0_0), (13, .slice a_facts facts.length c_facts), (14, .int .i64 (↑facts.length : Int)), (15, .int .i64 (↑g : Int))] [ow eFacts [.slice aA0_0 mA0_0 cA0_0] ((facts.take g).foldl (miss1 l facts) [])] _
  obtain ⟨pk, pa⟩ := pg
  have jn := miss_len (l := l) (facts := facts) (fs := facts.take g)
  have jp := List.length_take_le g facts
  have jmul := Nat.mul_le_mul_left (facts.take g).length hn1
  refine Ent.lenow m0 fun eaA0_0 laA0_0 => ?_
  subst eaA0_0
  refine E.seq (E.region (l := [0]) rfl (E.y rfl rfl (by decide) ((Y.lss rfl rfl).yd) (Ent.d (fun q16 => ?_) (fun q16 => ?_))))
  · obtain ⟨eb17, eo17, ec17, ea17, er17, el17, eh17⟩ := hfacts.elem g (by omega)
    obtain ⟨xa17_0, xc17_0, rfl, ei17_0, xh17_0⟩ := Ro.pFact er17
    have := xh17_0.slen.2
    refine E.nil (E.thn (E.seq (E.ct rfl (E.skipc (E.thn (E.seq (E.block (E.seq (E.region (l := [0, 1, 2, 3]) rfl (E.y rfl rfl (by decide) ((Y.ix us_Facts ty_Fact rfl ea17 rfl g rfl (by omega)).yd) ?_))))))))))
    refine E.y rfl rfl (by decide) (Y.ldS (cs := [_, _]) ty_Fact rfl (eh17 _) rfl) ?_
    refine E.st rfl rfl (N.alloc ty_Fact (by decide)) (fun b7 _ => ?_)
    refine E.st rfl rfl (N.sto (vs := [_, _]) (cs' := [_, _]) ty_Fact rfl rfl rfl rfl rfl (Nat.le_of_ble_eq_true rfl) rfl) (fun _ _ => ?_)
    refine E.nil (E.thn (E.seq (E.region (l := [0, 1, 2]) rfl (E.y rfl rfl (by decide) ((Y.mv rfl).yd) ?_))))
    refine E.y rfl rfl (by decide) ((Y.len us_Rules rfl).yd) ?_
    refine E.y rfl rfl (by decide) ((Y.mv rfl).yd) ?_
    refine E.nil (E.thn (E.block (Ent.p1 ?_)))
    refine Ent.cv (congrArg (ow eFacts [_]) (show (facts.take g).foldl (miss1 l facts) [] = (l.take 0).foldl (miss2 facts facts[g]) ((facts.take g).foldl (miss1 l facts) []) from by first | rfl | (simp; done) | grind [missF, miss1, miss2, List.drop_eq_getElem_cons, List.drop_eq_nil_of_le, List.take_succ_eq_append_getElem, List.take_of_length_le])) ?_
    refine E.loop (κ := Nat × Option Addr × Nat × Nat) (fun h => h.1 ≤ l.length ∧ True) (fun h => [(0, .slice a_l l.length c_l), (1, .slice a_facts facts.length c_facts), (5, .slice h.2.1 h.2.2.1 h.2.2.2), (7, .pointer (some ⟨b7, 0, none⟩)), (13, .slice a_facts facts.length c_facts), (14, .int .i64 (↑facts.length : Int)), (15, .int .i64 (↑g : Int)), (19, .slice a_l l.length c_l), (20, .int .i64 (↑l.length : Int)), (21, .int .i64 (↑h.1 : Int))]) (fun h => [ow eFacts [.slice h.2.1 h.2.2.1 h.2.2.2] ((l.take h.1).foldl (miss2 facts facts[g]) ((facts.take g).foldl (miss1 l facts) [])), pt b7 69 [.int .i64 facts[g].1, .slice xa17_0 facts[g].2.length xc17_0]]) (fun h => l.length - h.1) (0, aA0_0, ((facts.take g).foldl (miss1 l facts) []).length, cA0_0) ⟨Nat.zero_le _, by simp⟩ ⟨rfl, rfl, rfl, rfl, rfl, rfl, rfl, rfl, rfl, rfl, trivial⟩ (.refl _) (fun h ph => ?_)
    obtain ⟨h, aA1_0, mA1_0, cA1_0⟩ := h
    try dsimp only at ph
    show Ent _ _ _ [(0, .slice a_l l.length c_l), (1, .slice a_facts facts.length c_facts), (5, .slice aA1_0 mA1_0 cA1_0), (7, .pointer (some ⟨b7, 0, none⟩)), (13, .slice a_facts facts.length c_facts), (14, .int .i64 (↑facts.length : Int)), (15, .int .i64 (↑g : Int)), (19, .slice a_l l.length c_l), (20, .int .i64 (↑l.length : Int)), (21, .int .i64 (↑h : Int))] [ow eFacts [.slice aA1_0 mA1_0 cA1_0] ((l.take h).foldl (miss2 facts facts[g]) ((facts.take g).foldl (miss1 l facts) [])), pt b7 69 [.int .i64 facts[g].1, .slice xa17_0 facts[g].2.length xc17_0]] _
    obtain ⟨pk, pa⟩ := ph
    have jn := miss1_len (l := l) (facts := facts) (f := facts[g]) (out := (facts.take g).foldl (miss1 l facts) []) (h := h)
    have jp := List.length_take_le h l
    have jel := miss_el (l := l) (facts := facts) (g := g) (h := h) hrl (by omega)
    refine Ent.lenow m0 fun eaA1_0 laA1_0 => ?_
    subst eaA1_0
    refine E.seq (E.region (l := [0]) rfl (E.y rfl rfl (by decide) ((Y.lss rfl rfl).yd) (Ent.d (fun q22 => ?_) (fun q22 => ?_))))
    · obtain ⟨eb23, eo23, ec23, ea23, er23, el23, eh23⟩ := hl.elem h (by omega)
      obtain ⟨xa23_0, xc23_0, rfl, ei23_0, ei23_1, xh23_0⟩ := Ro.pRule er23
      have := xh23_0.slen.2
      refine E.nil (E.thn (E.seq (E.ct rfl (E.skipc (E.thn (E.seq (E.block (E.seq (E.region (l := [0, 1, 2, 3]) rfl (E.y rfl rfl (by decide) ((Y.ix us_Rules ty_Rule rfl ea23 rfl h rfl (by omega)).yd) ?_))))))))))
      refine E.y rfl rfl (by decide) (Y.ldS (cs := [_, _, _]) ty_Rule rfl (eh23 _) rfl) ?_
      refine E.st rfl rfl (N.alloc ty_Rule (by decide)) (fun b9 _ => ?_)
      refine E.st rfl rfl (N.sto (vs := [_, _, _]) (cs' := [_, _, _]) ty_Rule rfl rfl rfl rfl rfl (Nat.le_of_ble_eq_true rfl) rfl) (fun _ _ => ?_)
      refine E.nil (E.thn (E.seq (E.region (l := [0, 1, 2, 3, 4, 5, 6, 7, 8]) rfl (E.y rfl rfl (by decide) (Y.ldS (cs := [_, _, _]) ty_Rule rfl (Has.pt m0) rfl) ?_))))
      refine E.y rfl rfl (by decide) (Y.ldS (cs := [_, _]) ty_Fact rfl (Has.pt (mS (mS m0))) rfl) ?_
      refine E.st rfl rfl (N.call (t_impl_Rule_implied (hr _ (List.getElem_mem (by omega)) _ (List.getElem_mem (by omega))) (hrl _ (List.getElem_mem (by omega)))) rfl rfl rfl (by decide) rfl (fun w Lp hA => ⟨ei23_0, ei23_1, hA.ro xh23_0, ei17_0, hA.ro xh17_0⟩)) (fun k28 _ => ?_)
      obtain ⟨a28, m28, c28⟩ := k28
      refine Ent.lenow m0 fun e28 l28 => ?_
      subst e28
      refine E.y rfl rfl (by decide) ((Y.mv rfl).yd) ?_
      refine E.y rfl rfl (by decide) ((Y.ext rfl rfl).yd) ?_
      refine E.y rfl rfl (by decide) ((Y.ext rfl rfl).yd) ?_
      refine E.st rfl rfl (N.alloc ty_Fact (by decide)) (fun b10 _ => ?_)
      refine E.st rfl rfl (N.sto (vs := [_, _]) (cs' := [_, _]) ty_Fact rfl rfl rfl rfl rfl (Nat.le_of_ble_eq_true rfl) rfl) (fun _ _ => ?_)
      refine E.y rfl rfl (by decide) ((Y.as rfl).yd) (Ent.b (fun q11 => ?_) (fun q11 => ?_))
      · refine E.nil (E.thn (E.seq (E.region (l := [0, 1, 2, 3, 4, 5, 6]) rfl (E.y rfl rfl (by decide) ((Y.mv rfl).yd) ?_))))
        refine E.y rfl rfl (by decide) ((Y.mv rfl).yd) ?_
        refine E.y rfl rfl (by decide) ((Y.mv rfl).yd) ?_
        refine E.y rfl rfl (by decide) (Y.ldS (cs := [_, _]) ty_Fact rfl (Has.pt m0) rfl) ?_
        refine E.st rfl rfl (N.call0 t_impl_HasFact rfl rfl rfl (by decide) (fun w Lp hA => ⟨hA.ro hfacts, (by first | assumption | (unfold I64; (try dsimp only); omega) | grind), hA.ow (mS m0)⟩)) (fun _ _ => (Ent.b (fun q35 => ?_) (fun q35 => ?_)))
        · refine E.y rfl rfl (by decide) ((Y.not (b := true) rfl).yd) ?_
          refine E.y rfl rfl (by decide) ((Y.pkt rfl rfl).yd) ?_
          refine E.nil (E.thn (E.cf rfl (E.skipc (E.bln (E.thn (E.region (l := [0, 1]) rfl (E.y rfl rfl (by decide) ((Y.add rfl rfl (by omega) (by omega)).yd) ?_)))))))
          refine E.y rfl rfl (by decide) ((Y.mv rfl).yd) ?_
          refine E.nil (E.thn (Ent.drop ?_))
          refine Ent.drop ?_
          refine Ent.drop ?_
          refine Ent.cv (congrArg (ow eFacts [_]) (show (l.take h).foldl (miss2 facts facts[g]) ((facts.take g).foldl (miss1 l facts) []) = (l.take (h + 1)).foldl (miss2 facts facts[g]) ((facts.take g).foldl (miss1 l facts) []) from by grind [missF, miss1, miss2, List.drop_eq_getElem_cons, List.drop_eq_nil_of_le, List.take_succ_eq_append_getElem, List.take_of_length_le])) ?_
          refine Ent.p1 ?_
          refine Ent.p1 ?_
          exact E.again (Back.refl _ _) (h + 1, aA1_0, ((l.take h).foldl (miss2 facts facts[g]) ((facts.take g).foldl (miss1 l facts) [])).length, cA1_0) ⟨rfl, rfl, rfl, rfl, rfl, rfl, rfl, rfl, rfl, rfl, trivial⟩ (.refl _) ⟨(show h + 1 ≤ l.length from by omega), (show True from by grind [List.drop_eq_getElem_cons, List.drop_eq_nil_of_le, List.take_succ_eq_append_getElem, List.take_of_length_le])⟩ (show l.length - (h + 1) < l.length - h from by omega)
        · refine E.y rfl rfl (by decide) ((Y.not (b := false) rfl).yd) ?_
          refine E.y rfl rfl (by decide) ((Y.pkt rfl rfl).yd) ?_
          refine E.nil (E.thn (E.ct rfl (E.region (l := [0, 1, 2, 3]) rfl (E.y rfl rfl (by decide) ((Y.mv rfl).yd) ?_))))
          refine E.y rfl rfl (by decide) (Y.ldS (cs := [_, _]) ty_Fact rfl (Has.pt m0) rfl) ?_
          refine Ent.p3 ?_
          refine E.st rfl rfl (N.call (pre := [_]) (t_impl_added (by first | omega | assumption | (constructor <;> omega)) (impV_le (hrl _ (List.getElem_mem (by omega))))) rfl rfl rfl (by decide) rfl (fun w Lp hA => ⟨(by first | assumption | (unfold I64; (try dsimp only); omega) | grind), hA.ow (mS m0)⟩)) (fun k40 _ => ?_)
          obtain ⟨a40, m40, c40⟩ := k40
          refine Ent.lenow m0 fun e40 l40 => ?_
          subst e40
          refine E.y rfl rfl (by decide) ((Y.as rfl).yd) ?_
          refine E.nil (E.bln (E.thn (E.region (l := [0, 1]) rfl (E.y rfl rfl (by decide) ((Y.add rfl rfl (by omega) (by omega)).yd) ?_))))
          refine E.y rfl rfl (by decide) ((Y.mv rfl).yd) ?_
          refine E.nil (E.thn (Ent.p1 ?_))
          refine Ent.drop ?_
          refine Ent.p1 ?_
          refine Ent.drop ?_
          refine Ent.p1 ?_
          refine Ent.drop ?_
          refine Ent.cv (congrArg (ow eFacts [_]) (show addF ((l.take h).foldl (miss2 facts facts[g]) ((facts.take g).foldl (miss1 l facts) [])) ((cond (decide (facts[g].1 = l[h].1)) l[h].2.1 0), (cond (decide (facts[g].1 = l[h].1)) (vals l[h].2.2 facts[g].2) [])) = (l.take (h + 1)).foldl (miss2 facts facts[g]) ((facts.take g).foldl (miss1 l facts) []) from by grind [missF, miss1, miss2, List.drop_eq_getElem_cons, List.drop_eq_nil_of_le, List.take_succ_eq_append_getElem, List.take_of_length_le])) ?_
          refine Ent.p1 ?_
          refine Ent.p1 ?_
          exact E.again (Back.refl _ _) (h + 1, a40, (addF ((l.take h).foldl (miss2 facts facts[g]) ((facts.take g).foldl (miss1 l facts) [])) ((cond (decide (facts[g].1 = l[h].1)) l[h].2.1 0), (cond (decide (facts[g].1 = l[h].1)) (vals l[h].2.2 facts[g].2) []))).length, c40) ⟨rfl, rfl, rfl, rfl, rfl, rfl, rfl, rfl, rfl, rfl, trivial⟩ (.refl _) ⟨(show h + 1 ≤ l.length from by omega), (show True from by grind [List.drop_eq_getElem_cons, List.drop_eq_nil_of_le, List.take_succ_eq_append_getElem, List.take_of_length_le])⟩ (show l.length - (h + 1) < l.length - h from by omega)
      · refine E.nil (E.thn (E.seq (E.region (l := [0, 1, 2, 3, 4, 5, 6]) rfl (E.y rfl rfl (by decide) ((Y.mv rfl).yd) ?_))))
        refine E.y rfl rfl (by decide) ((Y.mv rfl).yd) ?_
        refine E.skip rfl rfl rfl ?_
        refine E.skip rfl rfl rfl ?_
        refine E.skip rfl rfl rfl ?_
        refine E.skip rfl rfl rfl ?_
        refine E.y rfl rfl (by decide) ((Y.pkf rfl rfl).yd) ?_
        refine E.nil (E.thn (E.cf rfl (E.skipc (E.bln (E.thn (E.region (l := [0, 1]) rfl (E.y rfl rfl (by decide) ((Y.add rfl rfl (by omega) (by omega)).yd) ?_)))))))
        refine E.y rfl rfl (by decide) ((Y.mv rfl).yd) ?_
        refine E.nil (E.thn (Ent.drop ?_))
        refine Ent.drop ?_
        refine Ent.drop ?_
        refine Ent.cv (congrArg (ow eFacts [_]) (show (l.take h).foldl (miss2 facts facts[g]) ((facts.take g).foldl (miss1 l facts) []) = (l.take (h + 1)).foldl (miss2 facts facts[g]) ((facts.take g).foldl (miss1 l facts) []) from by grind [missF, miss1, miss2, List.drop_eq_getElem_cons, List.drop_eq_nil_of_le, List.take_succ_eq_append_getElem, List.take_of_length_le])) ?_
        refine Ent.p1 ?_
        refine Ent.p1 ?_
        exact E.again (Back.refl _ _) (h + 1, aA1_0, ((l.take h).foldl (miss2 facts facts[g]) ((facts.take g).foldl (miss1 l facts) [])).length, cA1_0) ⟨rfl, rfl, rfl, rfl, rfl, rfl, rfl, rfl, rfl, rfl, trivial⟩ (.refl _) ⟨(show h + 1 ≤ l.length from by omega), (show True from by grind [List.drop_eq_getElem_cons, List.drop_eq_nil_of_le, List.take_succ_eq_append_getElem, List.take_of_length_le])⟩ (show l.length - (h + 1) < l.length - h from by omega)
    · refine E.nil (E.thn (E.seq (E.cf rfl (E.exit (E.the (E.the (E.blh (E.bln (E.thn (E.region (l := [0, 1]) rfl (E.y rfl rfl (by decide) ((Y.add rfl rfl (by omega) (by omega)).yd) ?_)))))))))))
      refine E.y rfl rfl (by decide) ((Y.mv rfl).yd) ?_
      refine E.nil (E.thn (Ent.p1 ?_))
      refine Ent.drop ?_
      refine Ent.cv (congrArg (ow eFacts [_]) (show (l.take h).foldl (miss2 facts facts[g]) ((facts.take g).foldl (miss1 l facts) []) = (facts.take (g + 1)).foldl (miss1 l facts) [] from by grind [missF, miss1, miss2, List.drop_eq_getElem_cons, List.drop_eq_nil_of_le, List.take_succ_eq_append_getElem, List.take_of_length_le])) ?_
      exact E.again (Back.refl _ _) (g + 1, aA1_0, ((l.take h).foldl (miss2 facts facts[g]) ((facts.take g).foldl (miss1 l facts) [])).length, cA1_0) ⟨rfl, rfl, rfl, rfl, rfl, rfl, trivial⟩ (.refl _) ⟨(show g + 1 ≤ facts.length from by omega), (show True from by grind [List.drop_eq_getElem_cons, List.drop_eq_nil_of_le, List.take_succ_eq_append_getElem, List.take_of_length_le])⟩ (show facts.length - (g + 1) < facts.length - g from by omega)
  · refine E.nil (E.thn (E.seq (E.cf rfl (E.exit (E.the (E.the (E.blh (E.thn (E.seq (E.region (l := [0, 1]) rfl (E.y rfl rfl (by decide) ((Y.mv rfl).yd) ?_)))))))))))
    refine E.y rfl rfl (by decide) ((Y.as rfl).yd) ?_
    refine E.nil (E.thn (E.ret (Ent.cv (congrArg (ow eFacts [_]) (show _ = missF l facts by grind [missF, miss1, miss2, List.drop_eq_getElem_cons, List.drop_eq_nil_of_le, List.take_succ_eq_append_getElem, List.take_of_length_le])) ?_)))
    exact F.r1 (Back.refl _ _) rfl rfl (_, _, _) trivial rfl (J := _) (.refl _) (.inl rfl)
theorem t_spec_l13Missing {a_l : Option Addr} {m_l c_l : Nat} {l : List (Int × Int × List Int)} {a_facts : Option Addr} {m_facts c_facts : Nat} {facts : List (Int × List Int)} (hr : ∀ r ∈ l, ∀ f ∈ facts, f.1 = r.1 → ∀ x ∈ r.2.2, 0 ≤ x ∧ x < f.2.length) (hrl : ∀ r ∈ l, r.2.2.length ≤ 1048576) (hn1 : l.length ≤ 4) (hn2 : facts.length ≤ 1048576) : Tr Try.prog 123 [.slice a_l m_l c_l, .slice a_facts m_facts c_facts] (fun w L => Ro w L eRules [.slice a_l m_l c_l] l ∧ Ro w L eFacts [.slice a_facts m_facts c_facts] facts) [] (κ := Option Addr × Nat × Nat) (fun k => True) (fun k => .slice k.1 k.2.1 k.2.2) (fun k => [ow eFacts [.slice k.1 k.2.1 k.2.2] (missF l facts)]) := by
  refine Tr.intro Try.func123 rfl (n := 50) rfl (by decide +kernel) (Nat.le_of_ble_eq_true rfl) (fr := [(0, .slice a_l m_l c_l), (1, .slice a_facts m_facts c_facts)]) rfl fun w L hR => ?_
  obtain ⟨hl, hfacts⟩ := hR
  obtain ⟨rfl, ll⟩ := hl.slen
  obtain ⟨rfl, lfacts⟩ := hfacts.slen
  refine E.seq (E.region (l := [0]) rfl (E.y rfl rfl (by decide) ((Y.as rfl).yd) ?_))
  refine E.nil (E.thn (E.seq (E.region (l := [0, 1]) rfl (E.st rfl rfl (N.bsl (pvs := []) (cs := []) us_Facts ty_Fact rfl (by decide) (by decide) (fillZ rfl rfl) rfl (by decide)) (fun b9 _ => ?_)))))
  refine Ent.drop ?_
  refine E.y rfl rfl (by decide) ((Y.as rfl).yd) ?_
  refine E.nil (E.thn (E.seq (E.seq (E.region (l := [0]) rfl (E.y rfl rfl (by decide) ((Y.as rfl).yd) ?_)))))
  refine E.nil (E.thn (E.block (Ent.mkow (A := []) (Own.nil (E := eFact) (e := tFact) (a := (some ⟨b9, 0, none⟩))) rfl ?_)))
  refine Ent.cv (congrArg (ow eFacts [_]) (show [] = (facts.take 0).foldl (miss1 l facts) [] from by first | rfl | (simp; done) | grind [missF, miss1, miss2, List.drop_eq_getElem_cons, List.drop_eq_nil_of_le, List.take_succ_eq_append_getElem, List.take_of_length_le])) ?_
  refine E.loop (κ := Nat × Option Addr × Nat × Nat) (fun g => g.1 ≤ facts.length ∧ True) (fun g => [(0, .slice a_l l.length c_l), (1, .slice a_facts facts.length c_facts), (5, .slice g.2.1 g.2.2.1 g.2.2.2), (6, .int .i64 (↑g.1 : Int))]) (fun g => [ow eFacts [.slice g.2.1 g.2.2.1 g.2.2.2] ((facts.take g.1).foldl (miss1 l facts) [])]) (fun g => facts.length - g.1) (0, (some ⟨b9, 0, none⟩), 0, 0) ⟨Nat.zero_le _, by simp⟩ ⟨rfl, rfl, rfl, rfl, trivial⟩ (.refl _) (fun g pg => ?_)
  obtain ⟨g, aA0_0, mA0_0, cA0_0⟩ := g
  try dsimp only at pg
  show Ent _ _ _ [(0, .slice a_l l.length c_l), (1, .slice a_facts facts.length c_facts), (5, .slice aA0_0 mA0_0 cA0_0), (6, .int .i64 (↑g : Int))] [ow eFacts [.slice aA0_0 mA0_0 cA0_0] ((facts.take g).foldl (miss1 l facts) [])] _
  obtain ⟨pk, pa⟩ := pg
  have jn := miss_len (l := l) (facts := facts) (fs := facts.take g)
  have jp := List.length_take_le g facts
  have jmul := Nat.mul_le_mul_left (facts.take g).length hn1
  refine Ent.lenow m0 fun eaA0_0 laA0_0 => ?_
  subst eaA0_0
  refine E.seq (E.seq (E.region (l := [0, 1, 2, 3]) rfl (E.y rfl rfl (by decide) ((Y.mv rfl).yd) ?_)))
  refine E.y rfl rfl (by decide) ((Y.mv rfl).yd) ?_
  refine E.y rfl rfl (by decide) ((Y.len us_Facts rfl).yd) ?_
  refine E.y rfl rfl (by decide) ((Y.lss rfl rfl).yd) (Ent.d (fun q13 => ?_) (fun q13 => ?_))
  · refine E.nil (E.thn (E.ct rfl (E.skipc (E.thn (E.seq (E.block (E.seq (E.region (l := [0]) rfl (E.y rfl rfl (by decide) ((Y.as rfl).yd) ?_)))))))))
    refine E.nil (E.thn (E.block (Ent.cv (congrArg (ow eFacts [_]) (show (facts.take g).foldl (miss1 l facts) [] = (l.take 0).foldl (miss2 facts facts[g]) ((facts.take g).foldl (miss1 l facts) []) from by first | rfl | (simp; done) | grind [missF, miss1, miss2, List.drop_eq_getElem_cons, List.drop_eq_nil_of_le, List.take_succ_eq_append_getElem, List.take_of_length_le])) ?_)))
    refine E.loop (κ := Nat × Option Addr × Nat × Nat) (fun h => h.1 ≤ l.length ∧ True) (fun h => [(0, .slice a_l l.length c_l), (1, .slice a_facts facts.length c_facts), (5, .slice h.2.1 h.2.2.1 h.2.2.2), (6, .int .i64 (↑g : Int)), (7, .int .i64 (↑h.1 : Int))]) (fun h => [ow eFacts [.slice h.2.1 h.2.2.1 h.2.2.2] ((l.take h.1).foldl (miss2 facts facts[g]) ((facts.take g).foldl (miss1 l facts) []))]) (fun h => l.length - h.1) (0, aA0_0, ((facts.take g).foldl (miss1 l facts) []).length, cA0_0) ⟨Nat.zero_le _, by simp⟩ ⟨rfl, rfl, rfl, rfl, rfl, trivial⟩ (.refl _) (fun h ph => ?_)
    obtain ⟨h, aA1_0, mA1_0, cA1_0⟩ := h
    try dsimp only at ph
    show Ent _ _ _ [(0, .slice a_l l.length c_l), (1, .slice a_facts facts.length c_facts), (5, .slice aA1_0 mA1_0 cA1_0), (6, .int .i64 (↑g : Int)), (7, .int .i64 (↑h : Int))] [ow eFacts [.slice aA1_0 mA1_0 cA1_0] ((l.take h).foldl (miss2 facts facts[g]) ((facts.take g).foldl (miss1 l facts) []))] _
    obtain ⟨pk, pa⟩ := ph
    have jn := miss1_len (l := l) (facts := facts) (f := facts[g]) (out := (facts.take g).foldl (miss1 l facts) []) (h := h)
    have jp := List.length_take_le h l
    have jel := miss_el (l := l) (facts := facts) (g := g) (h := h) hrl (by omega)
    refine Ent.lenow m0 fun eaA1_0 laA1_0 => ?_
    subst eaA1_0
    refine E.seq (E.seq (E.region (l := [0, 1, 2, 3]) rfl (E.y rfl rfl (by decide) ((Y.mv rfl).yd) ?_)))
    refine E.y rfl rfl (by decide) ((Y.mv rfl).yd) ?_
    refine E.y rfl rfl (by decide) ((Y.len us_Rules rfl).yd) ?_
    refine E.y rfl rfl (by decide) ((Y.lss rfl rfl).yd) (Ent.d (fun q19 => ?_) (fun q19 => ?_))
    · refine E.nil (E.thn (E.ct rfl (E.skipc (E.thn (E.seq (E.block (E.seq (E.seq (D.region (fun j => true) mixed (D.yp 0 rfl rfl (by decide) (Y.mv rfl) (by kernel_rfl) ?_))))))))))
      refine D.yp 1 rfl rfl (by decide) (Y.mv rfl) (by kernel_rfl) ?_
      obtain ⟨eb24, eo24, ec24, ea24, er24, el24, eh24⟩ := hl.elem h (by omega)
      obtain ⟨xa24_0, xc24_0, rfl, ei24_0, ei24_1, xh24_0⟩ := Ro.pRule er24
      have := xh24_0.slen.2
      refine D.yp 2 rfl rfl (by decide) (Y.ix us_Rules ty_Rule rfl ea24 rfl h rfl (by omega)) (by kernel_rfl) ?_
      refine D.yp 3 rfl rfl (by decide) (Y.fld fo_Rule_0 ty_I (by decide) rfl) (by kernel_rfl) ?_
      refine D.y 4 rfl rfl (by decide) (Y.ld1 ty_I rfl ((eh24 _).sub (cs' := [_]) 0 rfl) rfl) (by kernel_rfl) ?_
      refine D.yp 5 rfl rfl (by decide) (Y.mv rfl) (by kernel_rfl) ?_
      refine D.yp 6 rfl rfl (by decide) (Y.mv rfl) (by kernel_rfl) ?_
      obtain ⟨eb29, eo29, ec29, ea29, er29, el29, eh29⟩ := hfacts.elem g (by omega)
      obtain ⟨xa29_0, xc29_0, rfl, ei29_0, xh29_0⟩ := Ro.pFact er29
      have := xh29_0.slen.2
      refine D.yp 7 rfl rfl (by decide) (Y.ix us_Facts ty_Fact rfl ea29 rfl g rfl (by omega)) (by kernel_rfl) ?_
      refine D.yp 8 rfl rfl (by decide) (Y.fld fo_Fact_0 ty_I (by decide) rfl) (by kernel_rfl) ?_
      refine D.y 9 rfl rfl (by decide) (Y.ld1 ty_I rfl ((eh29 _).sub (cs' := [_]) 0 rfl) rfl) (by kernel_rfl) ?_
      refine D.yp 10 rfl rfl (by decide) (Y.neq rfl rfl) (by kernel_rfl) (Ent.d (fun q32 => ?_) (fun q32 => ?_))
      · refine D.done (by kernel_rfl) (E.thn (E.ct rfl (E.exit (E.the (E.blh (E.thn (E.region (l := [0, 1, 2]) rfl (E.y rfl rfl (by decide) ((Y.mv rfl).yd) ?_))))))))
        refine E.y rfl rfl (by decide) ((Y.add rfl rfl (by omega) (by omega)).yd) ?_
        refine E.y rfl rfl (by decide) ((Y.as rfl).yd) ?_
        refine E.nil (E.thn (Ent.cv (congrArg (ow eFacts [_]) (show (l.take h).foldl (miss2 facts facts[g]) ((facts.take g).foldl (miss1 l facts) []) = (l.take (h + 1)).foldl (miss2 facts facts[g]) ((facts.take g).foldl (miss1 l facts) []) from by grind [missF, miss1, miss2, List.drop_eq_getElem_cons, List.drop_eq_nil_of_le, List.take_succ_eq_append_getElem, List.take_of_length_le])) ?_))
        exact E.again (Back.refl _ _) (h + 1, aA1_0, ((l.take h).foldl (miss2 facts facts[g]) ((facts.take g).foldl (miss1 l facts) [])).length, cA1_0) ⟨rfl, rfl, rfl, rfl, rfl, trivial⟩ (.refl _) ⟨(show h + 1 ≤ l.length from by omega), (show True from by grind [List.drop_eq_getElem_cons, List.drop_eq_nil_of_le, List.take_succ_eq_append_getElem, List.take_of_length_le])⟩ (show l.length - (h + 1) < l.length - h from by omega)
      · refine D.done (by kernel_rfl) (E.thn (E.cf rfl (E.skipc (E.thn (E.seq (E.mid (κ := Nat × Option Addr × Nat) (fun _ => True) (fun kM => [(0, .slice a_l l.length c_l), (1, .slice a_facts facts.length c_facts), (5, .slice aA1_0 ((l.take h).foldl (miss2 facts facts[g]) ((facts.take g).foldl (miss1 l facts) [])).length cA1_0), (6, .int .i64 (↑g : Int)), (7, .int .i64 (↑h : Int)), (8, .pointer (some ⟨kM.1, 0, none⟩))]) (fun kM => [pt kM.1 69 [.int .i64 l[h].2.1, .slice kM.2.1 (vals l[h].2.2 facts[g].2).length kM.2.2], ow eIs [.slice kM.2.1 (vals l[h].2.2 facts[g].2).length kM.2.2] (vals l[h].2.2 facts[g].2), ow eFacts [.slice aA1_0 ((l.take h).foldl (miss2 facts facts[g]) ((facts.take g).foldl (miss1 l facts) [])).length cA1_0] ((l.take h).foldl (miss2 facts facts[g]) ((facts.take g).foldl (miss1 l facts) []))]) ?_ (fun kM _ => ?_)))))))
        · refine D.region (fun j => !(Nat.beq j 10)) mixed (D.yp 0 rfl rfl (by decide) (Y.mv rfl) (by kernel_rfl) ?_)
          refine D.yp 1 rfl rfl (by decide) (Y.mv rfl) (by kernel_rfl) ?_
          refine D.yp 2 rfl rfl (by decide) (Y.ix us_Rules ty_Rule rfl ea24 rfl h rfl (by omega)) (by kernel_rfl) ?_
          refine D.y 3 rfl rfl (by decide) (Y.ldS (cs := [_, _, _]) ty_Rule rfl (eh24 _) rfl) (by kernel_rfl) ?_
          refine D.yp 4 rfl rfl (by decide) (Y.mv rfl) (by kernel_rfl) ?_
          refine D.yp 5 rfl rfl (by decide) (Y.mv rfl) (by kernel_rfl) ?_
          refine D.yp 6 rfl rfl (by decide) (Y.ix us_Facts ty_Fact rfl ea29 rfl g rfl (by omega)) (by kernel_rfl) ?_
          refine D.y 7 rfl rfl (by decide) (Y.ldS (cs := [_, _]) ty_Fact rfl (eh29 _) rfl) (by kernel_rfl) ?_
          refine D.ch2 (i := 8) (j := 9) (by kernel_rfl) ?_ ?_
          · refine D.pk 8 rfl rfl (fun _ => rfl) (N.call (t_spec_l13Apply (hr _ (List.getElem_mem (by omega)) _ (List.getElem_mem (by omega)) (by omega)) (hrl _ (List.getElem_mem (by omega)))) rfl rfl rfl (by decide) rfl (fun w Lp hA => ⟨ei24_0, ei24_1, hA.ro xh24_0, ei29_0, hA.ro xh29_0⟩)) (fun k41 _ => ?_)
            obtain ⟨a41, m41, c41⟩ := k41
            refine Ent.lenow m0 fun e41 l41 => ?_
            subst e41
            refine D.st 9 rfl rfl (by kernel_rfl) (fun _ => rfl) (N.alloc ty_Fact (by decide)) (fun b8 _ => ?_)
            refine D.st 10 rfl rfl (by kernel_rfl) (fun h => by cases h) (N.sto (vs := [_, _]) (cs' := [_, _]) ty_Fact rfl rfl rfl rfl rfl (Nat.le_of_ble_eq_true rfl) rfl) (fun _ _ => ?_)
            refine D.done (by kernel_rfl) (Ent.p2 ?_)
            refine Ent.p2 ?_
            refine Ent.p2 ?_
            exact E.mdn (b8, a41, c41) trivial ⟨rfl, rfl, rfl, rfl, rfl, rfl, trivial⟩ (.refl _)
          · refine D.pk 9 rfl rfl (fun _ => rfl) (N.alloc ty_Fact (by decide)) (fun b8 _ => ?_)
            refine D.st 8 rfl rfl (by kernel_rfl) (fun _ => rfl) (N.call (t_spec_l13Apply (hr _ (List.getElem_mem (by omega)) _ (List.getElem_mem (by omega)) (by omega)) (hrl _ (List.getElem_mem (by omega)))) rfl rfl rfl (by decide) rfl (fun w Lp hA => ⟨ei24_0, ei24_1, hA.ro xh24_0, ei29_0, hA.ro xh29_0⟩)) (fun k41 _ => ?_)
            obtain ⟨a41, m41, c41⟩ := k41
            refine Ent.lenow m0 fun e41 l41 => ?_
            subst e41
            refine Ent.p1 ?_
            refine D.st 10 rfl rfl (by kernel_rfl) (fun h => by cases h) (N.sto (vs := [_, _]) (cs' := [_, _]) ty_Fact rfl rfl rfl rfl rfl (Nat.le_of_ble_eq_true rfl) rfl) (fun _ _ => ?_)
            refine D.done (by kernel_rfl) (Ent.p2 ?_)
            refine Ent.p2 ?_
            refine Ent.p2 ?_
            exact E.mdn (b8, a41, c41) trivial ⟨rfl, rfl, rfl, rfl, rfl, rfl, trivial⟩ (.refl _)
        · obtain ⟨b8, a41, c41⟩ := kM
          show Ent _ _ _ [(0, .slice a_l l.length c_l), (1, .slice a_facts facts.length c_facts), (5, .slice aA1_0 ((l.take h).foldl (miss2 facts facts[g]) ((facts.take g).foldl (miss1 l facts) [])).length cA1_0), (6, .int .i64 (↑g : Int)), (7, .int .i64 (↑h : Int)), (8, .pointer (some ⟨b8, 0, none⟩))] [pt b8 69 [.int .i64 l[h].2.1, .slice a41 (vals l[h].2.2 facts[g].2).length c41], ow eIs [.slice a41 (vals l[h].2.2 facts[g].2).length c41] (vals l[h].2.2 facts[g].2), ow eFacts [.slice aA1_0 ((l.take h).foldl (miss2 facts facts[g]) ((facts.take g).foldl (miss1 l facts) [])).length cA1_0] ((l.take h).foldl (miss2 facts facts[g]) ((facts.take g).foldl (miss1 l facts) []))] _
          refine E.thn (E.seq (E.region (l := [0, 1, 2, 3]) rfl (E.y rfl rfl (by decide) ((Y.mv rfl).yd) ?_)))
          refine E.y rfl rfl (by decide) (Y.ldS (cs := [_, _]) ty_Fact rfl (Has.pt m0) rfl) ?_
          refine E.st rfl rfl (N.call0 t_spec_HasFact rfl rfl rfl (by decide) (fun w Lp hA => ⟨hA.ro hfacts, ei24_1, hA.ow (mS m0)⟩)) (fun _ _ => (Ent.b (fun q44 => ?_) (fun q44 => ?_)))
          · refine E.y rfl rfl (by decide) ((Y.not (b := true) rfl).yd) ?_
            refine E.nil (E.thn (E.cf rfl (E.skipc (E.bln (E.thn (E.region (l := [0, 1, 2]) rfl (E.y rfl rfl (by decide) ((Y.mv rfl).yd) ?_)))))))
            refine E.y rfl rfl (by decide) ((Y.add rfl rfl (by omega) (by omega)).yd) ?_
            refine E.y rfl rfl (by decide) ((Y.as rfl).yd) ?_
            refine E.nil (E.thn (Ent.drop ?_))
            refine Ent.drop ?_
            refine Ent.cv (congrArg (ow eFacts [_]) (show (l.take h).foldl (miss2 facts facts[g]) ((facts.take g).foldl (miss1 l facts) []) = (l.take (h + 1)).foldl (miss2 facts facts[g]) ((facts.take g).foldl (miss1 l facts) []) from by grind [missF, miss1, miss2, List.drop_eq_getElem_cons, List.drop_eq_nil_of_le, List.take_succ_eq_append_getElem, List.take_of_length_le])) ?_
            exact E.again (Back.refl _ _) (h + 1, aA1_0, ((l.take h).foldl (miss2 facts facts[g]) ((facts.take g).foldl (miss1 l facts) [])).length, cA1_0) ⟨rfl, rfl, rfl, rfl, rfl, trivial⟩ (.refl _) ⟨(show h + 1 ≤ l.length from by omega), (show True from by grind [List.drop_eq_getElem_cons, List.drop_eq_nil_of_le, List.take_succ_eq_append_getElem, List.take_of_length_le])⟩ (show l.length - (h + 1) < l.length - h from by omega)
          · refine E.y rfl rfl (by decide) ((Y.not (b := false) rfl).yd) ?_
            refine E.nil (E.thn (E.ct rfl (E.region (l := [0, 1, 2, 3]) rfl (E.y rfl rfl (by decide) ((Y.mv rfl).yd) ?_))))
            refine E.y rfl rfl (by decide) (Y.ldS (cs := [_, _]) ty_Fact rfl (Has.pt m0) rfl) ?_
            refine E.st rfl rfl (N.call (t_spec_AddFact (by first | omega | assumption | (constructor <;> omega)) jel (vals_le (hrl _ (List.getElem_mem (by omega))))) rfl rfl rfl (by decide) rfl (fun w Lp hA => ⟨hA.ow (mS (mS m0)), ei24_1, hA.ow (mS m0)⟩)) (fun k48 _ => ?_)
            obtain ⟨a48, m48, c48⟩ := k48
            refine Ent.lenow m0 fun e48 l48 => ?_
            subst e48
            refine E.y rfl rfl (by decide) ((Y.as rfl).yd) ?_
            refine E.nil (E.bln (E.thn (E.region (l := [0, 1, 2]) rfl (E.y rfl rfl (by decide) ((Y.mv rfl).yd) ?_))))
            refine E.y rfl rfl (by decide) ((Y.add rfl rfl (by omega) (by omega)).yd) ?_
            refine E.y rfl rfl (by decide) ((Y.as rfl).yd) ?_
            refine E.nil (E.thn (Ent.p1 ?_))
            refine Ent.drop ?_
            refine Ent.p1 ?_
            refine Ent.drop ?_
            refine Ent.p1 ?_
            refine Ent.drop ?_
            refine Ent.cv (congrArg (ow eFacts [_]) (show addF ((l.take h).foldl (miss2 facts facts[g]) ((facts.take g).foldl (miss1 l facts) [])) (l[h].2.1, (vals l[h].2.2 facts[g].2)) = (l.take (h + 1)).foldl (miss2 facts facts[g]) ((facts.take g).foldl (miss1 l facts) []) from by grind [missF, miss1, miss2, List.drop_eq_getElem_cons, List.drop_eq_nil_of_le, List.take_succ_eq_append_getElem, List.take_of_length_le])) ?_
            exact E.again (Back.refl _ _) (h + 1, a48, (addF ((l.take h).foldl (miss2 facts facts[g]) ((facts.take g).foldl (miss1 l facts) [])) (l[h].2.1, (vals l[h].2.2 facts[g].2))).length, c48) ⟨rfl, rfl, rfl, rfl, rfl, trivial⟩ (.refl _) ⟨(show h + 1 ≤ l.length from by omega), (show True from by grind [List.drop_eq_getElem_cons, List.drop_eq_nil_of_le, List.take_succ_eq_append_getElem, List.take_of_length_le])⟩ (show l.length - (h + 1) < l.length - h from by omega)
    · refine E.nil (E.thn (E.cf rfl (E.exit (E.the (E.the (E.blh (E.bln (E.thn (E.region (l := [0, 1, 2]) rfl (E.y rfl rfl (by decide) ((Y.mv rfl).yd) ?_))))))))))
      refine E.y rfl rfl (by decide) ((Y.add rfl rfl (by omega) (by omega)).yd) ?_
      refine E.y rfl rfl (by decide) ((Y.as rfl).yd) ?_
      refine E.nil (E.thn (Ent.cv (congrArg (ow eFacts [_]) (show (l.take h).foldl (miss2 facts facts[g]) ((facts.take g).foldl (miss1 l facts) []) = (facts.take (g + 1)).foldl (miss1 l facts) [] from by grind [missF, miss1, miss2, List.drop_eq_getElem_cons, List.drop_eq_nil_of_le, List.take_succ_eq_append_getElem, List.take_of_length_le])) ?_))
      exact E.again (Back.refl _ _) (g + 1, aA1_0, ((l.take h).foldl (miss2 facts facts[g]) ((facts.take g).foldl (miss1 l facts) [])).length, cA1_0) ⟨rfl, rfl, rfl, rfl, trivial⟩ (.refl _) ⟨(show g + 1 ≤ facts.length from by omega), (show True from by grind [List.drop_eq_getElem_cons, List.drop_eq_nil_of_le, List.take_succ_eq_append_getElem, List.take_of_length_le])⟩ (show facts.length - (g + 1) < facts.length - g from by omega)
  · refine E.nil (E.thn (E.cf rfl (E.exit (E.the (E.the (E.blh (E.thn (E.seq (E.region (l := [0, 1]) rfl (E.y rfl rfl (by decide) ((Y.mv rfl).yd) ?_))))))))))
    refine E.y rfl rfl (by decide) ((Y.as rfl).yd) ?_
    refine E.nil (E.thn (E.ret (Ent.cv (congrArg (ow eFacts [_]) (show _ = missF l facts by grind [missF, miss1, miss2, List.drop_eq_getElem_cons, List.drop_eq_nil_of_le, List.take_succ_eq_append_getElem, List.take_of_length_le])) ?_)))
    exact F.r1 (Back.refl _ _) rfl rfl (_, _, _) trivial rfl (J := _) (.refl _) (.inl rfl)
end Go.Proofs.Ytnagfcajnbkdoaa
