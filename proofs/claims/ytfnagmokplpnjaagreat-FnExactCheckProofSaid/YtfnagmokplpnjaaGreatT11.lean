import Derived.Test.YtfnagmokplpnjaaGreatT6
import Derived.Test.YtfnagmokplpnjaaGreatBd
import Derived.Test.YtfnagmokplpnjaaGreatBf
namespace Go.Proofs.YtfnagmokplpnjaaGreat
open Go.RowKit
set_option linter.unusedVariables false
set_option linter.unusedSimpArgs false
set_option maxHeartbeats 2000000
attribute [local irreducible] Nop Yd Yp Ent Has Tr FnP FnP2 Src listsF opnF opn1 opnR chainB
theorem t_spec_l2Has {a_l : Option Addr} {m_l c_l : Nat} {l : List Int} {x : Int} : Tr Tryz.prog 71 [.slice a_l m_l c_l, .int .i64 x] (fun w L => Ro w L eIs [.slice a_l m_l c_l] l) [] (κ := Unit) (fun k => True) (fun k => .bool (hasI l x)) (fun k => []) := by
  refine Tr.intro Tryz.func71 rfl (n := 18) rfl (by decide +kernel) (Nat.le_of_ble_eq_true rfl) (fr := [(0, .slice a_l m_l c_l), (1, .int .i64 x)]) rfl fun w L hR => ?_
  have hl := hR
  obtain ⟨rfl, ll⟩ := hl.slen
  refine E.seq (E.region (l := [0]) rfl (E.y rfl rfl (by decide) ((Y.as rfl).yd) ?_))
  refine E.nil (E.thn (E.seq (E.seq (E.region (l := [0]) rfl (E.y rfl rfl (by decide) ((Y.as rfl).yd) ?_)))))
  refine E.nil (E.thn (E.block (E.loop (κ := Nat) (fun g => g ≤ l.length ∧ hasI l x = hasI (l.drop g) x) (fun g => [(0, .slice a_l l.length c_l), (1, .int .i64 x), (5, .int .i64 (↑g : Int))]) (fun g => []) (fun g => l.length - g) 0 ⟨Nat.zero_le _, by simp⟩ ⟨rfl, rfl, rfl, trivial⟩ (.refl _) (fun g pg => ?_))))
  obtain ⟨pk, pa⟩ := pg
  refine E.seq (E.seq (E.region (l := [0, 1, 2, 3]) rfl (E.y rfl rfl (by decide) ((Y.mv rfl).yd) ?_)))
  refine E.y rfl rfl (by decide) ((Y.mv rfl).yd) ?_
  refine E.y rfl rfl (by decide) ((Y.len us_Is rfl).yd) ?_
  refine E.y rfl rfl (by decide) ((Y.lss rfl rfl).yd) (Ent.d (fun q9 => ?_) (fun q9 => ?_))
  · refine E.nil (E.thn (E.ct rfl (E.skipc (E.thn (E.seq (E.block (E.seq (E.region (l := [0, 1, 2, 3, 4, 5]) rfl (E.y rfl rfl (by decide) ((Y.mv rfl).yd) ?_)))))))))
    refine E.y rfl rfl (by decide) ((Y.mv rfl).yd) ?_
    obtain ⟨eb14, eo14, ea14, ei14, eh14⟩ := hl.elemI g (by omega)
    refine E.y rfl rfl (by decide) ((Y.ix us_Is ty_I rfl ea14 rfl g rfl (by omega)).yd) ?_
    refine E.y rfl rfl (by decide) (Y.ld1 ty_I rfl (eh14 _) rfl) ?_
    refine E.y rfl rfl (by decide) ((Y.mv rfl).yd) ?_
    refine E.y rfl rfl (by decide) ((Y.eql rfl rfl).yd) (Ent.d (fun q17 => ?_) (fun q17 => ?_))
    · refine E.nil (E.thn (E.ct rfl (E.seq (E.region (l := [0]) rfl (E.y rfl rfl (by decide) ((Y.as rfl).yd) ?_)))))
      exact E.nil (E.thn (E.ret (E.blr (E.thr (E.thr (E.blr (E.thr (F.r1 (Back.refl _ _) rfl rfl () trivial (congrArg Value.bool (by grind [hasI, List.drop_eq_getElem_cons, List.drop_eq_nil_of_le, List.take_succ_eq_append_getElem, List.take_of_length_le])) (J := _) (.refl _) (.inl rfl)))))))))
    · refine E.nil (E.thn (E.cf rfl (E.skipc (E.bln (E.thn (E.region (l := [0, 1, 2]) rfl (E.y rfl rfl (by decide) ((Y.mv rfl).yd) ?_)))))))
      refine E.y rfl rfl (by decide) ((Y.add rfl rfl (by omega) (by omega)).yd) ?_
      refine E.y rfl rfl (by decide) ((Y.as rfl).yd) ?_
      exact E.nil (E.thn (E.again (Back.refl _ _) (g + 1) ⟨rfl, rfl, rfl, trivial⟩ (.refl _) ⟨by omega, by grind [hasI, List.drop_eq_getElem_cons, List.drop_eq_nil_of_le, List.take_succ_eq_append_getElem, List.take_of_length_le]⟩ (by omega)))
  · refine E.nil (E.thn (E.cf rfl (E.exit (E.the (E.the (E.blh (E.thn (E.seq (E.region (l := [0]) rfl (E.y rfl rfl (by decide) ((Y.as rfl).yd) ?_))))))))))
    exact E.nil (E.thn (E.ret (F.r1 (Back.refl _ _) rfl rfl () trivial (congrArg Value.bool (by grind [hasI, List.drop_eq_getElem_cons, List.drop_eq_nil_of_le, List.take_succ_eq_append_getElem, List.take_of_length_le])) (J := _) (.refl _) (.inl rfl))))
theorem t_spec_l3Put {a_l : Option Addr} {m_l c_l : Nat} {l : List Int} {x : Int} (hz : l.length ≤ 1073741824) : Tr Tryz.prog 76 [.slice a_l m_l c_l, .int .i64 x] (fun w L => I64 x) [ow eIs [.slice a_l m_l c_l] l] (κ := Option Addr × Nat × Nat) (fun k => True) (fun k => .slice k.1 k.2.1 k.2.2) (fun k => [ow eIs [.slice k.1 k.2.1 k.2.2] (putI l x)]) := by
  refine Tr.intro Tryz.func76 rfl (n := 47) rfl (by decide +kernel) (Nat.le_of_ble_eq_true rfl) (fr := [(0, .slice a_l m_l c_l), (1, .int .i64 x)]) rfl fun w L hR => ?_
  have i6x := hR
  refine Ent.lenow m0 fun el ll => ?_
  subst el
  refine E.seq (E.region (l := [0]) rfl (E.y rfl rfl (by decide) ((Y.as rfl).yd) ?_))
  refine E.nil (E.thn (E.seq (E.seq (E.region (l := [0, 1, 2]) rfl (E.y rfl rfl (by decide) ((Y.mv rfl).yd) ?_)))))
  refine E.y rfl rfl (by decide) ((Y.mv rfl).yd) ?_
  refine E.st rfl rfl (N.call0 t_spec_l2Has rfl rfl rfl (by decide) (fun w Lp hA => hA.ow m0)) (fun _ _ => (Ent.b (fun q10 => ?_) (fun q10 => ?_)))
  · refine E.nil (E.thn (E.ct rfl (E.seq (E.region (l := [0, 1]) rfl (E.y rfl rfl (by decide) ((Y.mv rfl).yd) ?_)))))
    refine E.y rfl rfl (by decide) ((Y.as rfl).yd) ?_
    refine E.nil (E.thn (E.ret (E.thr (Ent.cv (congrArg (ow eIs [_]) (show _ = putI l x by grind [putI, addP, insQ_snoc, insQ_no, List.drop_eq_getElem_cons, List.drop_eq_nil_of_le, List.take_succ_eq_append_getElem, List.take_of_length_le])) ?_))))
    exact F.r1 (Back.refl _ _) rfl rfl (_, _, _) trivial rfl (J := _) (.refl _) (.inl rfl)
  · refine Ent.rebase (A := [_]) rfl fun wb1 Lb1 hB1 hA1 => ?_
    have rb1 : Ro wb1 Lb1 eIs [.slice a_l l.length c_l] l := hA1.ow m0
    refine E.nil (E.thn (E.cf rfl (E.skipc (E.thn (E.seq (E.region (l := [0, 1]) rfl (E.st rfl rfl (N.bsl (pvs := []) (cs := []) us_Is ty_I rfl (by decide) (by decide) (fillZ rfl rfl) rfl (by decide)) (fun b12 _ => ?_))))))))
    refine Ent.drop ?_
    refine E.y rfl rfl (by decide) ((Y.as rfl).yd) ?_
    refine E.nil (E.thn (E.seq (E.region (l := [0]) rfl (E.y rfl rfl (by decide) ((Y.as rfl).yd) ?_))))
    refine E.nil (E.thn (E.seq (E.seq (E.region (l := [0]) rfl (E.y rfl rfl (by decide) ((Y.as rfl).yd) ?_)))))
    refine E.nil (E.thn (E.block (Ent.mkow (A := []) (Own.nil (E := Enc.int) (e := tI) (a := (some ⟨b12, 0, none⟩))) rfl ?_)))
    refine Ent.cv (congrArg (ow eIs [_]) (show [] = insQ (fun y => decide (x < y)) x (l.take 0) from by first | rfl | (simp; done) | grind [putI, addP, insQ_snoc, insQ_no, List.drop_eq_getElem_cons, List.drop_eq_nil_of_le, List.take_succ_eq_append_getElem, List.take_of_length_le])) ?_
    refine E.loop (κ := Nat × Option Addr × Nat × Nat) (fun g => g.1 ≤ l.length ∧ True) (fun g => [(0, .slice a_l l.length c_l), (1, .int .i64 x), (5, .slice g.2.1 g.2.2.1 g.2.2.2), (6, .bool ((l.take g.1).any (fun y => decide (x < y)))), (7, .int .i64 (↑g.1 : Int))]) (fun g => [ow eIs [.slice g.2.1 g.2.2.1 g.2.2.2] (insQ (fun y => decide (x < y)) x (l.take g.1))]) (fun g => l.length - g.1) (0, (some ⟨b12, 0, none⟩), 0, 0) ⟨Nat.zero_le _, by simp⟩ ⟨rfl, rfl, rfl, frB (by first | rfl | (simp; done) | grind [putI, addP, insQ_snoc, insQ_no, List.drop_eq_getElem_cons, List.drop_eq_nil_of_le, List.take_succ_eq_append_getElem, List.take_of_length_le]), rfl, trivial⟩ (.refl _) (fun g pg => ?_)
    obtain ⟨g, aA0_0, mA0_0, cA0_0⟩ := g
    try dsimp only at pg
    show Ent _ _ _ [(0, .slice a_l l.length c_l), (1, .int .i64 x), (5, .slice aA0_0 mA0_0 cA0_0), (6, .bool ((l.take g).any (fun y => decide (x < y)))), (7, .int .i64 (↑g : Int))] [ow eIs [.slice aA0_0 mA0_0 cA0_0] (insQ (fun y => decide (x < y)) x (l.take g))] _
    obtain ⟨pk, pa⟩ := pg
    have jp := List.length_take_le g l
    have ji := insQ_len (p := (fun y => decide (x < y))) (f := x) (l := l.take g)
    refine Ent.lenow m0 fun eaA0_0 laA0_0 => ?_
    subst eaA0_0
    refine E.seq (E.seq (E.region (l := [0, 1, 2, 3]) rfl (E.y rfl rfl (by decide) ((Y.mv rfl).yd) ?_)))
    refine E.y rfl rfl (by decide) ((Y.mv rfl).yd) ?_
    refine E.y rfl rfl (by decide) ((Y.len us_Is rfl).yd) ?_
    refine E.y rfl rfl (by decide) ((Y.lss rfl rfl).yd) (Ent.d (fun q16 => ?_) (fun q16 => ?_))
    · refine E.nil (E.thn (E.ct rfl (E.skipc (E.thn (E.seq (E.block (E.seq (E.seq (E.region (l := [0, 1, 2, 3, 4, 5, 6, 7, 8, 9]) rfl (E.y rfl rfl (by decide) ((Y.mv rfl).yd) (Ent.b (fun q19 => ?_) (fun q19 => ?_))))))))))))
      · refine E.y rfl rfl (by decide) ((Y.not (b := true) rfl).yd) ?_
        refine E.y rfl rfl (by decide) ((Y.mv rfl).yd) ?_
        refine E.skip rfl rfl rfl ?_
        refine E.skip rfl rfl rfl ?_
        refine E.skip rfl rfl rfl ?_
        refine E.skip rfl rfl rfl ?_
        refine E.skip rfl rfl rfl ?_
        refine E.skip rfl rfl rfl ?_
        refine E.y rfl rfl (by decide) ((Y.pkf rfl rfl).yd) ?_
        refine E.nil (E.thn (E.cf rfl (E.skipc (E.thn (E.region (l := [0, 1, 2, 3, 4, 5, 6, 7]) rfl (E.y rfl rfl (by decide) ((Y.mv rfl).yd) ?_))))))
        refine E.y rfl rfl (by decide) ((Y.mv rfl).yd) ?_
        refine E.y rfl rfl (by decide) ((Y.mv rfl).yd) ?_
        obtain ⟨eb36, eo36, ea36, ei36, eh36⟩ := rb1.elemI g (by omega)
        refine E.y rfl rfl (by decide) ((Y.ix us_Is ty_I rfl ea36 rfl g rfl (by omega)).yd) ?_
        refine E.y rfl rfl (by decide) (Y.ld1 ty_I rfl (eh36 _) rfl) ?_
        refine E.st rfl rfl (N.bsl (pvs := [_]) (cs := [_]) us_Is ty_I rfl (by decide) (by decide) (fillZ rfl rfl) rfl (by decide)) (fun b38 _ => ?_)
        refine Ent.p1 ?_
        refine E.st rfl rfl (N.push (E := Enc.int) (ex := l[g]) us_Is ty_I rfl rfl rfl (Own.int ei36) rfl (by first | omega | (simp only [List.length_map, List.length_take, List.length_append, List.length_drop, List.length_cons, List.length_nil]; omega)) (by first | omega | (simp only [List.length_map, List.length_take, List.length_append, List.length_drop, List.length_cons, List.length_nil]; omega)) (by decide)) (fun p39 _ => ?_)
        refine E.y rfl rfl (by decide) ((Y.as rfl).yd) ?_
        refine E.nil (E.bln (E.thn (E.region (l := [0, 1, 2]) rfl (E.y rfl rfl (by decide) ((Y.mv rfl).yd) ?_))))
        refine E.y rfl rfl (by decide) ((Y.add rfl rfl (by omega) (by omega)).yd) ?_
        refine E.y rfl rfl (by decide) ((Y.as rfl).yd) ?_
        refine E.nil (E.thn (Ent.cv (congrArg (ow eIs [_]) (show (insQ (fun y => decide (x < y)) x (l.take g)) ++ [l[g]] = insQ (fun y => decide (x < y)) x (l.take (g + 1)) from by grind [putI, addP, insQ_snoc, insQ_no, List.drop_eq_getElem_cons, List.drop_eq_nil_of_le, List.take_succ_eq_append_getElem, List.take_of_length_le])) ?_))
        exact E.again (Back.refl _ _) (g + 1, p39.1, ((insQ (fun y => decide (x < y)) x (l.take g)).length + 1), p39.2) ⟨rfl, rfl, rfl, frB (by grind [putI, addP, insQ_snoc, insQ_no, List.drop_eq_getElem_cons, List.drop_eq_nil_of_le, List.take_succ_eq_append_getElem, List.take_of_length_le]), rfl, trivial⟩ (.refl _) ⟨(show g + 1 ≤ l.length from by omega), (show True from by grind [List.drop_eq_getElem_cons, List.drop_eq_nil_of_le, List.take_succ_eq_append_getElem, List.take_of_length_le])⟩ (show l.length - (g + 1) < l.length - g from by omega)
      · refine E.y rfl rfl (by decide) ((Y.not (b := false) rfl).yd) ?_
        refine E.y rfl rfl (by decide) ((Y.mv rfl).yd) ?_
        refine E.y rfl rfl (by decide) ((Y.mv rfl).yd) ?_
        refine E.y rfl rfl (by decide) ((Y.mv rfl).yd) ?_
        obtain ⟨eb24, eo24, ea24, ei24, eh24⟩ := rb1.elemI g (by omega)
        refine E.y rfl rfl (by decide) ((Y.ix us_Is ty_I rfl ea24 rfl g rfl (by omega)).yd) ?_
        refine E.y rfl rfl (by decide) (Y.ld1 ty_I rfl (eh24 _) rfl) ?_
        refine E.y rfl rfl (by decide) ((Y.mv rfl).yd) ?_
        refine E.y rfl rfl (by decide) ((Y.gtr rfl rfl).yd) (Ent.d (fun q27 => ?_) (fun q27 => ?_))
        · refine E.y rfl rfl (by decide) ((Y.pkt rfl rfl).yd) ?_
          refine E.nil (E.thn (E.ct rfl (E.seq (E.region (l := [0, 1, 2, 3, 4]) rfl (E.y rfl rfl (by decide) ((Y.mv rfl).yd) ?_)))))
          refine E.y rfl rfl (by decide) ((Y.mv rfl).yd) ?_
          refine E.st rfl rfl (N.bsl (pvs := [_]) (cs := [_]) us_Is ty_I rfl (by decide) (by decide) (fillZ rfl rfl) rfl (by decide)) (fun b31 _ => ?_)
          refine Ent.p1 ?_
          refine E.st rfl rfl (N.push (E := Enc.int) (ex := x) us_Is ty_I rfl rfl rfl (Own.int i6x) rfl (by first | omega | (simp only [List.length_map, List.length_take, List.length_append, List.length_drop, List.length_cons, List.length_nil]; omega)) (by first | omega | (simp only [List.length_map, List.length_take, List.length_append, List.length_drop, List.length_cons, List.length_nil]; omega)) (by decide)) (fun p32 _ => ?_)
          refine E.y rfl rfl (by decide) ((Y.as rfl).yd) ?_
          refine E.nil (E.thn (E.region (l := [0]) rfl (E.y rfl rfl (by decide) ((Y.as rfl).yd) ?_)))
          refine E.nil (E.thn (E.region (l := [0, 1, 2, 3, 4, 5, 6, 7]) rfl (E.y rfl rfl (by decide) ((Y.mv rfl).yd) ?_)))
          refine E.y rfl rfl (by decide) ((Y.mv rfl).yd) ?_
          refine E.y rfl rfl (by decide) ((Y.mv rfl).yd) ?_
          refine E.y rfl rfl (by decide) ((Y.ix us_Is ty_I rfl ea24 rfl g rfl (by omega)).yd) ?_
          refine E.y rfl rfl (by decide) (Y.ld1 ty_I rfl (eh24 _) rfl) ?_
          refine E.st rfl rfl (N.bsl (pvs := [_]) (cs := [_]) us_Is ty_I rfl (by decide) (by decide) (fillZ rfl rfl) rfl (by decide)) (fun b38 _ => ?_)
          refine Ent.p1 ?_
          refine E.st rfl rfl (N.push (E := Enc.int) (ex := l[g]) us_Is ty_I rfl rfl rfl (Own.int ei24) rfl (by first | omega | (simp only [List.length_map, List.length_take, List.length_append, List.length_drop, List.length_cons, List.length_nil]; omega)) (by first | omega | (simp only [List.length_map, List.length_take, List.length_append, List.length_drop, List.length_cons, List.length_nil]; omega)) (by decide)) (fun p39 _ => ?_)
          refine E.y rfl rfl (by decide) ((Y.as rfl).yd) ?_
          refine E.nil (E.bln (E.thn (E.region (l := [0, 1, 2]) rfl (E.y rfl rfl (by decide) ((Y.mv rfl).yd) ?_))))
          refine E.y rfl rfl (by decide) ((Y.add rfl rfl (by omega) (by omega)).yd) ?_
          refine E.y rfl rfl (by decide) ((Y.as rfl).yd) ?_
          refine E.nil (E.thn (Ent.cv (congrArg (ow eIs [_]) (show ((insQ (fun y => decide (x < y)) x (l.take g)) ++ [x]) ++ [l[g]] = insQ (fun y => decide (x < y)) x (l.take (g + 1)) from by grind [putI, addP, insQ_snoc, insQ_no, List.drop_eq_getElem_cons, List.drop_eq_nil_of_le, List.take_succ_eq_append_getElem, List.take_of_length_le])) ?_))
          exact E.again (Back.refl _ _) (g + 1, p39.1, (((insQ (fun y => decide (x < y)) x (l.take g)).length + 1) + 1), p39.2) ⟨rfl, rfl, rfl, frB (by grind [putI, addP, insQ_snoc, insQ_no, List.drop_eq_getElem_cons, List.drop_eq_nil_of_le, List.take_succ_eq_append_getElem, List.take_of_length_le]), rfl, trivial⟩ (.refl _) ⟨(show g + 1 ≤ l.length from by omega), (show True from by grind [List.drop_eq_getElem_cons, List.drop_eq_nil_of_le, List.take_succ_eq_append_getElem, List.take_of_length_le])⟩ (show l.length - (g + 1) < l.length - g from by omega)
        · refine E.y rfl rfl (by decide) ((Y.pkt rfl rfl).yd) ?_
          refine E.nil (E.thn (E.cf rfl (E.skipc (E.thn (E.region (l := [0, 1, 2, 3, 4, 5, 6, 7]) rfl (E.y rfl rfl (by decide) ((Y.mv rfl).yd) ?_))))))
          refine E.y rfl rfl (by decide) ((Y.mv rfl).yd) ?_
          refine E.y rfl rfl (by decide) ((Y.mv rfl).yd) ?_
          refine E.y rfl rfl (by decide) ((Y.ix us_Is ty_I rfl ea24 rfl g rfl (by omega)).yd) ?_
          refine E.y rfl rfl (by decide) (Y.ld1 ty_I rfl (eh24 _) rfl) ?_
          refine E.st rfl rfl (N.bsl (pvs := [_]) (cs := [_]) us_Is ty_I rfl (by decide) (by decide) (fillZ rfl rfl) rfl (by decide)) (fun b38 _ => ?_)
          refine Ent.p1 ?_
          refine E.st rfl rfl (N.push (E := Enc.int) (ex := l[g]) us_Is ty_I rfl rfl rfl (Own.int ei24) rfl (by first | omega | (simp only [List.length_map, List.length_take, List.length_append, List.length_drop, List.length_cons, List.length_nil]; omega)) (by first | omega | (simp only [List.length_map, List.length_take, List.length_append, List.length_drop, List.length_cons, List.length_nil]; omega)) (by decide)) (fun p39 _ => ?_)
          refine E.y rfl rfl (by decide) ((Y.as rfl).yd) ?_
          refine E.nil (E.bln (E.thn (E.region (l := [0, 1, 2]) rfl (E.y rfl rfl (by decide) ((Y.mv rfl).yd) ?_))))
          refine E.y rfl rfl (by decide) ((Y.add rfl rfl (by omega) (by omega)).yd) ?_
          refine E.y rfl rfl (by decide) ((Y.as rfl).yd) ?_
          refine E.nil (E.thn (Ent.cv (congrArg (ow eIs [_]) (show (insQ (fun y => decide (x < y)) x (l.take g)) ++ [l[g]] = insQ (fun y => decide (x < y)) x (l.take (g + 1)) from by grind [putI, addP, insQ_snoc, insQ_no, List.drop_eq_getElem_cons, List.drop_eq_nil_of_le, List.take_succ_eq_append_getElem, List.take_of_length_le])) ?_))
          exact E.again (Back.refl _ _) (g + 1, p39.1, ((insQ (fun y => decide (x < y)) x (l.take g)).length + 1), p39.2) ⟨rfl, rfl, rfl, frB (by grind [putI, addP, insQ_snoc, insQ_no, List.drop_eq_getElem_cons, List.drop_eq_nil_of_le, List.take_succ_eq_append_getElem, List.take_of_length_le]), rfl, trivial⟩ (.refl _) ⟨(show g + 1 ≤ l.length from by omega), (show True from by grind [List.drop_eq_getElem_cons, List.drop_eq_nil_of_le, List.take_succ_eq_append_getElem, List.take_of_length_le])⟩ (show l.length - (g + 1) < l.length - g from by omega)
    · refine E.nil (E.thn (E.cf rfl (E.exit (E.the (E.the (E.blh (E.thn (E.seq (E.seq (E.region (l := [0, 1]) rfl (E.y rfl rfl (by decide) ((Y.mv rfl).yd) (Ent.b (fun q40 => ?_) (fun q40 => ?_)))))))))))))
      · refine E.y rfl rfl (by decide) ((Y.not (b := true) rfl).yd) ?_
        refine E.nil (E.thn (E.cf rfl (E.skipc (E.thn (E.seq (E.region (l := [0, 1]) rfl (E.y rfl rfl (by decide) ((Y.mv rfl).yd) ?_)))))))
        refine E.y rfl rfl (by decide) ((Y.as rfl).yd) ?_
        refine E.nil (E.thn (E.ret (Ent.cv (congrArg (ow eIs [_]) (show _ = putI l x by grind [putI, addP, insQ_snoc, insQ_no, List.drop_eq_getElem_cons, List.drop_eq_nil_of_le, List.take_succ_eq_append_getElem, List.take_of_length_le])) ?_)))
        exact F.r1 hB1 rfl rfl (_, _, _) trivial rfl (J := _) (.refl _) (.inl rfl)
      · refine E.y rfl rfl (by decide) ((Y.not (b := false) rfl).yd) ?_
        refine E.nil (E.thn (E.ct rfl (E.region (l := [0, 1, 2, 3, 4]) rfl (E.y rfl rfl (by decide) ((Y.mv rfl).yd) ?_))))
        refine E.y rfl rfl (by decide) ((Y.mv rfl).yd) ?_
        refine E.st rfl rfl (N.bsl (pvs := [_]) (cs := [_]) us_Is ty_I rfl (by decide) (by decide) (fillZ rfl rfl) rfl (by decide)) (fun b44 _ => ?_)
        refine Ent.p1 ?_
        refine E.st rfl rfl (N.push (E := Enc.int) (ex := x) us_Is ty_I rfl rfl rfl (Own.int i6x) rfl (by first | omega | (simp only [List.length_map, List.length_take, List.length_append, List.length_drop, List.length_cons, List.length_nil]; omega)) (by first | omega | (simp only [List.length_map, List.length_take, List.length_append, List.length_drop, List.length_cons, List.length_nil]; omega)) (by decide)) (fun p45 _ => ?_)
        refine E.y rfl rfl (by decide) ((Y.as rfl).yd) ?_
        refine E.nil (E.thn (E.seq (E.region (l := [0, 1]) rfl (E.y rfl rfl (by decide) ((Y.mv rfl).yd) ?_))))
        refine E.y rfl rfl (by decide) ((Y.as rfl).yd) ?_
        refine E.nil (E.thn (E.ret (Ent.cv (congrArg (ow eIs [_]) (show _ = putI l x by grind [putI, addP, insQ_snoc, insQ_no, List.drop_eq_getElem_cons, List.drop_eq_nil_of_le, List.take_succ_eq_append_getElem, List.take_of_length_le])) ?_)))
        exact F.r1 hB1 rfl rfl (_, _, _) trivial rfl (J := _) (.refl _) (.inl rfl)
theorem t_slices_Contains_int_int {a_s : Option Addr} {m_s c_s : Nat} {s : List Int} {v : Int} : Tr Tryz.prog 148 [.slice a_s m_s c_s, .int .i64 v] (fun w L => Ro w L eIs [.slice a_s m_s c_s] s) [] (κ := Unit) (fun k => True) (fun k => .bool (hasI s v)) (fun k => []) := by
  refine Tr.intro Tryz.func148 rfl (n := 9) rfl (by decide +kernel) (Nat.le_of_ble_eq_true rfl) (fr := [(0, .slice a_s m_s c_s), (1, .int .i64 v)]) rfl fun w L hR => ?_
  have hs := hR
  obtain ⟨rfl, ls⟩ := hs.slen
  refine E.seq (E.region (l := [0]) rfl (E.y rfl rfl (by decide) ((Y.as rfl).yd) ?_))
  refine E.nil (E.thn (E.seq (E.region (l := [0, 1, 2, 3, 4]) rfl (E.y rfl rfl (by decide) ((Y.mv rfl).yd) ?_))))
  refine E.y rfl rfl (by decide) ((Y.mv rfl).yd) ?_
  refine E.st rfl rfl (N.call0 t_Index_I rfl rfl rfl (by decide) (fun w Lp hA => hA.ro hs)) (fun _ _ => ?_)
  refine E.y rfl rfl (by decide) ((Y.geq rfl rfl).yd) ?_
  refine E.y rfl rfl (by decide) ((Y.as rfl).yd) ?_
  exact E.nil (E.thn (E.ret (F.r1 (Back.refl _ _) rfl rfl () trivial (congrArg Value.bool (by exact idxP_nonneg)) (J := _) (.refl _) (.inl rfl))))
end Go.Proofs.YtfnagmokplpnjaaGreat
