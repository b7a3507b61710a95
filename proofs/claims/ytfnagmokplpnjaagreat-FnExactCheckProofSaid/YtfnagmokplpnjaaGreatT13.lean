import Derived.Test.YtfnagmokplpnjaaGreatT12
import Derived.Test.YtfnagmokplpnjaaGreatT9
import Derived.Test.YtfnagmokplpnjaaGreatT4
import Derived.Test.YtfnagmokplpnjaaGreatT5
import Derived.Test.YtfnagmokplpnjaaGreatBc
import Derived.Test.YtfnagmokplpnjaaGreatBd
namespace Go.Proofs.YtfnagmokplpnjaaGreat
open Go.RowKit
set_option linter.unusedVariables false
set_option linter.unusedSimpArgs false
set_option maxHeartbeats 2000000
attribute [local irreducible] Nop Yd Yp Ent Has Tr FnP FnP2 Src listsF opnF opn1 opnR chainB
theorem t_impl_copyFact {f_Rel : Int} {a_f_Values : Option Addr} {m_f_Values c_f_Values : Nat} {f_Values : List Int} (hyf : f_Values.length ≤ 1048576) : Tr Tryz.prog 112 [.agg #[.int .i64 f_Rel, .slice a_f_Values m_f_Values c_f_Values]] (fun w L => I64 f_Rel ∧ Ro w L eIs [.slice a_f_Values m_f_Values c_f_Values] f_Values) [] (κ := Option Addr × Nat × Nat) (fun k => True) (fun k => .agg #[.int .i64 f_Rel, .slice k.1 k.2.1 k.2.2]) (fun k => [ow eIs [.slice k.1 k.2.1 k.2.2] f_Values]) := by
  refine Tr.intro Tryz.func112 rfl (n := 9) rfl (by decide +kernel) (Nat.le_of_ble_eq_true rfl) (fr := [(0, .agg #[.int .i64 f_Rel, .slice a_f_Values m_f_Values c_f_Values])]) rfl fun w L hR => ?_
  obtain ⟨i6f_Rel, hf_Values⟩ := hR
  obtain ⟨rfl, lf_Values⟩ := hf_Values.slen
  refine E.seq (E.region (l := [0, 1]) rfl (E.st rfl rfl (N.box (cs := [_, _]) rfl (by decide) rfl) (fun b1 _ => ?_)))
  refine E.st rfl rfl (N.alloc ty_Fact (by decide)) (fun b2 _ => ?_)
  refine E.nil (E.thn (E.seq (D.region (fun j => !(Nat.beq j 6)) mixed (D.yp 0 rfl rfl (by decide) (Y.fld fo_Fact_0 ty_I (by decide) rfl) (by kernel_rfl) ?_))))
  refine D.y 1 rfl rfl (by decide) (Y.ld1 ty_I rfl ((Has.pt (mS m0)).sub (cs' := [_]) 0 rfl) rfl) (by kernel_rfl) ?_
  refine D.yp 2 rfl rfl (by decide) (Y.fld fo_Fact_1 ty_Is (by decide) rfl) (by kernel_rfl) ?_
  refine D.y 3 rfl rfl (by decide) (Y.ld1 ty_Is rfl ((Has.pt (mS m0)).sub (cs' := [_]) 1 rfl) rfl) (by kernel_rfl) ?_
  refine D.st 4 rfl rfl (by kernel_rfl) (fun _ => rfl) (N.call (t_Clone_Is (by first | omega | assumption | (constructor <;> omega))) rfl rfl rfl (by decide) rfl (fun w Lp hA => hA.ro hf_Values)) (fun k7 _ => ?_)
  obtain ⟨a7, m7, c7⟩ := k7
  refine Ent.lenow m0 fun e7 l7 => ?_
  subst e7
  refine D.yp 5 rfl rfl (by decide) (Y.bld (pvs := [_, _]) (cs := [_, _]) ty_Fact pl_Fact rfl rfl) (by kernel_rfl) ?_
  refine Ent.p1 ?_
  refine D.st 6 rfl rfl (by kernel_rfl) (fun h => by cases h) (N.sto (vs := [_, _]) (cs' := [_, _]) ty_Fact rfl rfl rfl rfl rfl (Nat.le_of_ble_eq_true rfl) rfl) (fun _ _ => ?_)
  refine D.done (by kernel_rfl) (E.thn (E.ret (Ent.p1 ?_)))
  exact F.c1 (Back.refl _ _) rfl rfl (mS m0) ty_Fact rfl (_, _, _) trivial rfl (J := _) (.refl _) (.inl rfl)
theorem t_spec_l2One {rel : Int} {a_values : Option Addr} {m_values c_values : Nat} {values : List Int} (hz : values.length ≤ 1048576) : Tr Tryz.prog 138 [.int .i64 rel, .slice a_values m_values c_values] (fun w L => I64 rel ∧ Ro w L eIs [.slice a_values m_values c_values] values) [] (κ := Option Addr × Nat × Nat) (fun k => True) (fun k => .agg #[.int .i64 rel, .slice k.1 k.2.1 k.2.2]) (fun k => [ow eIs [.slice k.1 k.2.1 k.2.2] values]) := by
  refine Tr.intro Tryz.func138 rfl (n := 10) rfl (by decide +kernel) (Nat.le_of_ble_eq_true rfl) (fr := [(0, .int .i64 rel), (1, .slice a_values m_values c_values)]) rfl fun w L hR => ?_
  obtain ⟨i6rel, hvalues⟩ := hR
  obtain ⟨rfl, lvalues⟩ := hvalues.slen
  refine E.seq (E.region (l := [0]) rfl (E.st rfl rfl (N.alloc ty_Fact (by decide)) (fun b4 _ => ?_)))
  refine E.nil (E.thn (E.seq (E.region (l := [0, 1, 2, 3, 4, 5]) rfl (E.y rfl rfl (by decide) ((Y.mv rfl).yd) ?_))))
  refine E.st rfl rfl (N.bsl (pvs := []) (cs := []) us_Is ty_I rfl (by decide) (by decide) (fillZ rfl rfl) rfl (by decide)) (fun b6 _ => ?_)
  refine Ent.drop ?_
  refine E.y rfl rfl (by decide) ((Y.mv rfl).yd) ?_
  refine E.st rfl rfl (N.pushR0 (E := Enc.int) Plain.int us_Is ty_I rfl rfl rfl hvalues (by first | omega | (simp only [List.length_map, List.length_take, List.length_append, List.length_drop, List.length_cons, List.length_nil]; omega)) (by first | omega | (simp only [List.length_map, List.length_take, List.length_append, List.length_drop, List.length_cons, List.length_nil]; omega)) (by decide)) (fun p8 _ => ?_)
  refine E.y rfl rfl (by decide) ((Y.bld (pvs := [_, _]) (cs := [_, _]) ty_Fact pl_Fact rfl rfl).yd) ?_
  refine Ent.p1 ?_
  refine E.st rfl rfl (N.sto (vs := [_, _]) (cs' := [_, _]) ty_Fact rfl rfl rfl rfl rfl (Nat.le_of_ble_eq_true rfl) rfl) (fun _ _ => ?_)
  refine E.nil (E.thn (E.ret (Ent.p1 ?_)))
  exact F.c1 (Back.refl _ _) rfl rfl (mS m0) ty_Fact rfl (_, _, _) trivial rfl (J := _) (.refl _) (.inl rfl)
theorem t_impl_copyFacts {a_l : Option Addr} {m_l c_l : Nat} {l : List (Int × List Int)} (hz : l.length ≤ 1073741824) (hyl : ∀ x ∈ l, x.2.length ≤ 1048576) : Tr Tryz.prog 107 [.slice a_l m_l c_l] (fun w L => Ro w L eFacts [.slice a_l m_l c_l] l) [] (κ := Option Addr × Nat × Nat) (fun k => True) (fun k => .slice k.1 k.2.1 k.2.2) (fun k => [ow eFacts [.slice k.1 k.2.1 k.2.2] l]) := by
  refine Tr.intro Tryz.func107 rfl (n := 20) rfl (by decide +kernel) (Nat.le_of_ble_eq_true rfl) (fr := [(0, .slice a_l m_l c_l)]) rfl fun w L hR => ?_
  have hl := hR
  obtain ⟨rfl, ll⟩ := hl.slen
  refine E.seq (E.region (l := [0]) rfl (E.y rfl rfl (by decide) ((Y.as rfl).yd) ?_))
  refine E.nil (E.thn (E.seq (E.region (l := [0, 1]) rfl (E.st rfl rfl (N.bsl (pvs := []) (cs := []) us_Facts ty_Fact rfl (by decide) (by decide) (fillZ rfl rfl) rfl (by decide)) (fun b6 _ => ?_)))))
  refine Ent.drop ?_
  refine E.y rfl rfl (by decide) ((Y.as rfl).yd) ?_
  refine E.nil (E.thn (E.seq (E.seq (E.region (l := [0, 1, 2]) rfl (E.y rfl rfl (by decide) ((Y.mv rfl).yd) ?_)))))
  refine E.y rfl rfl (by decide) ((Y.len us_Facts rfl).yd) ?_
  refine E.y rfl rfl (by decide) ((Y.mv rfl).yd) ?_
  refine E.nil (E.thn (E.block (Ent.mkow (A := []) (Own.nil (E := eFact) (e := tFact) (a := (some ⟨b6, 0, none⟩))) rfl ?_)))
  refine Ent.cv (congrArg (ow eFacts [_]) (show [] = l.take 0 from by first | rfl | (simp; done) | grind [List.drop_eq_getElem_cons, List.drop_eq_nil_of_le, List.take_succ_eq_append_getElem, List.take_of_length_le])) ?_
  refine E.loop (κ := Nat × Option Addr × Nat × Nat) (fun g => g.1 ≤ l.length ∧ True) (fun g => [(3, .slice g.2.1 g.2.2.1 g.2.2.2), (7, .slice a_l l.length c_l), (8, .int .i64 (↑l.length : Int)), (9, .int .i64 (↑g.1 : Int))]) (fun g => [ow eFacts [.slice g.2.1 g.2.2.1 g.2.2.2] (l.take g.1)]) (fun g => l.length - g.1) (0, (some ⟨b6, 0, none⟩), 0, 0) ⟨Nat.zero_le _, by simp⟩ ⟨rfl, rfl, rfl, rfl, trivial⟩ (.refl _) (fun g pg => ?_)
  obtain ⟨g, aA0_0, mA0_0, cA0_0⟩ := g
  try dsimp only at pg
  show Ent _ _ _ [(3, .slice aA0_0 mA0_0 cA0_0), (7, .slice a_l l.length c_l), (8, .int .i64 (↑l.length : Int)), (9, .int .i64 (↑g : Int))] [ow eFacts [.slice aA0_0 mA0_0 cA0_0] (l.take g)] _
  obtain ⟨pk, pa⟩ := pg
  have jp := List.length_take_le g l
  refine Ent.lenow m0 fun eaA0_0 laA0_0 => ?_
  subst eaA0_0
  refine E.seq (E.region (l := [0]) rfl (E.y rfl rfl (by decide) ((Y.lss rfl rfl).yd) (Ent.d (fun q10 => ?_) (fun q10 => ?_))))
  · obtain ⟨eb11, eo11, ec11, ea11, er11, el11, eh11⟩ := hl.elem g (by omega)
    obtain ⟨xa11_0, xc11_0, rfl, ei11_0, xh11_0⟩ := Ro.pFact er11
    have := xh11_0.slen.2
    refine E.nil (E.thn (E.seq (E.ct rfl (E.skipc (E.thn (E.seq (E.block (E.seq (E.region (l := [0, 1, 2, 3]) rfl (E.y rfl rfl (by decide) ((Y.ix us_Facts ty_Fact rfl ea11 rfl g rfl (by omega)).yd) ?_))))))))))
    refine E.y rfl rfl (by decide) (Y.ldS (cs := [_, _]) ty_Fact rfl (eh11 _) rfl) ?_
    refine E.st rfl rfl (N.alloc ty_Fact (by decide)) (fun b5 _ => ?_)
    refine E.st rfl rfl (N.sto (vs := [_, _]) (cs' := [_, _]) ty_Fact rfl rfl rfl rfl rfl (Nat.le_of_ble_eq_true rfl) rfl) (fun _ _ => ?_)
    refine E.nil (E.thn (E.region (l := [0, 1, 2, 3, 4, 5]) rfl (E.y rfl rfl (by decide) ((Y.mv rfl).yd) ?_)))
    refine E.y rfl rfl (by decide) (Y.ldS (cs := [_, _]) ty_Fact rfl (Has.pt m0) rfl) ?_
    refine E.st rfl rfl (N.call (t_impl_copyFact (hyl _ (List.getElem_mem (by omega)))) rfl rfl rfl (by decide) rfl (fun w Lp hA => ⟨ei11_0, hA.ro xh11_0⟩)) (fun k15 _ => ?_)
    obtain ⟨a15, m15, c15⟩ := k15
    refine Ent.lenow m0 fun e15 l15 => ?_
    subst e15
    refine E.st rfl rfl (N.bsl (pvs := [_]) (cs := [_, _]) us_Facts ty_Fact rfl (by decide) (by decide) (fillZ rfl rfl) rfl (by decide)) (fun b16 _ => ?_)
    refine Ent.p1 ?_
    refine Ent.p1 ?_
    refine Ent.p3 ?_
    refine E.st rfl rfl (N.push (E := eFact) (ex := l[g]) us_Facts ty_Fact rfl rfl rfl (Own.mkFact (x := l[g]) ei11_0 Own.ow) rfl (by first | omega | (simp only [List.length_map, List.length_take, List.length_append, List.length_drop, List.length_cons, List.length_nil]; omega)) (by first | omega | (simp only [List.length_map, List.length_take, List.length_append, List.length_drop, List.length_cons, List.length_nil]; omega)) (by decide)) (fun p17 _ => ?_)
    refine E.y rfl rfl (by decide) ((Y.as rfl).yd) ?_
    refine E.nil (E.bln (E.thn (E.region (l := [0, 1]) rfl (E.y rfl rfl (by decide) ((Y.add rfl rfl (by omega) (by omega)).yd) ?_))))
    refine E.y rfl rfl (by decide) ((Y.mv rfl).yd) ?_
    refine E.nil (E.thn (Ent.p1 ?_))
    refine Ent.drop ?_
    refine Ent.cv (congrArg (ow eFacts [_]) (show (l.take g) ++ [l[g]] = l.take (g + 1) from by grind [List.drop_eq_getElem_cons, List.drop_eq_nil_of_le, List.take_succ_eq_append_getElem, List.take_of_length_le])) ?_
    exact E.again (Back.refl _ _) (g + 1, p17.1, ((l.take g).length + 1), p17.2) ⟨rfl, rfl, rfl, rfl, trivial⟩ (.refl _) ⟨(show g + 1 ≤ l.length from by omega), (show True from by grind [List.drop_eq_getElem_cons, List.drop_eq_nil_of_le, List.take_succ_eq_append_getElem, List.take_of_length_le])⟩ (show l.length - (g + 1) < l.length - g from by omega)
  · refine E.nil (E.thn (E.seq (E.cf rfl (E.exit (E.the (E.the (E.blh (E.thn (E.seq (E.region (l := [0, 1]) rfl (E.y rfl rfl (by decide) ((Y.mv rfl).yd) ?_)))))))))))
    refine E.y rfl rfl (by decide) ((Y.as rfl).yd) ?_
    refine E.nil (E.thn (E.ret (Ent.cv (congrArg (ow eFacts [_]) (show _ = l by grind [List.drop_eq_getElem_cons, List.drop_eq_nil_of_le, List.take_succ_eq_append_getElem, List.take_of_length_le])) ?_)))
    exact F.r1 (Back.refl _ _) rfl rfl (_, _, _) trivial rfl (J := _) (.refl _) (.inl rfl)
theorem t_spec_l2Copy {a_l : Option Addr} {m_l c_l : Nat} {l : List (Int × List Int)} (hz : l.length ≤ 1073741824) (hyl : ∀ x ∈ l, x.2.length ≤ 1048576) : Tr Tryz.prog 161 [.slice a_l m_l c_l] (fun w L => Ro w L eFacts [.slice a_l m_l c_l] l) [] (κ := Option Addr × Nat × Nat) (fun k => True) (fun k => .slice k.1 k.2.1 k.2.2) (fun k => [ow eFacts [.slice k.1 k.2.1 k.2.2] l]) := by
  refine Tr.intro Tryz.func161 rfl (n := 27) rfl (by decide +kernel) (Nat.le_of_ble_eq_true rfl) (fr := [(0, .slice a_l m_l c_l)]) rfl fun w L hR => ?_
  have hl := hR
  obtain ⟨rfl, ll⟩ := hl.slen
  refine E.seq (E.region (l := [0]) rfl (E.y rfl rfl (by decide) ((Y.as rfl).yd) ?_))
  refine E.nil (E.thn (E.seq (E.region (l := [0, 1]) rfl (E.st rfl rfl (N.bsl (pvs := []) (cs := []) us_Facts ty_Fact rfl (by decide) (by decide) (fillZ rfl rfl) rfl (by decide)) (fun b5 _ => ?_)))))
  refine Ent.drop ?_
  refine E.y rfl rfl (by decide) ((Y.as rfl).yd) ?_
  refine E.nil (E.thn (E.seq (E.seq (E.region (l := [0]) rfl (E.y rfl rfl (by decide) ((Y.as rfl).yd) ?_)))))
  refine E.nil (E.thn (E.block (Ent.mkow (A := []) (Own.nil (E := eFact) (e := tFact) (a := (some ⟨b5, 0, none⟩))) rfl ?_)))
  refine Ent.cv (congrArg (ow eFacts [_]) (show [] = l.take 0 from by first | rfl | (simp; done) | grind [List.drop_eq_getElem_cons, List.drop_eq_nil_of_le, List.take_succ_eq_append_getElem, List.take_of_length_le])) ?_
  refine E.loop (κ := Nat × Option Addr × Nat × Nat) (fun g => g.1 ≤ l.length ∧ True) (fun g => [(0, .slice a_l l.length c_l), (3, .slice g.2.1 g.2.2.1 g.2.2.2), (4, .int .i64 (↑g.1 : Int))]) (fun g => [ow eFacts [.slice g.2.1 g.2.2.1 g.2.2.2] (l.take g.1)]) (fun g => l.length - g.1) (0, (some ⟨b5, 0, none⟩), 0, 0) ⟨Nat.zero_le _, by simp⟩ ⟨rfl, rfl, rfl, trivial⟩ (.refl _) (fun g pg => ?_)
  obtain ⟨g, aA0_0, mA0_0, cA0_0⟩ := g
  try dsimp only at pg
  show Ent _ _ _ [(0, .slice a_l l.length c_l), (3, .slice aA0_0 mA0_0 cA0_0), (4, .int .i64 (↑g : Int))] [ow eFacts [.slice aA0_0 mA0_0 cA0_0] (l.take g)] _
  obtain ⟨pk, pa⟩ := pg
  have jp := List.length_take_le g l
  refine Ent.lenow m0 fun eaA0_0 laA0_0 => ?_
  subst eaA0_0
  refine E.seq (E.seq (E.region (l := [0, 1, 2, 3]) rfl (E.y rfl rfl (by decide) ((Y.mv rfl).yd) ?_)))
  refine E.y rfl rfl (by decide) ((Y.mv rfl).yd) ?_
  refine E.y rfl rfl (by decide) ((Y.len us_Facts rfl).yd) ?_
  refine E.y rfl rfl (by decide) ((Y.lss rfl rfl).yd) (Ent.d (fun q9 => ?_) (fun q9 => ?_))
  · refine E.nil (E.thn (E.ct rfl (E.skipc (E.thn (E.seq (E.block (D.region (fun j => !(Nat.beq j 13)) mixed (D.yp 0 rfl rfl (by decide) (Y.mv rfl) (by kernel_rfl) ?_))))))))
    refine D.yp 1 rfl rfl (by decide) (Y.mv rfl) (by kernel_rfl) ?_
    refine D.yp 2 rfl rfl (by decide) (Y.mv rfl) (by kernel_rfl) ?_
    obtain ⟨eb15, eo15, ec15, ea15, er15, el15, eh15⟩ := hl.elem g (by omega)
    obtain ⟨xa15_0, xc15_0, rfl, ei15_0, xh15_0⟩ := Ro.pFact er15
    have := xh15_0.slen.2
    refine D.yp 3 rfl rfl (by decide) (Y.ix us_Facts ty_Fact rfl ea15 rfl g rfl (by omega)) (by kernel_rfl) ?_
    refine D.yp 4 rfl rfl (by decide) (Y.fld fo_Fact_0 ty_I (by decide) rfl) (by kernel_rfl) ?_
    refine D.y 5 rfl rfl (by decide) (Y.ld1 ty_I rfl ((eh15 _).sub (cs' := [_]) 0 rfl) rfl) (by kernel_rfl) ?_
    refine D.yp 6 rfl rfl (by decide) (Y.mv rfl) (by kernel_rfl) ?_
    refine D.yp 7 rfl rfl (by decide) (Y.mv rfl) (by kernel_rfl) ?_
    refine D.yp 8 rfl rfl (by decide) (Y.ix us_Facts ty_Fact rfl ea15 rfl g rfl (by omega)) (by kernel_rfl) ?_
    refine D.yp 9 rfl rfl (by decide) (Y.fld fo_Fact_1 ty_Is (by decide) rfl) (by kernel_rfl) ?_
    refine D.y 10 rfl rfl (by decide) (Y.ld1 ty_Is rfl ((eh15 _).sub (cs' := [_]) 1 rfl) rfl) (by kernel_rfl) ?_
    refine D.st 11 rfl rfl (by kernel_rfl) (fun _ => rfl) (N.call (t_spec_l2One (hyl _ (List.getElem_mem (by omega)))) rfl rfl rfl (by decide) rfl (fun w Lp hA => ⟨ei15_0, hA.ro xh15_0⟩)) (fun k23 _ => ?_)
    obtain ⟨a23, m23, c23⟩ := k23
    refine Ent.lenow m0 fun e23 l23 => ?_
    subst e23
    refine D.st 12 rfl rfl (by kernel_rfl) (fun _ => rfl) (N.bsl (pvs := [_]) (cs := [_, _]) us_Facts ty_Fact rfl (by decide) (by decide) (fillZ rfl rfl) rfl (by decide)) (fun b24 _ => ?_)
    refine Ent.p1 ?_
    refine Ent.p1 ?_
    refine Ent.p2 ?_
    refine D.st 13 rfl rfl (by kernel_rfl) (fun h => by cases h) (N.push (E := eFact) (ex := l[g]) us_Facts ty_Fact rfl rfl rfl (Own.mkFact (x := l[g]) ei15_0 Own.ow) rfl (by first | omega | (simp only [List.length_map, List.length_take, List.length_append, List.length_drop, List.length_cons, List.length_nil]; omega)) (by first | omega | (simp only [List.length_map, List.length_take, List.length_append, List.length_drop, List.length_cons, List.length_nil]; omega)) (by decide)) (fun p25 _ => ?_)
    refine D.yp 14 rfl rfl (by decide) (Y.as rfl) (by kernel_rfl) ?_
    refine D.done (by kernel_rfl) (E.bln (E.thn (E.region (l := [0, 1, 2]) rfl (E.y rfl rfl (by decide) ((Y.mv rfl).yd) ?_))))
    refine E.y rfl rfl (by decide) ((Y.add rfl rfl (by omega) (by omega)).yd) ?_
    refine E.y rfl rfl (by decide) ((Y.as rfl).yd) ?_
    refine E.nil (E.thn (Ent.cv (congrArg (ow eFacts [_]) (show (l.take g) ++ [l[g]] = l.take (g + 1) from by grind [List.drop_eq_getElem_cons, List.drop_eq_nil_of_le, List.take_succ_eq_append_getElem, List.take_of_length_le])) ?_))
    exact E.again (Back.refl _ _) (g + 1, p25.1, ((l.take g).length + 1), p25.2) ⟨rfl, rfl, rfl, trivial⟩ (.refl _) ⟨(show g + 1 ≤ l.length from by omega), (show True from by grind [List.drop_eq_getElem_cons, List.drop_eq_nil_of_le, List.take_succ_eq_append_getElem, List.take_of_length_le])⟩ (show l.length - (g + 1) < l.length - g from by omega)
  · refine E.nil (E.thn (E.cf rfl (E.exit (E.the (E.the (E.blh (E.thn (E.seq (E.region (l := [0, 1]) rfl (E.y rfl rfl (by decide) ((Y.mv rfl).yd) ?_))))))))))
    refine E.y rfl rfl (by decide) ((Y.as rfl).yd) ?_
    refine E.nil (E.thn (E.ret (Ent.cv (congrArg (ow eFacts [_]) (show _ = l by grind [List.drop_eq_getElem_cons, List.drop_eq_nil_of_le, List.take_succ_eq_append_getElem, List.take_of_length_le])) ?_)))
    exact F.r1 (Back.refl _ _) rfl rfl (_, _, _) trivial rfl (J := _) (.refl _) (.inl rfl)
theorem t_impl_added_1 {x_Rel : Int} {a_x_Values : Option Addr} {m_x_Values c_x_Values : Nat} {x_Values : List Int} {b_f : Nat} {f_Rel : Int} {a_f_Values : Option Addr} {m_f_Values c_f_Values : Nat} {f_Values : List Int} : Tr Tryz.prog 229 [.agg #[.int .i64 x_Rel, .slice a_x_Values m_x_Values c_x_Values], .pointer (some ⟨b_f, 0, none⟩)] (fun w L => (I64 x_Rel ∧ Ro w L eIs [.slice a_x_Values m_x_Values c_x_Values] x_Values) ∧ RoPt w L b_f [.int .i64 f_Rel, .slice a_f_Values m_f_Values c_f_Values] ∧ I64 f_Rel ∧ Ro w L eIs [.slice a_f_Values m_f_Values c_f_Values] f_Values) [] (κ := Unit) (fun k => True) (fun k => .bool (decide (0 < cmpF (x_Rel, x_Values) (f_Rel, f_Values)))) (fun k => []) := by
  refine Tr.intro Tryz.func229 rfl (n := 8) rfl (by decide +kernel) (Nat.le_of_ble_eq_true rfl) (fr := [(0, .agg #[.int .i64 x_Rel, .slice a_x_Values m_x_Values c_x_Values]), (1, .pointer (some ⟨b_f, 0, none⟩))]) rfl fun w L hR => ?_
  obtain ⟨⟨i6x_Rel, hx_Values⟩, hb_f, i6f_Rel, hf_Values⟩ := hR
  obtain ⟨rfl, lx_Values⟩ := hx_Values.slen
  obtain ⟨rfl, lf_Values⟩ := hf_Values.slen
  refine E.seq (E.region (l := [0, 1]) rfl (E.st rfl rfl (N.box (cs := [_, _]) rfl (by decide) rfl) (fun b2 _ => ?_)))
  refine E.y rfl rfl (by decide) ((Y.as rfl).yd) ?_
  refine E.nil (E.thn (E.seq (E.region (l := [0, 1, 2, 3, 4]) rfl (E.y rfl rfl (by decide) (Y.ldS (cs := [_, _]) ty_Fact rfl (Has.pt m0) rfl) ?_))))
  refine E.y rfl rfl (by decide) (Y.ldS (cs := [_, _]) ty_Fact rfl (hb_f.has) rfl) ?_
  refine E.st rfl rfl (N.call0 t_impl_CompareFacts rfl rfl rfl (by decide) (fun w Lp hA => ⟨i6x_Rel, hA.ro hx_Values, i6f_Rel, hA.ro hf_Values⟩)) (fun _ _ => ?_)
  refine E.y rfl rfl (by decide) ((Y.gtr rfl rfl).yd) ?_
  refine E.y rfl rfl (by decide) ((Y.as rfl).yd) ?_
  exact E.nil (E.thn (E.ret (F.r1 (Back.refl _ _) rfl rfl () trivial rfl (J := _) (.refl _) (.inl rfl))))
theorem t_impl_added {a_l : Option Addr} {m_l c_l : Nat} {l : List (Int × List Int)} {f_Rel : Int} {a_f_Values : Option Addr} {m_f_Values c_f_Values : Nat} {f_Values : List Int} (hz : l.length ≤ 1000000000) (hyf : f_Values.length ≤ 1048576) : Tr Tryz.prog 173 [.slice a_l m_l c_l, .agg #[.int .i64 f_Rel, .slice a_f_Values m_f_Values c_f_Values]] (fun w L => I64 f_Rel ∧ Ro w L eIs [.slice a_f_Values m_f_Values c_f_Values] f_Values) [ow eFacts [.slice a_l m_l c_l] l] (κ := Option Addr × Nat × Nat) (fun k => True) (fun k => .slice k.1 k.2.1 k.2.2) (fun k => [ow eFacts [.slice k.1 k.2.1 k.2.2] (addF l (f_Rel, f_Values))]) := by
  refine Tr.intro Tryz.func173 rfl (n := 23) rfl (by decide +kernel) (Nat.le_of_ble_eq_true rfl) (fr := [(0, .slice a_l m_l c_l), (1, .agg #[.int .i64 f_Rel, .slice a_f_Values m_f_Values c_f_Values])]) rfl fun w L hR => ?_
  obtain ⟨i6f_Rel, hf_Values⟩ := hR
  obtain ⟨rfl, lf_Values⟩ := hf_Values.slen
  refine Ent.lenow m0 fun el ll => ?_
  subst el
  refine E.seq (E.region (l := [0, 1]) rfl (E.st rfl rfl (N.box (cs := [_, _]) rfl (by decide) rfl) (fun b3 _ => ?_)))
  refine E.y rfl rfl (by decide) ((Y.as rfl).yd) ?_
  refine E.nil (E.thn (E.seq (E.seq (E.region (l := [0, 1, 2]) rfl (E.y rfl rfl (by decide) ((Y.mv rfl).yd) ?_)))))
  refine E.y rfl rfl (by decide) (Y.ldS (cs := [_, _]) ty_Fact rfl (Has.pt m0) rfl) ?_
  refine E.st rfl rfl (N.call0 t_impl_HasFact rfl rfl rfl (by decide) (fun w Lp hA => ⟨hA.ow (mS m0), i6f_Rel, hA.ro hf_Values⟩)) (fun _ _ => (Ent.b (fun q8 => ?_) (fun q8 => ?_)))
  · refine E.nil (E.thn (E.ct rfl (E.seq (E.region (l := [0, 1]) rfl (E.y rfl rfl (by decide) ((Y.mv rfl).yd) ?_)))))
    refine E.y rfl rfl (by decide) ((Y.as rfl).yd) ?_
    refine E.nil (E.thn (E.ret (E.thr (Ent.p1 ?_))))
    refine Ent.cv (congrArg (ow eFacts [_]) (show _ = addF l (f_Rel, f_Values) by grind [addF_has, addF_ins])) ?_
    exact F.r1 (Back.refl _ _) rfl rfl (_, _, _) trivial rfl (J := _) (.refl _) (.inl rfl)
  · refine E.nil (E.thn (E.cf rfl (E.skipc (E.thn (E.seq (E.region (l := [0, 1, 2, 3]) rfl (E.y rfl rfl (by decide) ((Y.mv rfl).yd) ?_)))))))
    refine E.y rfl rfl (by decide) ((Y.fn (vs := [_]) rfl).yd) ?_
    refine E.st rfl rfl (N.call0 (t_IndexFunc_Fact (f := (fun z => decide (0 < cmpF z (f_Rel, f_Values)))) (D_f := (fun _ => True)) (by intros; exact trivial)) rfl rfl rfl (by decide) (fun w Lp hA => ⟨hA.ow (mS m0), FnP.ofFact (D := (fun _ => True)) (fun hd => t_impl_added_1) (fun w' hk => ⟨(hA.pt m0).keep hk, i6f_Rel, (hA.ro hf_Values).keep hk⟩)⟩)) (fun _ _ => ?_)
    refine E.y rfl rfl (by decide) ((Y.as rfl).yd) ?_
    refine E.nil (E.thn (E.seq (E.seq (E.region (l := [0, 1]) rfl (E.y rfl rfl (by decide) ((Y.mv rfl).yd) ?_)))))
    refine E.y rfl rfl (by decide) ((Y.lss rfl rfl).yd) (Ent.d (fun q14 => ?_) (fun q14 => ?_))
    · refine E.nil (E.thn (E.ct rfl (E.region (l := [0, 1, 2]) rfl (E.y rfl rfl (by decide) ((Y.mv rfl).yd) ?_))))
      refine E.y rfl rfl (by decide) ((Y.len us_Facts rfl).yd) ?_
      refine E.y rfl rfl (by decide) ((Y.as rfl).yd) ?_
      refine E.nil (E.thn (E.seq (E.region (l := [0, 1, 2, 3, 4, 5, 6]) rfl (E.y rfl rfl (by decide) ((Y.mv rfl).yd) ?_))))
      refine E.y rfl rfl (by decide) ((Y.mv rfl).yd) ?_
      refine E.y rfl rfl (by decide) (Y.ldS (cs := [_, _]) ty_Fact rfl (Has.pt m0) rfl) ?_
      refine E.st rfl rfl (N.call (t_impl_copyFact (by first | omega | assumption | (constructor <;> omega))) rfl rfl rfl (by decide) rfl (fun w Lp hA => ⟨i6f_Rel, hA.ro hf_Values⟩)) (fun k20 _ => ?_)
      obtain ⟨a20, m20, c20⟩ := k20
      refine Ent.lenow m0 fun e20 l20 => ?_
      subst e20
      refine E.st rfl rfl (N.bsl (pvs := [_]) (cs := [_, _]) us_Facts ty_Fact rfl (by decide) (by decide) (fillZ rfl rfl) rfl (by decide)) (fun b21 _ => ?_)
      refine Ent.p1 ?_
      refine Ent.p1 ?_
      refine Ent.mkow (A := _ :: _) (Own.row1 (E := eFact) (e := tFact) (Own.mkFact (x := (f_Rel, f_Values)) i6f_Rel Own.ow)) rfl ?_
      have ji := idx_range (p := fun z => decide (0 < cmpF z (f_Rel, f_Values))) (s := l)
      refine Ent.p2 ?_
      refine E.st rfl rfl (N.call (pre := [_, _]) (t_Insert_Fact (by omega) (by simp) (by simp; omega)) rfl rfl rfl (by decide) rfl (fun w Lp hA => trivial)) (fun k22 _ => ?_)
      obtain ⟨a22, m22, c22⟩ := k22
      refine Ent.lenow m0 fun e22 l22 => ?_
      subst e22
      refine E.y rfl rfl (by decide) ((Y.as rfl).yd) ?_
      refine E.nil (E.thn (E.ret (Ent.cv (congrArg (ow eFacts [_]) (show _ = addF l (f_Rel, f_Values) by grind [addF_has, addF_ins])) ?_)))
      exact F.r1 (Back.refl _ _) rfl rfl (_, _, _) trivial rfl (J := _) (.refl _) (.inl rfl)
    · refine E.nil (E.thn (E.cf rfl (E.skipc (E.thn (E.seq (E.region (l := [0, 1, 2, 3, 4, 5, 6]) rfl (E.y rfl rfl (by decide) ((Y.mv rfl).yd) ?_)))))))
      refine E.y rfl rfl (by decide) ((Y.mv rfl).yd) ?_
      refine E.y rfl rfl (by decide) (Y.ldS (cs := [_, _]) ty_Fact rfl (Has.pt m0) rfl) ?_
      refine E.st rfl rfl (N.call (t_impl_copyFact (by first | omega | assumption | (constructor <;> omega))) rfl rfl rfl (by decide) rfl (fun w Lp hA => ⟨i6f_Rel, hA.ro hf_Values⟩)) (fun k20 _ => ?_)
      obtain ⟨a20, m20, c20⟩ := k20
      refine Ent.lenow m0 fun e20 l20 => ?_
      subst e20
      refine E.st rfl rfl (N.bsl (pvs := [_]) (cs := [_, _]) us_Facts ty_Fact rfl (by decide) (by decide) (fillZ rfl rfl) rfl (by decide)) (fun b21 _ => ?_)
      refine Ent.p1 ?_
      refine Ent.p1 ?_
      refine Ent.mkow (A := _ :: _) (Own.row1 (E := eFact) (e := tFact) (Own.mkFact (x := (f_Rel, f_Values)) i6f_Rel Own.ow)) rfl ?_
      have ji := idx_range (p := fun z => decide (0 < cmpF z (f_Rel, f_Values))) (s := l)
      refine Ent.p2 ?_
      refine E.st rfl rfl (N.call (pre := [_, _]) (t_Insert_Fact (by omega) (by simp) (by simp; omega)) rfl rfl rfl (by decide) rfl (fun w Lp hA => trivial)) (fun k22 _ => ?_)
      obtain ⟨a22, m22, c22⟩ := k22
      refine Ent.lenow m0 fun e22 l22 => ?_
      subst e22
      refine E.y rfl rfl (by decide) ((Y.as rfl).yd) ?_
      refine E.nil (E.thn (E.ret (Ent.cv (congrArg (ow eFacts [_]) (show _ = addF l (f_Rel, f_Values) by grind [addF_has, addF_ins])) ?_)))
      exact F.r1 (Back.refl _ _) rfl rfl (_, _, _) trivial rfl (J := _) (.refl _) (.inl rfl)
theorem t_spec_AddFact {a_l : Option Addr} {m_l c_l : Nat} {l : List (Int × List Int)} {f_Rel : Int} {a_f_Values : Option Addr} {m_f_Values c_f_Values : Nat} {f_Values : List Int} (hz : l.length ≤ 1000000000) (hyl : ∀ x ∈ l, x.2.length ≤ 1048576) (hyf : f_Values.length ≤ 1048576) : Tr Tryz.prog 75 [.slice a_l m_l c_l, .agg #[.int .i64 f_Rel, .slice a_f_Values m_f_Values c_f_Values]] (fun w L => Ro w L eFacts [.slice a_l m_l c_l] l ∧ I64 f_Rel ∧ Ro w L eIs [.slice a_f_Values m_f_Values c_f_Values] f_Values) [] (κ := Option Addr × Nat × Nat) (fun k => True) (fun k => .slice k.1 k.2.1 k.2.2) (fun k => [ow eFacts [.slice k.1 k.2.1 k.2.2] (addF l (f_Rel, f_Values))]) := by
  refine Tr.intro Tryz.func75 rfl (n := 62) rfl (by decide +kernel) (Nat.le_of_ble_eq_true rfl) (fr := [(0, .slice a_l m_l c_l), (1, .agg #[.int .i64 f_Rel, .slice a_f_Values m_f_Values c_f_Values])]) rfl fun w L hR => ?_
  obtain ⟨hl, i6f_Rel, hf_Values⟩ := hR
  obtain ⟨rfl, ll⟩ := hl.slen
  obtain ⟨rfl, lf_Values⟩ := hf_Values.slen
  refine E.seq (E.region (l := [0, 1]) rfl (E.st rfl rfl (N.box (cs := [_, _]) rfl (by decide) rfl) (fun b3 _ => ?_)))
  refine E.y rfl rfl (by decide) ((Y.as rfl).yd) ?_
  refine E.nil (E.thn (E.seq (E.region (l := [0, 1]) rfl (E.st rfl rfl (N.bsl (pvs := []) (cs := []) us_Facts ty_Fact rfl (by decide) (by decide) (fillZ rfl rfl) rfl (by decide)) (fun b8 _ => ?_)))))
  refine Ent.drop ?_
  refine E.y rfl rfl (by decide) ((Y.as rfl).yd) ?_
  refine E.nil (E.thn (E.seq (E.region (l := [0, 1, 2, 3]) rfl (E.y rfl rfl (by decide) ((Y.mv rfl).yd) ?_))))
  refine E.y rfl rfl (by decide) (Y.ldS (cs := [_, _]) ty_Fact rfl (Has.pt m0) rfl) ?_
  refine E.st rfl rfl (N.call0 t_spec_HasFact rfl rfl rfl (by decide) (fun w Lp hA => ⟨hA.ro hl, i6f_Rel, hA.ro hf_Values⟩)) (fun _ _ => ?_)
  refine E.y rfl rfl (by decide) ((Y.as rfl).yd) (Ent.b (fun q6 => ?_) (fun q6 => ?_))
  · refine E.nil (E.thn (E.seq (E.seq (E.region (l := [0]) rfl (E.y rfl rfl (by decide) ((Y.as rfl).yd) ?_)))))
    refine E.nil (E.thn (E.block (Ent.mkow (A := []) (Own.nil (E := eFact) (e := tFact) (a := (some ⟨b8, 0, none⟩))) rfl ?_)))
    refine Ent.cv (congrArg (ow eFacts [_]) (show [] = addS (hasF l (f_Rel, f_Values)) (ltF (f_Rel, f_Values)) (f_Rel, f_Values) (l.take 0) from by first | rfl | (simp; done) | grind [addF, addP_addS, addS_snoc, addS_nil, any_take, ltF_eq, List.drop_eq_getElem_cons, List.drop_eq_nil_of_le, List.take_succ_eq_append_getElem, List.take_of_length_le])) ?_
    refine E.loop (κ := Nat × Option Addr × Nat × Nat) (fun g => g.1 ≤ l.length ∧ True) (fun g => [(0, .slice a_l l.length c_l), (3, .pointer (some ⟨b3, 0, none⟩)), (5, .slice g.2.1 g.2.2.1 g.2.2.2), (6, .bool (hasF l (f_Rel, f_Values) || (l.take g.1).any (ltF (f_Rel, f_Values)))), (7, .int .i64 (↑g.1 : Int))]) (fun g => [ow eFacts [.slice g.2.1 g.2.2.1 g.2.2.2] (addS (hasF l (f_Rel, f_Values)) (ltF (f_Rel, f_Values)) (f_Rel, f_Values) (l.take g.1)), pt b3 44 [.int .i64 f_Rel, .slice a_f_Values f_Values.length c_f_Values]]) (fun g => l.length - g.1) (0, (some ⟨b8, 0, none⟩), 0, 0) ⟨Nat.zero_le _, by simp⟩ ⟨rfl, rfl, rfl, frB (by first | rfl | (simp; done) | grind [addF, addP_addS, addS_snoc, addS_nil, any_take, ltF_eq, List.drop_eq_getElem_cons, List.drop_eq_nil_of_le, List.take_succ_eq_append_getElem, List.take_of_length_le]), rfl, trivial⟩ (.refl _) (fun g pg => ?_)
    obtain ⟨g, aA0_0, mA0_0, cA0_0⟩ := g
    try dsimp only at pg
    show Ent _ _ _ [(0, .slice a_l l.length c_l), (3, .pointer (some ⟨b3, 0, none⟩)), (5, .slice aA0_0 mA0_0 cA0_0), (6, .bool (hasF l (f_Rel, f_Values) || (l.take g).any (ltF (f_Rel, f_Values)))), (7, .int .i64 (↑g : Int))] [ow eFacts [.slice aA0_0 mA0_0 cA0_0] (addS (hasF l (f_Rel, f_Values)) (ltF (f_Rel, f_Values)) (f_Rel, f_Values) (l.take g)), pt b3 44 [.int .i64 f_Rel, .slice a_f_Values f_Values.length c_f_Values]] _
    obtain ⟨pk, pa⟩ := pg
    have jp := List.length_take_le g l
    have ji := addS_len (h := hasF l (f_Rel, f_Values)) (p := (ltF (f_Rel, f_Values))) (f := (f_Rel, f_Values)) (l := l.take g)
    refine Ent.lenow m0 fun eaA0_0 laA0_0 => ?_
    subst eaA0_0
    refine E.seq (E.seq (E.region (l := [0, 1, 2, 3]) rfl (E.y rfl rfl (by decide) ((Y.mv rfl).yd) ?_)))
    refine E.y rfl rfl (by decide) ((Y.mv rfl).yd) ?_
    refine E.y rfl rfl (by decide) ((Y.len us_Facts rfl).yd) ?_
    refine E.y rfl rfl (by decide) ((Y.lss rfl rfl).yd) (Ent.d (fun q15 => ?_) (fun q15 => ?_))
    · refine E.nil (E.thn (E.ct rfl (E.skipc (E.thn (E.seq (E.block (E.seq (E.seq (D.region (fun j => true) mixed (D.yp 0 rfl rfl (by decide) (Y.mv rfl) (by kernel_rfl) (Ent.b (fun q18 => ?_) (fun q18 => ?_))))))))))))
      · refine D.yp 1 rfl rfl (by decide) (Y.not (b := true) rfl) (by kernel_rfl) ?_
        refine D.yp 2 rfl rfl (by decide) (Y.mv rfl) (by kernel_rfl) ?_
        refine D.skip 3 rfl rfl (by kernel_rfl) rfl ?_
        refine D.skip 4 rfl rfl (by kernel_rfl) rfl ?_
        refine D.skip 5 rfl rfl (by kernel_rfl) rfl ?_
        refine D.skip 6 rfl rfl (by kernel_rfl) rfl ?_
        refine D.skip 7 rfl rfl (by kernel_rfl) rfl ?_
        refine D.skip 8 rfl rfl (by kernel_rfl) rfl ?_
        refine D.skip 9 rfl rfl (by kernel_rfl) rfl ?_
        refine D.yp 10 rfl rfl (by decide) (Y.pkf rfl rfl) (by kernel_rfl) ?_
        refine D.done (by kernel_rfl) (E.thn (E.cf rfl (E.skipc (E.thn (D.region (fun j => !(Nat.beq j 13)) mixed (D.yp 0 rfl rfl (by decide) (Y.mv rfl) (by kernel_rfl) ?_))))))
        refine D.yp 1 rfl rfl (by decide) (Y.mv rfl) (by kernel_rfl) ?_
        refine D.yp 2 rfl rfl (by decide) (Y.mv rfl) (by kernel_rfl) ?_
        obtain ⟨eb40, eo40, ec40, ea40, er40, el40, eh40⟩ := hl.elem g (by omega)
        obtain ⟨xa40_0, xc40_0, rfl, ei40_0, xh40_0⟩ := Ro.pFact er40
        have := xh40_0.slen.2
        refine D.yp 3 rfl rfl (by decide) (Y.ix us_Facts ty_Fact rfl ea40 rfl g rfl (by omega)) (by kernel_rfl) ?_
        refine D.yp 4 rfl rfl (by decide) (Y.fld fo_Fact_0 ty_I (by decide) rfl) (by kernel_rfl) ?_
        refine D.y 5 rfl rfl (by decide) (Y.ld1 ty_I rfl ((eh40 _).sub (cs' := [_]) 0 rfl) rfl) (by kernel_rfl) ?_
        refine D.yp 6 rfl rfl (by decide) (Y.mv rfl) (by kernel_rfl) ?_
        refine D.yp 7 rfl rfl (by decide) (Y.mv rfl) (by kernel_rfl) ?_
        refine D.yp 8 rfl rfl (by decide) (Y.ix us_Facts ty_Fact rfl ea40 rfl g rfl (by omega)) (by kernel_rfl) ?_
        refine D.yp 9 rfl rfl (by decide) (Y.fld fo_Fact_1 ty_Is (by decide) rfl) (by kernel_rfl) ?_
        refine D.y 10 rfl rfl (by decide) (Y.ld1 ty_Is rfl ((eh40 _).sub (cs' := [_]) 1 rfl) rfl) (by kernel_rfl) ?_
        refine D.st 11 rfl rfl (by kernel_rfl) (fun _ => rfl) (N.call (t_spec_l2One (hyl _ (List.getElem_mem (by omega)))) rfl rfl rfl (by decide) rfl (fun w Lp hA => ⟨ei40_0, hA.ro xh40_0⟩)) (fun k48 _ => ?_)
        obtain ⟨a48, m48, c48⟩ := k48
        refine Ent.lenow m0 fun e48 l48 => ?_
        subst e48
        refine D.st 12 rfl rfl (by kernel_rfl) (fun _ => rfl) (N.bsl (pvs := [_]) (cs := [_, _]) us_Facts ty_Fact rfl (by decide) (by decide) (fillZ rfl rfl) rfl (by decide)) (fun b49 _ => ?_)
        refine Ent.p1 ?_
        refine Ent.p1 ?_
        refine Ent.p2 ?_
        refine D.st 13 rfl rfl (by kernel_rfl) (fun h => by cases h) (N.push (E := eFact) (ex := l[g]) us_Facts ty_Fact rfl rfl rfl (Own.mkFact (x := l[g]) ei40_0 Own.ow) rfl (by first | omega | (simp only [List.length_map, List.length_take, List.length_append, List.length_drop, List.length_cons, List.length_nil]; omega)) (by first | omega | (simp only [List.length_map, List.length_take, List.length_append, List.length_drop, List.length_cons, List.length_nil]; omega)) (by decide)) (fun p50 _ => ?_)
        refine D.yp 14 rfl rfl (by decide) (Y.as rfl) (by kernel_rfl) ?_
        refine D.done (by kernel_rfl) (E.bln (E.thn (E.region (l := [0, 1, 2]) rfl (E.y rfl rfl (by decide) ((Y.mv rfl).yd) ?_))))
        refine E.y rfl rfl (by decide) ((Y.add rfl rfl (by omega) (by omega)).yd) ?_
        refine E.y rfl rfl (by decide) ((Y.as rfl).yd) ?_
        refine E.nil (E.thn (Ent.cv (congrArg (ow eFacts [_]) (show (addS (hasF l (f_Rel, f_Values)) (ltF (f_Rel, f_Values)) (f_Rel, f_Values) (l.take g)) ++ [l[g]] = addS (hasF l (f_Rel, f_Values)) (ltF (f_Rel, f_Values)) (f_Rel, f_Values) (l.take (g + 1)) from by grind [addF, addP_addS, addS_snoc, addS_nil, any_take, ltF_eq, List.drop_eq_getElem_cons, List.drop_eq_nil_of_le, List.take_succ_eq_append_getElem, List.take_of_length_le])) ?_))
        refine Ent.p1 ?_
        refine Ent.p1 ?_
        exact E.again (Back.refl _ _) (g + 1, p50.1, ((addS (hasF l (f_Rel, f_Values)) (ltF (f_Rel, f_Values)) (f_Rel, f_Values) (l.take g)).length + 1), p50.2) ⟨rfl, rfl, rfl, frB (by grind [addF, addP_addS, addS_snoc, addS_nil, any_take, ltF_eq, List.drop_eq_getElem_cons, List.drop_eq_nil_of_le, List.take_succ_eq_append_getElem, List.take_of_length_le]), rfl, trivial⟩ (.refl _) ⟨(show g + 1 ≤ l.length from by omega), (show True from by grind [List.drop_eq_getElem_cons, List.drop_eq_nil_of_le, List.take_succ_eq_append_getElem, List.take_of_length_le])⟩ (show l.length - (g + 1) < l.length - g from by omega)
      · refine D.yp 1 rfl rfl (by decide) (Y.not (b := false) rfl) (by kernel_rfl) ?_
        refine D.yp 2 rfl rfl (by decide) (Y.mv rfl) (by kernel_rfl) ?_
        refine D.y 3 rfl rfl (by decide) (Y.ldS (cs := [_, _]) ty_Fact rfl (Has.pt (mS m0)) rfl) (by kernel_rfl) ?_
        refine D.yp 4 rfl rfl (by decide) (Y.mv rfl) (by kernel_rfl) ?_
        refine D.yp 5 rfl rfl (by decide) (Y.mv rfl) (by kernel_rfl) ?_
        obtain ⟨eb24, eo24, ec24, ea24, er24, el24, eh24⟩ := hl.elem g (by omega)
        obtain ⟨xa24_0, xc24_0, rfl, ei24_0, xh24_0⟩ := Ro.pFact er24
        have := xh24_0.slen.2
        refine D.yp 6 rfl rfl (by decide) (Y.ix us_Facts ty_Fact rfl ea24 rfl g rfl (by omega)) (by kernel_rfl) ?_
        refine D.y 7 rfl rfl (by decide) (Y.ldS (cs := [_, _]) ty_Fact rfl (eh24 _) rfl) (by kernel_rfl) ?_
        refine D.st 8 rfl rfl (by kernel_rfl) (fun _ => rfl) (N.call0 t_spec_CompareFacts rfl rfl rfl (by decide) (fun w Lp hA => ⟨i6f_Rel, hA.ro hf_Values, ei24_0, hA.ro xh24_0⟩)) (fun _ _ => ?_)
        refine D.yp 9 rfl rfl (by decide) (Y.lss rfl rfl) (by kernel_rfl) (Ent.d (fun q27 => ?_) (fun q27 => ?_))
        · refine D.yp 10 rfl rfl (by decide) (Y.pkt rfl rfl) (by kernel_rfl) ?_
          refine D.done (by kernel_rfl) (E.thn (E.ct rfl (E.seq (E.region (l := [0, 1, 2, 3, 4, 5, 6, 7, 8]) rfl (E.y rfl rfl (by decide) ((Y.mv rfl).yd) ?_)))))
          refine E.y rfl rfl (by decide) ((Y.fld fo_Fact_0 ty_I (by decide) rfl).yd) ?_
          refine E.y rfl rfl (by decide) (Y.ld1 ty_I rfl ((Has.pt (mS m0)).sub (cs' := [_]) 0 rfl) rfl) ?_
          refine E.y rfl rfl (by decide) ((Y.fld fo_Fact_1 ty_Is (by decide) rfl).yd) ?_
          refine E.y rfl rfl (by decide) (Y.ld1 ty_Is rfl ((Has.pt (mS m0)).sub (cs' := [_]) 1 rfl) rfl) ?_
          refine E.st rfl rfl (N.call (t_spec_l2One (by first | omega | assumption | (constructor <;> omega))) rfl rfl rfl (by decide) rfl (fun w Lp hA => ⟨i6f_Rel, hA.ro hf_Values⟩)) (fun k34 _ => ?_)
          obtain ⟨a34, m34, c34⟩ := k34
          refine Ent.lenow m0 fun e34 l34 => ?_
          subst e34
          refine E.st rfl rfl (N.bsl (pvs := [_]) (cs := [_, _]) us_Facts ty_Fact rfl (by decide) (by decide) (fillZ rfl rfl) rfl (by decide)) (fun b35 _ => ?_)
          refine Ent.p1 ?_
          refine Ent.p1 ?_
          refine Ent.p2 ?_
          refine E.st rfl rfl (N.push (E := eFact) (ex := (f_Rel, f_Values)) us_Facts ty_Fact rfl rfl rfl (Own.mkFact (x := (f_Rel, f_Values)) i6f_Rel Own.ow) rfl (by first | omega | (simp only [List.length_map, List.length_take, List.length_append, List.length_drop, List.length_cons, List.length_nil]; omega)) (by first | omega | (simp only [List.length_map, List.length_take, List.length_append, List.length_drop, List.length_cons, List.length_nil]; omega)) (by decide)) (fun p36 _ => ?_)
          refine E.y rfl rfl (by decide) ((Y.as rfl).yd) ?_
          refine E.nil (E.thn (E.region (l := [0]) rfl (E.y rfl rfl (by decide) ((Y.as rfl).yd) ?_)))
          refine E.nil (E.thn (D.region (fun j => !(Nat.beq j 13)) mixed (D.yp 0 rfl rfl (by decide) (Y.mv rfl) (by kernel_rfl) ?_)))
          refine D.yp 1 rfl rfl (by decide) (Y.mv rfl) (by kernel_rfl) ?_
          refine D.yp 2 rfl rfl (by decide) (Y.mv rfl) (by kernel_rfl) ?_
          refine D.yp 3 rfl rfl (by decide) (Y.ix us_Facts ty_Fact rfl ea24 rfl g rfl (by omega)) (by kernel_rfl) ?_
          refine D.yp 4 rfl rfl (by decide) (Y.fld fo_Fact_0 ty_I (by decide) rfl) (by kernel_rfl) ?_
          refine D.y 5 rfl rfl (by decide) (Y.ld1 ty_I rfl ((eh24 _).sub (cs' := [_]) 0 rfl) rfl) (by kernel_rfl) ?_
          refine D.yp 6 rfl rfl (by decide) (Y.mv rfl) (by kernel_rfl) ?_
          refine D.yp 7 rfl rfl (by decide) (Y.mv rfl) (by kernel_rfl) ?_
          refine D.yp 8 rfl rfl (by decide) (Y.ix us_Facts ty_Fact rfl ea24 rfl g rfl (by omega)) (by kernel_rfl) ?_
          refine D.yp 9 rfl rfl (by decide) (Y.fld fo_Fact_1 ty_Is (by decide) rfl) (by kernel_rfl) ?_
          refine D.y 10 rfl rfl (by decide) (Y.ld1 ty_Is rfl ((eh24 _).sub (cs' := [_]) 1 rfl) rfl) (by kernel_rfl) ?_
          refine D.st 11 rfl rfl (by kernel_rfl) (fun _ => rfl) (N.call (t_spec_l2One (hyl _ (List.getElem_mem (by omega)))) rfl rfl rfl (by decide) rfl (fun w Lp hA => ⟨ei24_0, hA.ro xh24_0⟩)) (fun k48 _ => ?_)
          obtain ⟨a48, m48, c48⟩ := k48
          refine Ent.lenow m0 fun e48 l48 => ?_
          subst e48
          refine D.st 12 rfl rfl (by kernel_rfl) (fun _ => rfl) (N.bsl (pvs := [_]) (cs := [_, _]) us_Facts ty_Fact rfl (by decide) (by decide) (fillZ rfl rfl) rfl (by decide)) (fun b49 _ => ?_)
          refine Ent.p1 ?_
          refine Ent.p1 ?_
          refine Ent.p2 ?_
          refine D.st 13 rfl rfl (by kernel_rfl) (fun h => by cases h) (N.push (E := eFact) (ex := l[g]) us_Facts ty_Fact rfl rfl rfl (Own.mkFact (x := l[g]) ei24_0 Own.ow) rfl (by first | omega | (simp only [List.length_map, List.length_take, List.length_append, List.length_drop, List.length_cons, List.length_nil]; omega)) (by first | omega | (simp only [List.length_map, List.length_take, List.length_append, List.length_drop, List.length_cons, List.length_nil]; omega)) (by decide)) (fun p50 _ => ?_)
          refine D.yp 14 rfl rfl (by decide) (Y.as rfl) (by kernel_rfl) ?_
          refine D.done (by kernel_rfl) (E.bln (E.thn (E.region (l := [0, 1, 2]) rfl (E.y rfl rfl (by decide) ((Y.mv rfl).yd) ?_))))
          refine E.y rfl rfl (by decide) ((Y.add rfl rfl (by omega) (by omega)).yd) ?_
          refine E.y rfl rfl (by decide) ((Y.as rfl).yd) ?_
          refine E.nil (E.thn (Ent.cv (congrArg (ow eFacts [_]) (show ((addS (hasF l (f_Rel, f_Values)) (ltF (f_Rel, f_Values)) (f_Rel, f_Values) (l.take g)) ++ [(f_Rel, f_Values)]) ++ [l[g]] = addS (hasF l (f_Rel, f_Values)) (ltF (f_Rel, f_Values)) (f_Rel, f_Values) (l.take (g + 1)) from by grind [addF, addP_addS, addS_snoc, addS_nil, any_take, ltF_eq, List.drop_eq_getElem_cons, List.drop_eq_nil_of_le, List.take_succ_eq_append_getElem, List.take_of_length_le])) ?_))
          refine Ent.p1 ?_
          refine Ent.p1 ?_
          exact E.again (Back.refl _ _) (g + 1, p50.1, (((addS (hasF l (f_Rel, f_Values)) (ltF (f_Rel, f_Values)) (f_Rel, f_Values) (l.take g)).length + 1) + 1), p50.2) ⟨rfl, rfl, rfl, frB (by grind [addF, addP_addS, addS_snoc, addS_nil, any_take, ltF_eq, List.drop_eq_getElem_cons, List.drop_eq_nil_of_le, List.take_succ_eq_append_getElem, List.take_of_length_le]), rfl, trivial⟩ (.refl _) ⟨(show g + 1 ≤ l.length from by omega), (show True from by grind [List.drop_eq_getElem_cons, List.drop_eq_nil_of_le, List.take_succ_eq_append_getElem, List.take_of_length_le])⟩ (show l.length - (g + 1) < l.length - g from by omega)
        · refine D.yp 10 rfl rfl (by decide) (Y.pkt rfl rfl) (by kernel_rfl) ?_
          refine D.done (by kernel_rfl) (E.thn (E.cf rfl (E.skipc (E.thn (D.region (fun j => !(Nat.beq j 13)) mixed (D.yp 0 rfl rfl (by decide) (Y.mv rfl) (by kernel_rfl) ?_))))))
          refine D.yp 1 rfl rfl (by decide) (Y.mv rfl) (by kernel_rfl) ?_
          refine D.yp 2 rfl rfl (by decide) (Y.mv rfl) (by kernel_rfl) ?_
          refine D.yp 3 rfl rfl (by decide) (Y.ix us_Facts ty_Fact rfl ea24 rfl g rfl (by omega)) (by kernel_rfl) ?_
          refine D.yp 4 rfl rfl (by decide) (Y.fld fo_Fact_0 ty_I (by decide) rfl) (by kernel_rfl) ?_
          refine D.y 5 rfl rfl (by decide) (Y.ld1 ty_I rfl ((eh24 _).sub (cs' := [_]) 0 rfl) rfl) (by kernel_rfl) ?_
          refine D.yp 6 rfl rfl (by decide) (Y.mv rfl) (by kernel_rfl) ?_
          refine D.yp 7 rfl rfl (by decide) (Y.mv rfl) (by kernel_rfl) ?_
          refine D.yp 8 rfl rfl (by decide) (Y.ix us_Facts ty_Fact rfl ea24 rfl g rfl (by omega)) (by kernel_rfl) ?_
          refine D.yp 9 rfl rfl (by decide) (Y.fld fo_Fact_1 ty_Is (by decide) rfl) (by kernel_rfl) ?_
          refine D.y 10 rfl rfl (by decide) (Y.ld1 ty_Is rfl ((eh24 _).sub (cs' := [_]) 1 rfl) rfl) (by kernel_rfl) ?_
          refine D.st 11 rfl rfl (by kernel_rfl) (fun _ => rfl) (N.call (t_spec_l2One (hyl _ (List.getElem_mem (by omega)))) rfl rfl rfl (by decide) rfl (fun w Lp hA => ⟨ei24_0, hA.ro xh24_0⟩)) (fun k48 _ => ?_)
          obtain ⟨a48, m48, c48⟩ := k48
          refine Ent.lenow m0 fun e48 l48 => ?_
          subst e48
          refine D.st 12 rfl rfl (by kernel_rfl) (fun _ => rfl) (N.bsl (pvs := [_]) (cs := [_, _]) us_Facts ty_Fact rfl (by decide) (by decide) (fillZ rfl rfl) rfl (by decide)) (fun b49 _ => ?_)
          refine Ent.p1 ?_
          refine Ent.p1 ?_
          refine Ent.p2 ?_
          refine D.st 13 rfl rfl (by kernel_rfl) (fun h => by cases h) (N.push (E := eFact) (ex := l[g]) us_Facts ty_Fact rfl rfl rfl (Own.mkFact (x := l[g]) ei24_0 Own.ow) rfl (by first | omega | (simp only [List.length_map, List.length_take, List.length_append, List.length_drop, List.length_cons, List.length_nil]; omega)) (by first | omega | (simp only [List.length_map, List.length_take, List.length_append, List.length_drop, List.length_cons, List.length_nil]; omega)) (by decide)) (fun p50 _ => ?_)
          refine D.yp 14 rfl rfl (by decide) (Y.as rfl) (by kernel_rfl) ?_
          refine D.done (by kernel_rfl) (E.bln (E.thn (E.region (l := [0, 1, 2]) rfl (E.y rfl rfl (by decide) ((Y.mv rfl).yd) ?_))))
          refine E.y rfl rfl (by decide) ((Y.add rfl rfl (by omega) (by omega)).yd) ?_
          refine E.y rfl rfl (by decide) ((Y.as rfl).yd) ?_
          refine E.nil (E.thn (Ent.cv (congrArg (ow eFacts [_]) (show (addS (hasF l (f_Rel, f_Values)) (ltF (f_Rel, f_Values)) (f_Rel, f_Values) (l.take g)) ++ [l[g]] = addS (hasF l (f_Rel, f_Values)) (ltF (f_Rel, f_Values)) (f_Rel, f_Values) (l.take (g + 1)) from by grind [addF, addP_addS, addS_snoc, addS_nil, any_take, ltF_eq, List.drop_eq_getElem_cons, List.drop_eq_nil_of_le, List.take_succ_eq_append_getElem, List.take_of_length_le])) ?_))
          refine Ent.p1 ?_
          refine Ent.p1 ?_
          exact E.again (Back.refl _ _) (g + 1, p50.1, ((addS (hasF l (f_Rel, f_Values)) (ltF (f_Rel, f_Values)) (f_Rel, f_Values) (l.take g)).length + 1), p50.2) ⟨rfl, rfl, rfl, frB (by grind [addF, addP_addS, addS_snoc, addS_nil, any_take, ltF_eq, List.drop_eq_getElem_cons, List.drop_eq_nil_of_le, List.take_succ_eq_append_getElem, List.take_of_length_le]), rfl, trivial⟩ (.refl _) ⟨(show g + 1 ≤ l.length from by omega), (show True from by grind [List.drop_eq_getElem_cons, List.drop_eq_nil_of_le, List.take_succ_eq_append_getElem, List.take_of_length_le])⟩ (show l.length - (g + 1) < l.length - g from by omega)
    · refine E.nil (E.thn (E.cf rfl (E.exit (E.the (E.the (E.blh (E.thn (E.seq (E.seq (E.region (l := [0, 1]) rfl (E.y rfl rfl (by decide) ((Y.mv rfl).yd) (Ent.b (fun q51 => ?_) (fun q51 => ?_)))))))))))))
      · refine E.y rfl rfl (by decide) ((Y.not (b := true) rfl).yd) ?_
        refine E.nil (E.thn (E.cf rfl (E.skipc (E.thn (E.seq (E.region (l := [0, 1]) rfl (E.y rfl rfl (by decide) ((Y.mv rfl).yd) ?_)))))))
        refine E.y rfl rfl (by decide) ((Y.as rfl).yd) ?_
        refine E.nil (E.thn (E.ret (Ent.cv (congrArg (ow eFacts [_]) (show _ = addF l (f_Rel, f_Values) by grind [addF, addP_addS, addS_snoc, addS_nil, any_take, ltF_eq, List.drop_eq_getElem_cons, List.drop_eq_nil_of_le, List.take_succ_eq_append_getElem, List.take_of_length_le])) ?_)))
        exact F.r1 (Back.refl _ _) rfl rfl (_, _, _) trivial rfl (J := _) (.refl _) (.inl rfl)
      · refine E.y rfl rfl (by decide) ((Y.not (b := false) rfl).yd) ?_
        refine E.nil (E.thn (E.ct rfl (E.region (l := [0, 1, 2, 3, 4, 5, 6, 7, 8]) rfl (E.y rfl rfl (by decide) ((Y.mv rfl).yd) ?_))))
        refine E.y rfl rfl (by decide) ((Y.fld fo_Fact_0 ty_I (by decide) rfl).yd) ?_
        refine E.y rfl rfl (by decide) (Y.ld1 ty_I rfl ((Has.pt (mS m0)).sub (cs' := [_]) 0 rfl) rfl) ?_
        refine E.y rfl rfl (by decide) ((Y.fld fo_Fact_1 ty_Is (by decide) rfl).yd) ?_
        refine E.y rfl rfl (by decide) (Y.ld1 ty_Is rfl ((Has.pt (mS m0)).sub (cs' := [_]) 1 rfl) rfl) ?_
        refine E.st rfl rfl (N.call (t_spec_l2One (by first | omega | assumption | (constructor <;> omega))) rfl rfl rfl (by decide) rfl (fun w Lp hA => ⟨i6f_Rel, hA.ro hf_Values⟩)) (fun k58 _ => ?_)
        obtain ⟨a58, m58, c58⟩ := k58
        refine Ent.lenow m0 fun e58 l58 => ?_
        subst e58
        refine E.st rfl rfl (N.bsl (pvs := [_]) (cs := [_, _]) us_Facts ty_Fact rfl (by decide) (by decide) (fillZ rfl rfl) rfl (by decide)) (fun b59 _ => ?_)
        refine Ent.p1 ?_
        refine Ent.p1 ?_
        refine Ent.p2 ?_
        refine E.st rfl rfl (N.push (E := eFact) (ex := (f_Rel, f_Values)) us_Facts ty_Fact rfl rfl rfl (Own.mkFact (x := (f_Rel, f_Values)) i6f_Rel Own.ow) rfl (by first | omega | (simp only [List.length_map, List.length_take, List.length_append, List.length_drop, List.length_cons, List.length_nil]; omega)) (by first | omega | (simp only [List.length_map, List.length_take, List.length_append, List.length_drop, List.length_cons, List.length_nil]; omega)) (by decide)) (fun p60 _ => ?_)
        refine E.y rfl rfl (by decide) ((Y.as rfl).yd) ?_
        refine E.nil (E.thn (E.seq (E.region (l := [0, 1]) rfl (E.y rfl rfl (by decide) ((Y.mv rfl).yd) ?_))))
        refine E.y rfl rfl (by decide) ((Y.as rfl).yd) ?_
        refine E.nil (E.thn (E.ret (Ent.cv (congrArg (ow eFacts [_]) (show _ = addF l (f_Rel, f_Values) by grind [addF, addP_addS, addS_snoc, addS_nil, any_take, ltF_eq, List.drop_eq_getElem_cons, List.drop_eq_nil_of_le, List.take_succ_eq_append_getElem, List.take_of_length_le])) ?_)))
        exact F.r1 (Back.refl _ _) rfl rfl (_, _, _) trivial rfl (J := _) (.refl _) (.inl rfl)
  · refine E.nil (E.thn (E.seq (E.seq (E.region (l := [0]) rfl (E.y rfl rfl (by decide) ((Y.as rfl).yd) ?_)))))
    refine E.nil (E.thn (E.block (Ent.mkow (A := []) (Own.nil (E := eFact) (e := tFact) (a := (some ⟨b8, 0, none⟩))) rfl ?_)))
    refine Ent.cv (congrArg (ow eFacts [_]) (show [] = addS (hasF l (f_Rel, f_Values)) (ltF (f_Rel, f_Values)) (f_Rel, f_Values) (l.take 0) from by first | rfl | (simp; done) | grind [addF, addP_addS, addS_snoc, addS_nil, any_take, ltF_eq, List.drop_eq_getElem_cons, List.drop_eq_nil_of_le, List.take_succ_eq_append_getElem, List.take_of_length_le])) ?_
    refine E.loop (κ := Nat × Option Addr × Nat × Nat) (fun g => g.1 ≤ l.length ∧ True) (fun g => [(0, .slice a_l l.length c_l), (3, .pointer (some ⟨b3, 0, none⟩)), (5, .slice g.2.1 g.2.2.1 g.2.2.2), (6, .bool (hasF l (f_Rel, f_Values) || (l.take g.1).any (ltF (f_Rel, f_Values)))), (7, .int .i64 (↑g.1 : Int))]) (fun g => [ow eFacts [.slice g.2.1 g.2.2.1 g.2.2.2] (addS (hasF l (f_Rel, f_Values)) (ltF (f_Rel, f_Values)) (f_Rel, f_Values) (l.take g.1)), pt b3 44 [.int .i64 f_Rel, .slice a_f_Values f_Values.length c_f_Values]]) (fun g => l.length - g.1) (0, (some ⟨b8, 0, none⟩), 0, 0) ⟨Nat.zero_le _, by simp⟩ ⟨rfl, rfl, rfl, frB (by first | rfl | (simp; done) | grind [addF, addP_addS, addS_snoc, addS_nil, any_take, ltF_eq, List.drop_eq_getElem_cons, List.drop_eq_nil_of_le, List.take_succ_eq_append_getElem, List.take_of_length_le]), rfl, trivial⟩ (.refl _) (fun g pg => ?_)
    obtain ⟨g, aA0_0, mA0_0, cA0_0⟩ := g
    try dsimp only at pg
    show Ent _ _ _ [(0, .slice a_l l.length c_l), (3, .pointer (some ⟨b3, 0, none⟩)), (5, .slice aA0_0 mA0_0 cA0_0), (6, .bool (hasF l (f_Rel, f_Values) || (l.take g).any (ltF (f_Rel, f_Values)))), (7, .int .i64 (↑g : Int))] [ow eFacts [.slice aA0_0 mA0_0 cA0_0] (addS (hasF l (f_Rel, f_Values)) (ltF (f_Rel, f_Values)) (f_Rel, f_Values) (l.take g)), pt b3 44 [.int .i64 f_Rel, .slice a_f_Values f_Values.length c_f_Values]] _
    obtain ⟨pk, pa⟩ := pg
    have jp := List.length_take_le g l
    have ji := addS_len (h := hasF l (f_Rel, f_Values)) (p := (ltF (f_Rel, f_Values))) (f := (f_Rel, f_Values)) (l := l.take g)
    refine Ent.lenow m0 fun eaA0_0 laA0_0 => ?_
    subst eaA0_0
    refine E.seq (E.seq (E.region (l := [0, 1, 2, 3]) rfl (E.y rfl rfl (by decide) ((Y.mv rfl).yd) ?_)))
    refine E.y rfl rfl (by decide) ((Y.mv rfl).yd) ?_
    refine E.y rfl rfl (by decide) ((Y.len us_Facts rfl).yd) ?_
    refine E.y rfl rfl (by decide) ((Y.lss rfl rfl).yd) (Ent.d (fun q15 => ?_) (fun q15 => ?_))
    · refine E.nil (E.thn (E.ct rfl (E.skipc (E.thn (E.seq (E.block (E.seq (E.seq (D.region (fun j => true) mixed (D.yp 0 rfl rfl (by decide) (Y.mv rfl) (by kernel_rfl) (Ent.b (fun q18 => ?_) (fun q18 => ?_))))))))))))
      · refine D.yp 1 rfl rfl (by decide) (Y.not (b := true) rfl) (by kernel_rfl) ?_
        refine D.yp 2 rfl rfl (by decide) (Y.mv rfl) (by kernel_rfl) ?_
        refine D.skip 3 rfl rfl (by kernel_rfl) rfl ?_
        refine D.skip 4 rfl rfl (by kernel_rfl) rfl ?_
        refine D.skip 5 rfl rfl (by kernel_rfl) rfl ?_
        refine D.skip 6 rfl rfl (by kernel_rfl) rfl ?_
        refine D.skip 7 rfl rfl (by kernel_rfl) rfl ?_
        refine D.skip 8 rfl rfl (by kernel_rfl) rfl ?_
        refine D.skip 9 rfl rfl (by kernel_rfl) rfl ?_
        refine D.yp 10 rfl rfl (by decide) (Y.pkf rfl rfl) (by kernel_rfl) ?_
        refine D.done (by kernel_rfl) (E.thn (E.cf rfl (E.skipc (E.thn (D.region (fun j => !(Nat.beq j 13)) mixed (D.yp 0 rfl rfl (by decide) (Y.mv rfl) (by kernel_rfl) ?_))))))
        refine D.yp 1 rfl rfl (by decide) (Y.mv rfl) (by kernel_rfl) ?_
        refine D.yp 2 rfl rfl (by decide) (Y.mv rfl) (by kernel_rfl) ?_
        obtain ⟨eb40, eo40, ec40, ea40, er40, el40, eh40⟩ := hl.elem g (by omega)
        obtain ⟨xa40_0, xc40_0, rfl, ei40_0, xh40_0⟩ := Ro.pFact er40
        have := xh40_0.slen.2
        refine D.yp 3 rfl rfl (by decide) (Y.ix us_Facts ty_Fact rfl ea40 rfl g rfl (by omega)) (by kernel_rfl) ?_
        refine D.yp 4 rfl rfl (by decide) (Y.fld fo_Fact_0 ty_I (by decide) rfl) (by kernel_rfl) ?_
        refine D.y 5 rfl rfl (by decide) (Y.ld1 ty_I rfl ((eh40 _).sub (cs' := [_]) 0 rfl) rfl) (by kernel_rfl) ?_
        refine D.yp 6 rfl rfl (by decide) (Y.mv rfl) (by kernel_rfl) ?_
        refine D.yp 7 rfl rfl (by decide) (Y.mv rfl) (by kernel_rfl) ?_
        refine D.yp 8 rfl rfl (by decide) (Y.ix us_Facts ty_Fact rfl ea40 rfl g rfl (by omega)) (by kernel_rfl) ?_
        refine D.yp 9 rfl rfl (by decide) (Y.fld fo_Fact_1 ty_Is (by decide) rfl) (by kernel_rfl) ?_
        refine D.y 10 rfl rfl (by decide) (Y.ld1 ty_Is rfl ((eh40 _).sub (cs' := [_]) 1 rfl) rfl) (by kernel_rfl) ?_
        refine D.st 11 rfl rfl (by kernel_rfl) (fun _ => rfl) (N.call (t_spec_l2One (hyl _ (List.getElem_mem (by omega)))) rfl rfl rfl (by decide) rfl (fun w Lp hA => ⟨ei40_0, hA.ro xh40_0⟩)) (fun k48 _ => ?_)
        obtain ⟨a48, m48, c48⟩ := k48
        refine Ent.lenow m0 fun e48 l48 => ?_
        subst e48
        refine D.st 12 rfl rfl (by kernel_rfl) (fun _ => rfl) (N.bsl (pvs := [_]) (cs := [_, _]) us_Facts ty_Fact rfl (by decide) (by decide) (fillZ rfl rfl) rfl (by decide)) (fun b49 _ => ?_)
        refine Ent.p1 ?_
        refine Ent.p1 ?_
        refine Ent.p2 ?_
        refine D.st 13 rfl rfl (by kernel_rfl) (fun h => by cases h) (N.push (E := eFact) (ex := l[g]) us_Facts ty_Fact rfl rfl rfl (Own.mkFact (x := l[g]) ei40_0 Own.ow) rfl (by first | omega | (simp only [List.length_map, List.length_take, List.length_append, List.length_drop, List.length_cons, List.length_nil]; omega)) (by first | omega | (simp only [List.length_map, List.length_take, List.length_append, List.length_drop, List.length_cons, List.length_nil]; omega)) (by decide)) (fun p50 _ => ?_)
        refine D.yp 14 rfl rfl (by decide) (Y.as rfl) (by kernel_rfl) ?_
        refine D.done (by kernel_rfl) (E.bln (E.thn (E.region (l := [0, 1, 2]) rfl (E.y rfl rfl (by decide) ((Y.mv rfl).yd) ?_))))
        refine E.y rfl rfl (by decide) ((Y.add rfl rfl (by omega) (by omega)).yd) ?_
        refine E.y rfl rfl (by decide) ((Y.as rfl).yd) ?_
        refine E.nil (E.thn (Ent.cv (congrArg (ow eFacts [_]) (show (addS (hasF l (f_Rel, f_Values)) (ltF (f_Rel, f_Values)) (f_Rel, f_Values) (l.take g)) ++ [l[g]] = addS (hasF l (f_Rel, f_Values)) (ltF (f_Rel, f_Values)) (f_Rel, f_Values) (l.take (g + 1)) from by grind [addF, addP_addS, addS_snoc, addS_nil, any_take, ltF_eq, List.drop_eq_getElem_cons, List.drop_eq_nil_of_le, List.take_succ_eq_append_getElem, List.take_of_length_le])) ?_))
        refine Ent.p1 ?_
        refine Ent.p1 ?_
        exact E.again (Back.refl _ _) (g + 1, p50.1, ((addS (hasF l (f_Rel, f_Values)) (ltF (f_Rel, f_Values)) (f_Rel, f_Values) (l.take g)).length + 1), p50.2) ⟨rfl, rfl, rfl, frB (by grind [addF, addP_addS, addS_snoc, addS_nil, any_take, ltF_eq, List.drop_eq_getElem_cons, List.drop_eq_nil_of_le, List.take_succ_eq_append_getElem, List.take_of_length_le]), rfl, trivial⟩ (.refl _) ⟨(show g + 1 ≤ l.length from by omega), (show True from by grind [List.drop_eq_getElem_cons, List.drop_eq_nil_of_le, List.take_succ_eq_append_getElem, List.take_of_length_le])⟩ (show l.length - (g + 1) < l.length - g from by omega)
      · refine D.yp 1 rfl rfl (by decide) (Y.not (b := false) rfl) (by kernel_rfl) ?_
        refine D.yp 2 rfl rfl (by decide) (Y.mv rfl) (by kernel_rfl) ?_
        refine D.y 3 rfl rfl (by decide) (Y.ldS (cs := [_, _]) ty_Fact rfl (Has.pt (mS m0)) rfl) (by kernel_rfl) ?_
        refine D.yp 4 rfl rfl (by decide) (Y.mv rfl) (by kernel_rfl) ?_
        refine D.yp 5 rfl rfl (by decide) (Y.mv rfl) (by kernel_rfl) ?_
        obtain ⟨eb24, eo24, ec24, ea24, er24, el24, eh24⟩ := hl.elem g (by omega)
        obtain ⟨xa24_0, xc24_0, rfl, ei24_0, xh24_0⟩ := Ro.pFact er24
        have := xh24_0.slen.2
        refine D.yp 6 rfl rfl (by decide) (Y.ix us_Facts ty_Fact rfl ea24 rfl g rfl (by omega)) (by kernel_rfl) ?_
        refine D.y 7 rfl rfl (by decide) (Y.ldS (cs := [_, _]) ty_Fact rfl (eh24 _) rfl) (by kernel_rfl) ?_
        refine D.st 8 rfl rfl (by kernel_rfl) (fun _ => rfl) (N.call0 t_spec_CompareFacts rfl rfl rfl (by decide) (fun w Lp hA => ⟨i6f_Rel, hA.ro hf_Values, ei24_0, hA.ro xh24_0⟩)) (fun _ _ => ?_)
        refine D.yp 9 rfl rfl (by decide) (Y.lss rfl rfl) (by kernel_rfl) (Ent.d (fun q27 => ?_) (fun q27 => ?_))
        · refine D.yp 10 rfl rfl (by decide) (Y.pkt rfl rfl) (by kernel_rfl) ?_
          refine D.done (by kernel_rfl) (E.thn (E.ct rfl (E.seq (E.region (l := [0, 1, 2, 3, 4, 5, 6, 7, 8]) rfl (E.y rfl rfl (by decide) ((Y.mv rfl).yd) ?_)))))
          refine E.y rfl rfl (by decide) ((Y.fld fo_Fact_0 ty_I (by decide) rfl).yd) ?_
          refine E.y rfl rfl (by decide) (Y.ld1 ty_I rfl ((Has.pt (mS m0)).sub (cs' := [_]) 0 rfl) rfl) ?_
          refine E.y rfl rfl (by decide) ((Y.fld fo_Fact_1 ty_Is (by decide) rfl).yd) ?_
          refine E.y rfl rfl (by decide) (Y.ld1 ty_Is rfl ((Has.pt (mS m0)).sub (cs' := [_]) 1 rfl) rfl) ?_
          refine E.st rfl rfl (N.call (t_spec_l2One (by first | omega | assumption | (constructor <;> omega))) rfl rfl rfl (by decide) rfl (fun w Lp hA => ⟨i6f_Rel, hA.ro hf_Values⟩)) (fun k34 _ => ?_)
          obtain ⟨a34, m34, c34⟩ := k34
          refine Ent.lenow m0 fun e34 l34 => ?_
          subst e34
          refine E.st rfl rfl (N.bsl (pvs := [_]) (cs := [_, _]) us_Facts ty_Fact rfl (by decide) (by decide) (fillZ rfl rfl) rfl (by decide)) (fun b35 _ => ?_)
          refine Ent.p1 ?_
          refine Ent.p1 ?_
          refine Ent.p2 ?_
          refine E.st rfl rfl (N.push (E := eFact) (ex := (f_Rel, f_Values)) us_Facts ty_Fact rfl rfl rfl (Own.mkFact (x := (f_Rel, f_Values)) i6f_Rel Own.ow) rfl (by first | omega | (simp only [List.length_map, List.length_take, List.length_append, List.length_drop, List.length_cons, List.length_nil]; omega)) (by first | omega | (simp only [List.length_map, List.length_take, List.length_append, List.length_drop, List.length_cons, List.length_nil]; omega)) (by decide)) (fun p36 _ => ?_)
          refine E.y rfl rfl (by decide) ((Y.as rfl).yd) ?_
          refine E.nil (E.thn (E.region (l := [0]) rfl (E.y rfl rfl (by decide) ((Y.as rfl).yd) ?_)))
          refine E.nil (E.thn (D.region (fun j => !(Nat.beq j 13)) mixed (D.yp 0 rfl rfl (by decide) (Y.mv rfl) (by kernel_rfl) ?_)))
          refine D.yp 1 rfl rfl (by decide) (Y.mv rfl) (by kernel_rfl) ?_
          refine D.yp 2 rfl rfl (by decide) (Y.mv rfl) (by kernel_rfl) ?_
          refine D.yp 3 rfl rfl (by decide) (Y.ix us_Facts ty_Fact rfl ea24 rfl g rfl (by omega)) (by kernel_rfl) ?_
          refine D.yp 4 rfl rfl (by decide) (Y.fld fo_Fact_0 ty_I (by decide) rfl) (by kernel_rfl) ?_
          refine D.y 5 rfl rfl (by decide) (Y.ld1 ty_I rfl ((eh24 _).sub (cs' := [_]) 0 rfl) rfl) (by kernel_rfl) ?_
          refine D.yp 6 rfl rfl (by decide) (Y.mv rfl) (by kernel_rfl) ?_
          refine D.yp 7 rfl rfl (by decide) (Y.mv rfl) (by kernel_rfl) ?_
          refine D.yp 8 rfl rfl (by decide) (Y.ix us_Facts ty_Fact rfl ea24 rfl g rfl (by omega)) (by kernel_rfl) ?_
          refine D.yp 9 rfl rfl (by decide) (Y.fld fo_Fact_1 ty_Is (by decide) rfl) (by kernel_rfl) ?_
          refine D.y 10 rfl rfl (by decide) (Y.ld1 ty_Is rfl ((eh24 _).sub (cs' := [_]) 1 rfl) rfl) (by kernel_rfl) ?_
          refine D.st 11 rfl rfl (by kernel_rfl) (fun _ => rfl) (N.call (t_spec_l2One (hyl _ (List.getElem_mem (by omega)))) rfl rfl rfl (by decide) rfl (fun w Lp hA => ⟨ei24_0, hA.ro xh24_0⟩)) (fun k48 _ => ?_)
          obtain ⟨a48, m48, c48⟩ := k48
          refine Ent.lenow m0 fun e48 l48 => ?_
          subst e48
          refine D.st 12 rfl rfl (by kernel_rfl) (fun _ => rfl) (N.bsl (pvs := [_]) (cs := [_, _]) us_Facts ty_Fact rfl (by decide) (by decide) (fillZ rfl rfl) rfl (by decide)) (fun b49 _ => ?_)
          refine Ent.p1 ?_
          refine Ent.p1 ?_
          refine Ent.p2 ?_
          refine D.st 13 rfl rfl (by kernel_rfl) (fun h => by cases h) (N.push (E := eFact) (ex := l[g]) us_Facts ty_Fact rfl rfl rfl (Own.mkFact (x := l[g]) ei24_0 Own.ow) rfl (by first | omega | (simp only [List.length_map, List.length_take, List.length_append, List.length_drop, List.length_cons, List.length_nil]; omega)) (by first | omega | (simp only [List.length_map, List.length_take, List.length_append, List.length_drop, List.length_cons, List.length_nil]; omega)) (by decide)) (fun p50 _ => ?_)
          refine D.yp 14 rfl rfl (by decide) (Y.as rfl) (by kernel_rfl) ?_
          refine D.done (by kernel_rfl) (E.bln (E.thn (E.region (l := [0, 1, 2]) rfl (E.y rfl rfl (by decide) ((Y.mv rfl).yd) ?_))))
          refine E.y rfl rfl (by decide) ((Y.add rfl rfl (by omega) (by omega)).yd) ?_
          refine E.y rfl rfl (by decide) ((Y.as rfl).yd) ?_
          refine E.nil (E.thn (Ent.cv (congrArg (ow eFacts [_]) (show ((addS (hasF l (f_Rel, f_Values)) (ltF (f_Rel, f_Values)) (f_Rel, f_Values) (l.take g)) ++ [(f_Rel, f_Values)]) ++ [l[g]] = addS (hasF l (f_Rel, f_Values)) (ltF (f_Rel, f_Values)) (f_Rel, f_Values) (l.take (g + 1)) from by grind [addF, addP_addS, addS_snoc, addS_nil, any_take, ltF_eq, List.drop_eq_getElem_cons, List.drop_eq_nil_of_le, List.take_succ_eq_append_getElem, List.take_of_length_le])) ?_))
          refine Ent.p1 ?_
          refine Ent.p1 ?_
          exact E.again (Back.refl _ _) (g + 1, p50.1, (((addS (hasF l (f_Rel, f_Values)) (ltF (f_Rel, f_Values)) (f_Rel, f_Values) (l.take g)).length + 1) + 1), p50.2) ⟨rfl, rfl, rfl, frB (by grind [addF, addP_addS, addS_snoc, addS_nil, any_take, ltF_eq, List.drop_eq_getElem_cons, List.drop_eq_nil_of_le, List.take_succ_eq_append_getElem, List.take_of_length_le]), rfl, trivial⟩ (.refl _) ⟨(show g + 1 ≤ l.length from by omega), (show True from by grind [List.drop_eq_getElem_cons, List.drop_eq_nil_of_le, List.take_succ_eq_append_getElem, List.take_of_length_le])⟩ (show l.length - (g + 1) < l.length - g from by omega)
        · refine D.yp 10 rfl rfl (by decide) (Y.pkt rfl rfl) (by kernel_rfl) ?_
          refine D.done (by kernel_rfl) (E.thn (E.cf rfl (E.skipc (E.thn (D.region (fun j => !(Nat.beq j 13)) mixed (D.yp 0 rfl rfl (by decide) (Y.mv rfl) (by kernel_rfl) ?_))))))
          refine D.yp 1 rfl rfl (by decide) (Y.mv rfl) (by kernel_rfl) ?_
          refine D.yp 2 rfl rfl (by decide) (Y.mv rfl) (by kernel_rfl) ?_
          refine D.yp 3 rfl rfl (by decide) (Y.ix us_Facts ty_Fact rfl ea24 rfl g rfl (by omega)) (by kernel_rfl) ?_
          refine D.yp 4 rfl rfl (by decide) (Y.fld fo_Fact_0 ty_I (by decide) rfl) (by kernel_rfl) ?_
          refine D.y 5 rfl rfl (by decide) (Y.ld1 ty_I rfl ((eh24 _).sub (cs' := [_]) 0 rfl) rfl) (by kernel_rfl) ?_
          refine D.yp 6 rfl rfl (by decide) (Y.mv rfl) (by kernel_rfl) ?_
          refine D.yp 7 rfl rfl (by decide) (Y.mv rfl) (by kernel_rfl) ?_
          refine D.yp 8 rfl rfl (by decide) (Y.ix us_Facts ty_Fact rfl ea24 rfl g rfl (by omega)) (by kernel_rfl) ?_
          refine D.yp 9 rfl rfl (by decide) (Y.fld fo_Fact_1 ty_Is (by decide) rfl) (by kernel_rfl) ?_
          refine D.y 10 rfl rfl (by decide) (Y.ld1 ty_Is rfl ((eh24 _).sub (cs' := [_]) 1 rfl) rfl) (by kernel_rfl) ?_
          refine D.st 11 rfl rfl (by kernel_rfl) (fun _ => rfl) (N.call (t_spec_l2One (hyl _ (List.getElem_mem (by omega)))) rfl rfl rfl (by decide) rfl (fun w Lp hA => ⟨ei24_0, hA.ro xh24_0⟩)) (fun k48 _ => ?_)
          obtain ⟨a48, m48, c48⟩ := k48
          refine Ent.lenow m0 fun e48 l48 => ?_
          subst e48
          refine D.st 12 rfl rfl (by kernel_rfl) (fun _ => rfl) (N.bsl (pvs := [_]) (cs := [_, _]) us_Facts ty_Fact rfl (by decide) (by decide) (fillZ rfl rfl) rfl (by decide)) (fun b49 _ => ?_)
          refine Ent.p1 ?_
          refine Ent.p1 ?_
          refine Ent.p2 ?_
          refine D.st 13 rfl rfl (by kernel_rfl) (fun h => by cases h) (N.push (E := eFact) (ex := l[g]) us_Facts ty_Fact rfl rfl rfl (Own.mkFact (x := l[g]) ei24_0 Own.ow) rfl (by first | omega | (simp only [List.length_map, List.length_take, List.length_append, List.length_drop, List.length_cons, List.length_nil]; omega)) (by first | omega | (simp only [List.length_map, List.length_take, List.length_append, List.length_drop, List.length_cons, List.length_nil]; omega)) (by decide)) (fun p50 _ => ?_)
          refine D.yp 14 rfl rfl (by decide) (Y.as rfl) (by kernel_rfl) ?_
          refine D.done (by kernel_rfl) (E.bln (E.thn (E.region (l := [0, 1, 2]) rfl (E.y rfl rfl (by decide) ((Y.mv rfl).yd) ?_))))
          refine E.y rfl rfl (by decide) ((Y.add rfl rfl (by omega) (by omega)).yd) ?_
          refine E.y rfl rfl (by decide) ((Y.as rfl).yd) ?_
          refine E.nil (E.thn (Ent.cv (congrArg (ow eFacts [_]) (show (addS (hasF l (f_Rel, f_Values)) (ltF (f_Rel, f_Values)) (f_Rel, f_Values) (l.take g)) ++ [l[g]] = addS (hasF l (f_Rel, f_Values)) (ltF (f_Rel, f_Values)) (f_Rel, f_Values) (l.take (g + 1)) from by grind [addF, addP_addS, addS_snoc, addS_nil, any_take, ltF_eq, List.drop_eq_getElem_cons, List.drop_eq_nil_of_le, List.take_succ_eq_append_getElem, List.take_of_length_le])) ?_))
          refine Ent.p1 ?_
          refine Ent.p1 ?_
          exact E.again (Back.refl _ _) (g + 1, p50.1, ((addS (hasF l (f_Rel, f_Values)) (ltF (f_Rel, f_Values)) (f_Rel, f_Values) (l.take g)).length + 1), p50.2) ⟨rfl, rfl, rfl, frB (by grind [addF, addP_addS, addS_snoc, addS_nil, any_take, ltF_eq, List.drop_eq_getElem_cons, List.drop_eq_nil_of_le, List.take_succ_eq_append_getElem, List.take_of_length_le]), rfl, trivial⟩ (.refl _) ⟨(show g + 1 ≤ l.length from by omega), (show True from by grind [List.drop_eq_getElem_cons, List.drop_eq_nil_of_le, List.take_succ_eq_append_getElem, List.take_of_length_le])⟩ (show l.length - (g + 1) < l.length - g from by omega)
    · refine E.nil (E.thn (E.cf rfl (E.exit (E.the (E.the (E.blh (E.thn (E.seq (E.seq (E.region (l := [0, 1]) rfl (E.y rfl rfl (by decide) ((Y.mv rfl).yd) (Ent.b (fun q51 => ?_) (fun q51 => ?_)))))))))))))
      · refine E.y rfl rfl (by decide) ((Y.not (b := true) rfl).yd) ?_
        refine E.nil (E.thn (E.cf rfl (E.skipc (E.thn (E.seq (E.region (l := [0, 1]) rfl (E.y rfl rfl (by decide) ((Y.mv rfl).yd) ?_)))))))
        refine E.y rfl rfl (by decide) ((Y.as rfl).yd) ?_
        refine E.nil (E.thn (E.ret (Ent.cv (congrArg (ow eFacts [_]) (show _ = addF l (f_Rel, f_Values) by grind [addF, addP_addS, addS_snoc, addS_nil, any_take, ltF_eq, List.drop_eq_getElem_cons, List.drop_eq_nil_of_le, List.take_succ_eq_append_getElem, List.take_of_length_le])) ?_)))
        exact F.r1 (Back.refl _ _) rfl rfl (_, _, _) trivial rfl (J := _) (.refl _) (.inl rfl)
      · refine E.y rfl rfl (by decide) ((Y.not (b := false) rfl).yd) ?_
        refine E.nil (E.thn (E.ct rfl (E.region (l := [0, 1, 2, 3, 4, 5, 6, 7, 8]) rfl (E.y rfl rfl (by decide) ((Y.mv rfl).yd) ?_))))
        refine E.y rfl rfl (by decide) ((Y.fld fo_Fact_0 ty_I (by decide) rfl).yd) ?_
        refine E.y rfl rfl (by decide) (Y.ld1 ty_I rfl ((Has.pt (mS m0)).sub (cs' := [_]) 0 rfl) rfl) ?_
        refine E.y rfl rfl (by decide) ((Y.fld fo_Fact_1 ty_Is (by decide) rfl).yd) ?_
        refine E.y rfl rfl (by decide) (Y.ld1 ty_Is rfl ((Has.pt (mS m0)).sub (cs' := [_]) 1 rfl) rfl) ?_
        refine E.st rfl rfl (N.call (t_spec_l2One (by first | omega | assumption | (constructor <;> omega))) rfl rfl rfl (by decide) rfl (fun w Lp hA => ⟨i6f_Rel, hA.ro hf_Values⟩)) (fun k58 _ => ?_)
        obtain ⟨a58, m58, c58⟩ := k58
        refine Ent.lenow m0 fun e58 l58 => ?_
        subst e58
        refine E.st rfl rfl (N.bsl (pvs := [_]) (cs := [_, _]) us_Facts ty_Fact rfl (by decide) (by decide) (fillZ rfl rfl) rfl (by decide)) (fun b59 _ => ?_)
        refine Ent.p1 ?_
        refine Ent.p1 ?_
        refine Ent.p2 ?_
        refine E.st rfl rfl (N.push (E := eFact) (ex := (f_Rel, f_Values)) us_Facts ty_Fact rfl rfl rfl (Own.mkFact (x := (f_Rel, f_Values)) i6f_Rel Own.ow) rfl (by first | omega | (simp only [List.length_map, List.length_take, List.length_append, List.length_drop, List.length_cons, List.length_nil]; omega)) (by first | omega | (simp only [List.length_map, List.length_take, List.length_append, List.length_drop, List.length_cons, List.length_nil]; omega)) (by decide)) (fun p60 _ => ?_)
        refine E.y rfl rfl (by decide) ((Y.as rfl).yd) ?_
        refine E.nil (E.thn (E.seq (E.region (l := [0, 1]) rfl (E.y rfl rfl (by decide) ((Y.mv rfl).yd) ?_))))
        refine E.y rfl rfl (by decide) ((Y.as rfl).yd) ?_
        refine E.nil (E.thn (E.ret (Ent.cv (congrArg (ow eFacts [_]) (show _ = addF l (f_Rel, f_Values) by grind [addF, addP_addS, addS_snoc, addS_nil, any_take, ltF_eq, List.drop_eq_getElem_cons, List.drop_eq_nil_of_le, List.take_succ_eq_append_getElem, List.take_of_length_le])) ?_)))
        exact F.r1 (Back.refl _ _) rfl rfl (_, _, _) trivial rfl (J := _) (.refl _) (.inl rfl)
theorem t_impl_AreFacts {a_s : Option Addr} {m_s c_s : Nat} {s : List Int} {a_l : Option Addr} {m_l c_l : Nat} {l : List (Int × List Int)} : Tr Tryz.prog 82 [.slice a_s m_s c_s, .slice a_l m_l c_l] (fun w L => Ro w L eIs [.slice a_s m_s c_s] s ∧ Ro w L eFacts [.slice a_l m_l c_l] l) [] (κ := Unit) (fun k => True) (fun k => .bool (okFacts s l)) (fun k => []) := by
  refine Tr.intro Tryz.func82 rfl (n := 40) rfl (by decide +kernel) (Nat.le_of_ble_eq_true rfl) (fr := [(0, .slice a_s m_s c_s), (1, .slice a_l m_l c_l)]) rfl fun w L hR => ?_
  obtain ⟨hs, hl⟩ := hR
  obtain ⟨rfl, ls⟩ := hs.slen
  obtain ⟨rfl, ll⟩ := hl.slen
  refine E.seq (E.region (l := [0]) rfl (E.y rfl rfl (by decide) ((Y.as rfl).yd) ?_))
  refine E.nil (E.thn (E.seq (E.seq (E.region (l := [0, 1, 2]) rfl (E.y rfl rfl (by decide) ((Y.mv rfl).yd) ?_)))))
  refine E.y rfl rfl (by decide) ((Y.len us_Facts rfl).yd) ?_
  refine E.y rfl rfl (by decide) ((Y.mv rfl).yd) ?_
  refine E.nil (E.thn (E.block (E.loop (κ := Nat) (fun g => g ≤ l.length ∧ okFs s l 0 = okFs s l g) (fun g => [(0, .slice a_s s.length c_s), (1, .slice a_l l.length c_l), (7, .slice a_l l.length c_l), (8, .int .i64 (↑l.length : Int)), (9, .int .i64 (↑g : Int))]) (fun g => []) (fun g => l.length - g) 0 ⟨Nat.zero_le _, by simp⟩ ⟨rfl, rfl, rfl, rfl, rfl, trivial⟩ (.refl _) (fun g pg => ?_))))
  obtain ⟨pk, pa⟩ := pg
  refine E.seq (E.region (l := [0]) rfl (E.y rfl rfl (by decide) ((Y.lss rfl rfl).yd) (Ent.d (fun q10 => ?_) (fun q10 => ?_))))
  · refine E.nil (E.thn (E.seq (E.ct rfl (E.skipc (E.thn (E.seq (E.block (E.seq (E.region (l := [0, 1, 2, 3, 4, 5]) rfl (E.y rfl rfl (by decide) ((Y.mv rfl).yd) ?_))))))))))
    obtain ⟨eb12, eo12, ec12, ea12, er12, el12, eh12⟩ := hl.elem g (by omega)
    obtain ⟨xa12_0, xc12_0, rfl, ei12_0, xh12_0⟩ := Ro.pFact er12
    have := xh12_0.slen.2
    refine E.y rfl rfl (by decide) ((Y.ix us_Facts ty_Fact rfl ea12 rfl g rfl (by omega)).yd) ?_
    refine E.y rfl rfl (by decide) (Y.ldS (cs := [_, _]) ty_Fact rfl (eh12 _) rfl) ?_
    refine E.st rfl rfl (N.alloc ty_Fact (by decide)) (fun b6 _ => ?_)
    refine E.y rfl rfl (by decide) ((Y.as rfl).yd) ?_
    refine E.st rfl rfl (N.sto (vs := [_, _]) (cs' := [_, _]) ty_Fact rfl rfl rfl rfl rfl (Nat.le_of_ble_eq_true rfl) rfl) (fun _ _ => ?_)
    refine E.nil (E.thn (E.seq (D.region (fun j => true) mixed (D.yp 0 rfl rfl (by decide) (Y.mv rfl) (by kernel_rfl) ?_))))
    refine D.y 1 rfl rfl (by decide) (Y.ldS (cs := [_, _]) ty_Fact rfl (Has.pt m0) rfl) (by kernel_rfl) ?_
    refine D.st 2 rfl rfl (by kernel_rfl) (fun _ => rfl) (N.call0 t_impl_IsFact rfl rfl rfl (by decide) (fun w Lp hA => ⟨hA.ro hs, ei12_0, hA.ro xh12_0⟩)) (fun _ _ => (Ent.b (fun q16 => ?_) (fun q16 => ?_)))
    · refine D.yp 3 rfl rfl (by decide) (Y.not (b := true) rfl) (by kernel_rfl) ?_
      refine D.yp 4 rfl rfl (by decide) (Y.mv rfl) (by kernel_rfl) ?_
      refine D.yp 5 rfl rfl (by decide) (Y.mv rfl) (by kernel_rfl) ?_
      refine D.yp 6 rfl rfl (by decide) (Y.gtr rfl rfl) (by kernel_rfl) (Ent.d (fun q20 => ?_) (fun q20 => ?_))
      · refine D.yp 7 rfl rfl (by decide) (Y.mv rfl) (by kernel_rfl) ?_
        refine D.yp 8 rfl rfl (by decide) (Y.mv rfl) (by kernel_rfl) ?_
        refine D.yp 9 rfl rfl (by decide) (Y.mv rfl) (by kernel_rfl) ?_
        refine D.yp 10 rfl rfl (by decide) (Y.sub rfl rfl (by omega) (by omega)) (by kernel_rfl) ?_
        obtain ⟨eb25, eo25, ec25, ea25, er25, el25, eh25⟩ := hl.elem (g - 1) (by omega)
        obtain ⟨xa25_0, xc25_0, rfl, ei25_0, xh25_0⟩ := Ro.pFact er25
        have := xh25_0.slen.2
        refine D.yp 11 rfl rfl (by decide) (Y.ix us_Facts ty_Fact rfl ea25 rfl (g - 1) (by omega) (by omega)) (by kernel_rfl) ?_
        refine D.y 12 rfl rfl (by decide) (Y.ldS (cs := [_, _]) ty_Fact rfl (eh25 _) rfl) (by kernel_rfl) ?_
        refine D.y 13 rfl rfl (by decide) (Y.ldS (cs := [_, _]) ty_Fact rfl (Has.pt m0) rfl) (by kernel_rfl) ?_
        refine D.st 14 rfl rfl (by kernel_rfl) (fun _ => rfl) (N.call0 t_impl_CompareFacts rfl rfl rfl (by decide) (fun w Lp hA => ⟨ei25_0, hA.ro xh25_0, ei12_0, hA.ro xh12_0⟩)) (fun _ _ => ?_)
        refine D.yp 15 rfl rfl (by decide) (Y.geq rfl rfl) (by kernel_rfl) (Ent.d (fun q29 => ?_) (fun q29 => ?_))
        · refine D.yp 16 rfl rfl (by decide) (Y.pkt rfl rfl) (by kernel_rfl) ?_
          refine D.yp 17 rfl rfl (by decide) (Y.pkf rfl rfl) (by kernel_rfl) ?_
          refine D.done (by kernel_rfl) (E.thn (E.ct rfl (E.seq (E.region (l := [0]) rfl (E.y rfl rfl (by decide) ((Y.as rfl).yd) ?_)))))
          exact E.nil (E.thn (E.ret (E.blr (E.thr (E.thr (E.blr (E.thr (F.r1 (Back.refl _ _) rfl rfl () trivial (congrArg Value.bool (by grind [okFacts, okFs, chain_step, chain_zero, chain_end, ltF, List.drop_eq_getElem_cons, List.drop_eq_nil_of_le, List.take_succ_eq_append_getElem, List.take_of_length_le])) (J := _) (.refl _) (.inl rfl)))))))))
        · refine D.yp 16 rfl rfl (by decide) (Y.pkt rfl rfl) (by kernel_rfl) ?_
          refine D.yp 17 rfl rfl (by decide) (Y.pkf rfl rfl) (by kernel_rfl) ?_
          refine D.done (by kernel_rfl) (E.thn (E.cf rfl (E.skipc (E.bln (E.thn (E.region (l := [0, 1]) rfl (E.y rfl rfl (by decide) ((Y.add rfl rfl (by omega) (by omega)).yd) ?_)))))))
          refine E.y rfl rfl (by decide) ((Y.mv rfl).yd) ?_
          refine E.nil (E.thn (Ent.drop ?_))
          exact E.again (Back.refl _ _) (g + 1) ⟨rfl, rfl, rfl, rfl, rfl, trivial⟩ (.refl _) ⟨by omega, by grind [okFs, chain_step, chain_zero, chain_end, ltF, Bool.and_assoc, List.drop_eq_getElem_cons, List.drop_eq_nil_of_le, List.take_succ_eq_append_getElem, List.take_of_length_le]⟩ (by omega)
      · refine D.yp 7 rfl rfl (by decide) (Y.mv rfl) (by kernel_rfl) ?_
        refine D.skip 8 rfl rfl (by kernel_rfl) rfl ?_
        refine D.skip 9 rfl rfl (by kernel_rfl) rfl ?_
        refine D.skip 10 rfl rfl (by kernel_rfl) rfl ?_
        refine D.skip 11 rfl rfl (by kernel_rfl) rfl ?_
        refine D.skip 12 rfl rfl (by kernel_rfl) rfl ?_
        refine D.skip 13 rfl rfl (by kernel_rfl) rfl ?_
        refine D.skip 14 rfl rfl (by kernel_rfl) rfl ?_
        refine D.skip 15 rfl rfl (by kernel_rfl) rfl ?_
        refine D.yp 16 rfl rfl (by decide) (Y.pkf rfl rfl) (by kernel_rfl) ?_
        refine D.yp 17 rfl rfl (by decide) (Y.pkf rfl rfl) (by kernel_rfl) ?_
        refine D.done (by kernel_rfl) (E.thn (E.cf rfl (E.skipc (E.bln (E.thn (E.region (l := [0, 1]) rfl (E.y rfl rfl (by decide) ((Y.add rfl rfl (by omega) (by omega)).yd) ?_)))))))
        refine E.y rfl rfl (by decide) ((Y.mv rfl).yd) ?_
        refine E.nil (E.thn (Ent.drop ?_))
        exact E.again (Back.refl _ _) (g + 1) ⟨rfl, rfl, rfl, rfl, rfl, trivial⟩ (.refl _) ⟨by omega, by grind [okFs, chain_step, chain_zero, chain_end, ltF, Bool.and_assoc, List.drop_eq_getElem_cons, List.drop_eq_nil_of_le, List.take_succ_eq_append_getElem, List.take_of_length_le]⟩ (by omega)
    · refine D.yp 3 rfl rfl (by decide) (Y.not (b := false) rfl) (by kernel_rfl) ?_
      refine D.yp 4 rfl rfl (by decide) (Y.mv rfl) (by kernel_rfl) ?_
      refine D.skip 5 rfl rfl (by kernel_rfl) rfl ?_
      refine D.skip 6 rfl rfl (by kernel_rfl) rfl ?_
      refine D.sku 7 rfl rfl (by decide) (by kernel_rfl) ?_
      refine D.skip 8 rfl rfl (by kernel_rfl) rfl ?_
      refine D.skip 9 rfl rfl (by kernel_rfl) rfl ?_
      refine D.skip 10 rfl rfl (by kernel_rfl) rfl ?_
      refine D.skip 11 rfl rfl (by kernel_rfl) rfl ?_
      refine D.skip 12 rfl rfl (by kernel_rfl) rfl ?_
      refine D.skip 13 rfl rfl (by kernel_rfl) rfl ?_
      refine D.skip 14 rfl rfl (by kernel_rfl) rfl ?_
      refine D.skip 15 rfl rfl (by kernel_rfl) rfl ?_
      refine D.skip 16 rfl rfl (by kernel_rfl) rfl ?_
      refine D.yp 17 rfl rfl (by decide) (Y.pkt rfl rfl) (by kernel_rfl) ?_
      refine D.done (by kernel_rfl) (E.thn (E.ct rfl (E.seq (E.region (l := [0]) rfl (E.y rfl rfl (by decide) ((Y.as rfl).yd) ?_)))))
      exact E.nil (E.thn (E.ret (E.blr (E.thr (E.thr (E.blr (E.thr (F.r1 (Back.refl _ _) rfl rfl () trivial (congrArg Value.bool (by grind [okFacts, okFs, chain_step, chain_zero, chain_end, ltF, List.drop_eq_getElem_cons, List.drop_eq_nil_of_le, List.take_succ_eq_append_getElem, List.take_of_length_le])) (J := _) (.refl _) (.inl rfl)))))))))
  · refine E.nil (E.thn (E.seq (E.cf rfl (E.exit (E.the (E.the (E.blh (E.thn (E.seq (E.region (l := [0, 1, 2, 3, 4, 5, 6, 7]) rfl (E.y rfl rfl (by decide) ((Y.mv rfl).yd) ?_)))))))))))
    refine E.st rfl rfl (N.call0 t_impl_IsSchema rfl rfl rfl (by decide) (fun w Lp hA => hA.ro hs)) (fun _ _ => (Ent.b (fun q34 => ?_) (fun q34 => ?_)))
    · refine E.y rfl rfl (by decide) ((Y.mv rfl).yd) ?_
      refine E.y rfl rfl (by decide) ((Y.mv rfl).yd) ?_
      refine E.y rfl rfl (by decide) ((Y.len us_Facts rfl).yd) ?_
      refine E.y rfl rfl (by decide) ((Y.leq rfl rfl).yd) ?_
      refine E.y rfl rfl (by decide) ((Y.pkt rfl rfl).yd) ?_
      refine E.y rfl rfl (by decide) ((Y.as rfl).yd) ?_
      exact E.nil (E.thn (E.ret (F.r1 (Back.refl _ _) rfl rfl () trivial (congrArg Value.bool (by grind [okFacts, okFs, chain_step, chain_zero, chain_end, ltF, List.drop_eq_getElem_cons, List.drop_eq_nil_of_le, List.take_succ_eq_append_getElem, List.take_of_length_le])) (J := _) (.refl _) (.inl rfl))))
    · refine E.y rfl rfl (by decide) ((Y.mv rfl).yd) ?_
      refine E.skip rfl rfl rfl ?_
      refine E.skip rfl rfl rfl ?_
      refine E.skip rfl rfl rfl ?_
      refine E.y rfl rfl (by decide) ((Y.pkf rfl rfl).yd) ?_
      refine E.y rfl rfl (by decide) ((Y.as rfl).yd) ?_
      exact E.nil (E.thn (E.ret (F.r1 (Back.refl _ _) rfl rfl () trivial (congrArg Value.bool (by grind [okFacts, okFs, chain_step, chain_zero, chain_end, ltF, List.drop_eq_getElem_cons, List.drop_eq_nil_of_le, List.take_succ_eq_append_getElem, List.take_of_length_le])) (J := _) (.refl _) (.inl rfl))))
theorem t_spec_AreFacts {a_s : Option Addr} {m_s c_s : Nat} {s : List Int} {a_l : Option Addr} {m_l c_l : Nat} {l : List (Int × List Int)} : Tr Tryz.prog 66 [.slice a_s m_s c_s, .slice a_l m_l c_l] (fun w L => Ro w L eIs [.slice a_s m_s c_s] s ∧ Ro w L eFacts [.slice a_l m_l c_l] l) [] (κ := Unit) (fun k => True) (fun k => .bool (okFacts s l)) (fun k => []) := by
  refine Tr.intro Tryz.func66 rfl (n := 43) rfl (by decide +kernel) (Nat.le_of_ble_eq_true rfl) (fr := [(0, .slice a_s m_s c_s), (1, .slice a_l m_l c_l)]) rfl fun w L hR => ?_
  obtain ⟨hs, hl⟩ := hR
  obtain ⟨rfl, ls⟩ := hs.slen
  obtain ⟨rfl, ll⟩ := hl.slen
  refine E.seq (E.region (l := [0]) rfl (E.y rfl rfl (by decide) ((Y.as rfl).yd) ?_))
  refine E.nil (E.thn (E.seq (E.seq (E.region (l := [0]) rfl (E.y rfl rfl (by decide) ((Y.as rfl).yd) ?_)))))
  refine E.nil (E.thn (E.block (E.loop (κ := Nat) (fun g => g ≤ l.length ∧ okFs s l 0 = okFs s l g) (fun g => [(0, .slice a_s s.length c_s), (1, .slice a_l l.length c_l), (5, .int .i64 (↑g : Int))]) (fun g => []) (fun g => l.length - g) 0 ⟨Nat.zero_le _, by simp⟩ ⟨rfl, rfl, rfl, trivial⟩ (.refl _) (fun g pg => ?_))))
  obtain ⟨pk, pa⟩ := pg
  refine E.seq (E.seq (E.region (l := [0, 1, 2, 3]) rfl (E.y rfl rfl (by decide) ((Y.mv rfl).yd) ?_)))
  refine E.y rfl rfl (by decide) ((Y.mv rfl).yd) ?_
  refine E.y rfl rfl (by decide) ((Y.len us_Facts rfl).yd) ?_
  refine E.y rfl rfl (by decide) ((Y.lss rfl rfl).yd) (Ent.d (fun q9 => ?_) (fun q9 => ?_))
  · refine E.nil (E.thn (E.ct rfl (E.skipc (E.thn (E.seq (E.block (E.seq (D.region (fun j => true) mixed (D.yp 0 rfl rfl (by decide) (Y.mv rfl) (by kernel_rfl) ?_)))))))))
    refine D.yp 1 rfl rfl (by decide) (Y.mv rfl) (by kernel_rfl) ?_
    refine D.yp 2 rfl rfl (by decide) (Y.mv rfl) (by kernel_rfl) ?_
    obtain ⟨eb15, eo15, ec15, ea15, er15, el15, eh15⟩ := hl.elem g (by omega)
    obtain ⟨xa15_0, xc15_0, rfl, ei15_0, xh15_0⟩ := Ro.pFact er15
    have := xh15_0.slen.2
    refine D.yp 3 rfl rfl (by decide) (Y.ix us_Facts ty_Fact rfl ea15 rfl g rfl (by omega)) (by kernel_rfl) ?_
    refine D.y 4 rfl rfl (by decide) (Y.ldS (cs := [_, _]) ty_Fact rfl (eh15 _) rfl) (by kernel_rfl) ?_
    refine D.st 5 rfl rfl (by kernel_rfl) (fun _ => rfl) (N.call0 t_spec_IsFact rfl rfl rfl (by decide) (fun w Lp hA => ⟨hA.ro hs, ei15_0, hA.ro xh15_0⟩)) (fun _ _ => (Ent.b (fun q17 => ?_) (fun q17 => ?_)))
    · refine D.yp 6 rfl rfl (by decide) (Y.not (b := true) rfl) (by kernel_rfl) ?_
      refine D.yp 7 rfl rfl (by decide) (Y.mv rfl) (by kernel_rfl) ?_
      refine D.yp 8 rfl rfl (by decide) (Y.mv rfl) (by kernel_rfl) ?_
      refine D.yp 9 rfl rfl (by decide) (Y.gtr rfl rfl) (by kernel_rfl) (Ent.d (fun q21 => ?_) (fun q21 => ?_))
      · refine D.yp 10 rfl rfl (by decide) (Y.mv rfl) (by kernel_rfl) ?_
        refine D.yp 11 rfl rfl (by decide) (Y.mv rfl) (by kernel_rfl) ?_
        refine D.yp 12 rfl rfl (by decide) (Y.mv rfl) (by kernel_rfl) ?_
        refine D.yp 13 rfl rfl (by decide) (Y.sub rfl rfl (by omega) (by omega)) (by kernel_rfl) ?_
        obtain ⟨eb26, eo26, ec26, ea26, er26, el26, eh26⟩ := hl.elem (g - 1) (by omega)
        obtain ⟨xa26_0, xc26_0, rfl, ei26_0, xh26_0⟩ := Ro.pFact er26
        have := xh26_0.slen.2
        refine D.yp 14 rfl rfl (by decide) (Y.ix us_Facts ty_Fact rfl ea26 rfl (g - 1) (by omega) (by omega)) (by kernel_rfl) ?_
        refine D.y 15 rfl rfl (by decide) (Y.ldS (cs := [_, _]) ty_Fact rfl (eh26 _) rfl) (by kernel_rfl) ?_
        refine D.yp 16 rfl rfl (by decide) (Y.mv rfl) (by kernel_rfl) ?_
        refine D.yp 17 rfl rfl (by decide) (Y.mv rfl) (by kernel_rfl) ?_
        refine D.yp 18 rfl rfl (by decide) (Y.ix us_Facts ty_Fact rfl ea15 rfl g rfl (by omega)) (by kernel_rfl) ?_
        refine D.y 19 rfl rfl (by decide) (Y.ldS (cs := [_, _]) ty_Fact rfl (eh15 _) rfl) (by kernel_rfl) ?_
        refine D.st 20 rfl rfl (by kernel_rfl) (fun _ => rfl) (N.call0 t_spec_CompareFacts rfl rfl rfl (by decide) (fun w Lp hA => ⟨ei26_0, hA.ro xh26_0, ei15_0, hA.ro xh15_0⟩)) (fun _ _ => ?_)
        refine D.yp 21 rfl rfl (by decide) (Y.geq rfl rfl) (by kernel_rfl) (Ent.d (fun q33 => ?_) (fun q33 => ?_))
        · refine D.yp 22 rfl rfl (by decide) (Y.pkt rfl rfl) (by kernel_rfl) ?_
          refine D.yp 23 rfl rfl (by decide) (Y.pkf rfl rfl) (by kernel_rfl) ?_
          refine D.done (by kernel_rfl) (E.thn (E.ct rfl (E.seq (E.region (l := [0]) rfl (E.y rfl rfl (by decide) ((Y.as rfl).yd) ?_)))))
          exact E.nil (E.thn (E.ret (E.blr (E.thr (E.thr (E.blr (E.thr (F.r1 (Back.refl _ _) rfl rfl () trivial (congrArg Value.bool (by grind [okFacts, okFs, chain_step, chain_zero, chain_end, ltF, List.drop_eq_getElem_cons, List.drop_eq_nil_of_le, List.take_succ_eq_append_getElem, List.take_of_length_le])) (J := _) (.refl _) (.inl rfl)))))))))
        · refine D.yp 22 rfl rfl (by decide) (Y.pkt rfl rfl) (by kernel_rfl) ?_
          refine D.yp 23 rfl rfl (by decide) (Y.pkf rfl rfl) (by kernel_rfl) ?_
          refine D.done (by kernel_rfl) (E.thn (E.cf rfl (E.skipc (E.bln (E.thn (E.region (l := [0, 1, 2]) rfl (E.y rfl rfl (by decide) ((Y.mv rfl).yd) ?_)))))))
          refine E.y rfl rfl (by decide) ((Y.add rfl rfl (by omega) (by omega)).yd) ?_
          refine E.y rfl rfl (by decide) ((Y.as rfl).yd) ?_
          exact E.nil (E.thn (E.again (Back.refl _ _) (g + 1) ⟨rfl, rfl, rfl, trivial⟩ (.refl _) ⟨by omega, by grind [okFs, chain_step, chain_zero, chain_end, ltF, Bool.and_assoc, List.drop_eq_getElem_cons, List.drop_eq_nil_of_le, List.take_succ_eq_append_getElem, List.take_of_length_le]⟩ (by omega)))
      · refine D.yp 10 rfl rfl (by decide) (Y.mv rfl) (by kernel_rfl) ?_
        refine D.skip 11 rfl rfl (by kernel_rfl) rfl ?_
        refine D.skip 12 rfl rfl (by kernel_rfl) rfl ?_
        refine D.skip 13 rfl rfl (by kernel_rfl) rfl ?_
        refine D.skip 14 rfl rfl (by kernel_rfl) rfl ?_
        refine D.skip 15 rfl rfl (by kernel_rfl) rfl ?_
        refine D.skip 16 rfl rfl (by kernel_rfl) rfl ?_
        refine D.skip 17 rfl rfl (by kernel_rfl) rfl ?_
        refine D.skip 18 rfl rfl (by kernel_rfl) rfl ?_
        refine D.skip 19 rfl rfl (by kernel_rfl) rfl ?_
        refine D.skip 20 rfl rfl (by kernel_rfl) rfl ?_
        refine D.skip 21 rfl rfl (by kernel_rfl) rfl ?_
        refine D.yp 22 rfl rfl (by decide) (Y.pkf rfl rfl) (by kernel_rfl) ?_
        refine D.yp 23 rfl rfl (by decide) (Y.pkf rfl rfl) (by kernel_rfl) ?_
        refine D.done (by kernel_rfl) (E.thn (E.cf rfl (E.skipc (E.bln (E.thn (E.region (l := [0, 1, 2]) rfl (E.y rfl rfl (by decide) ((Y.mv rfl).yd) ?_)))))))
        refine E.y rfl rfl (by decide) ((Y.add rfl rfl (by omega) (by omega)).yd) ?_
        refine E.y rfl rfl (by decide) ((Y.as rfl).yd) ?_
        exact E.nil (E.thn (E.again (Back.refl _ _) (g + 1) ⟨rfl, rfl, rfl, trivial⟩ (.refl _) ⟨by omega, by grind [okFs, chain_step, chain_zero, chain_end, ltF, Bool.and_assoc, List.drop_eq_getElem_cons, List.drop_eq_nil_of_le, List.take_succ_eq_append_getElem, List.take_of_length_le]⟩ (by omega)))
    · refine D.yp 6 rfl rfl (by decide) (Y.not (b := false) rfl) (by kernel_rfl) ?_
      refine D.yp 7 rfl rfl (by decide) (Y.mv rfl) (by kernel_rfl) ?_
      refine D.skip 8 rfl rfl (by kernel_rfl) rfl ?_
      refine D.skip 9 rfl rfl (by kernel_rfl) rfl ?_
      refine D.sku 10 rfl rfl (by decide) (by kernel_rfl) ?_
      refine D.skip 11 rfl rfl (by kernel_rfl) rfl ?_
      refine D.skip 12 rfl rfl (by kernel_rfl) rfl ?_
      refine D.skip 13 rfl rfl (by kernel_rfl) rfl ?_
      refine D.skip 14 rfl rfl (by kernel_rfl) rfl ?_
      refine D.skip 15 rfl rfl (by kernel_rfl) rfl ?_
      refine D.skip 16 rfl rfl (by kernel_rfl) rfl ?_
      refine D.skip 17 rfl rfl (by kernel_rfl) rfl ?_
      refine D.skip 18 rfl rfl (by kernel_rfl) rfl ?_
      refine D.skip 19 rfl rfl (by kernel_rfl) rfl ?_
      refine D.skip 20 rfl rfl (by kernel_rfl) rfl ?_
      refine D.skip 21 rfl rfl (by kernel_rfl) rfl ?_
      refine D.skip 22 rfl rfl (by kernel_rfl) rfl ?_
      refine D.yp 23 rfl rfl (by decide) (Y.pkt rfl rfl) (by kernel_rfl) ?_
      refine D.done (by kernel_rfl) (E.thn (E.ct rfl (E.seq (E.region (l := [0]) rfl (E.y rfl rfl (by decide) ((Y.as rfl).yd) ?_)))))
      exact E.nil (E.thn (E.ret (E.blr (E.thr (E.thr (E.blr (E.thr (F.r1 (Back.refl _ _) rfl rfl () trivial (congrArg Value.bool (by grind [okFacts, okFs, chain_step, chain_zero, chain_end, ltF, List.drop_eq_getElem_cons, List.drop_eq_nil_of_le, List.take_succ_eq_append_getElem, List.take_of_length_le])) (J := _) (.refl _) (.inl rfl)))))))))
  · refine E.nil (E.thn (E.cf rfl (E.exit (E.the (E.the (E.blh (E.thn (E.seq (E.region (l := [0, 1, 2, 3, 4, 5, 6, 7]) rfl (E.y rfl rfl (by decide) ((Y.mv rfl).yd) ?_))))))))))
    refine E.st rfl rfl (N.call0 t_spec_IsSchema rfl rfl rfl (by decide) (fun w Lp hA => hA.ro hs)) (fun _ _ => (Ent.b (fun q37 => ?_) (fun q37 => ?_)))
    · refine E.y rfl rfl (by decide) ((Y.mv rfl).yd) ?_
      refine E.y rfl rfl (by decide) ((Y.mv rfl).yd) ?_
      refine E.y rfl rfl (by decide) ((Y.len us_Facts rfl).yd) ?_
      refine E.y rfl rfl (by decide) ((Y.leq rfl rfl).yd) ?_
      refine E.y rfl rfl (by decide) ((Y.pkt rfl rfl).yd) ?_
      refine E.y rfl rfl (by decide) ((Y.as rfl).yd) ?_
      exact E.nil (E.thn (E.ret (F.r1 (Back.refl _ _) rfl rfl () trivial (congrArg Value.bool (by grind [okFacts, okFs, chain_step, chain_zero, chain_end, ltF, List.drop_eq_getElem_cons, List.drop_eq_nil_of_le, List.take_succ_eq_append_getElem, List.take_of_length_le])) (J := _) (.refl _) (.inl rfl))))
    · refine E.y rfl rfl (by decide) ((Y.mv rfl).yd) ?_
      refine E.skip rfl rfl rfl ?_
      refine E.skip rfl rfl rfl ?_
      refine E.skip rfl rfl rfl ?_
      refine E.y rfl rfl (by decide) ((Y.pkf rfl rfl).yd) ?_
      refine E.y rfl rfl (by decide) ((Y.as rfl).yd) ?_
      exact E.nil (E.thn (E.ret (F.r1 (Back.refl _ _) rfl rfl () trivial (congrArg Value.bool (by grind [okFacts, okFs, chain_step, chain_zero, chain_end, ltF, List.drop_eq_getElem_cons, List.drop_eq_nil_of_le, List.take_succ_eq_append_getElem, List.take_of_length_le])) (J := _) (.refl _) (.inl rfl))))
end Go.Proofs.YtfnagmokplpnjaaGreat
