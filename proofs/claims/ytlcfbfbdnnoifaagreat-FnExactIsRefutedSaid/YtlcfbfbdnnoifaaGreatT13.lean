import Derived.Test.YtlcfbfbdnnoifaaGreatT12
import Derived.Test.YtlcfbfbdnnoifaaGreatT9
import Derived.Test.YtlcfbfbdnnoifaaGreatT7
import Derived.Test.YtlcfbfbdnnoifaaGreatBd
namespace Go.Proofs.YtlcfbfbdnnoifaaGreat
open Go.RowKit
set_option linter.unusedVariables false
set_option linter.unusedSimpArgs false
set_option maxHeartbeats 2000000
attribute [local irreducible] Nop Yd Yp Ent Has Tr FnP FnP2 Src listsF opnF opn1 opnR chainB
theorem t_impl_AreFacts {a_s : Option Addr} {m_s c_s : Nat} {s : List Int} {a_l : Option Addr} {m_l c_l : Nat} {l : List (Int × List Int)} : Tr Tryz.prog 72 [.slice a_s m_s c_s, .slice a_l m_l c_l] (fun w L => Ro w L eIs [.slice a_s m_s c_s] s ∧ Ro w L eFacts [.slice a_l m_l c_l] l) [] (κ := Unit) (fun k => True) (fun k => .bool (okFacts s l)) (fun k => []) := by
  refine Tr.intro Tryz.func72 rfl (n := 40) rfl (by decide +kernel) (Nat.le_of_ble_eq_true rfl) (fr := [(0, .slice a_s m_s c_s), (1, .slice a_l m_l c_l)]) rfl fun w L hR => ?_
  obtain ⟨hs, hl⟩ := hR
  obtain ⟨rfl, ls⟩ := hs.slen
  obtain ⟨rfl, ll⟩ := hl.slen
  refine E.seq (E.region (l := [0]) rfl (E.y rfl rfl (by decide) ((Y.as rfl).yd) ?_))
  refine E.nil (E.thn (E.seq (E.seq (E.region (l := [0, 1, 2]) rfl (E.y rfl rfl (by decide) ((Y.mv rfl).yd) ?_)))))
  refine E.y rfl rfl (by decide) ((Y.len us_Facts rfl).yd) ?_
  refine E.y rfl rfl (by decide) ((Y.mv rfl).yd) ?_
  refine E.nil (E.thn (E.block (E.loop (κ := Nat) (fun g => g ≤ l.length ∧ okFs s l 0 = okFs s l g) (fun g => [(0, .slice a_s s.length c_s), (1, .slice a_l l.length c_l), (7, .slice a_l l.length c_l), (8, .int .i64 (↑l.length : Int)), (9, .int .i64 (↑g : Int))]) (fun g => []) (fun g => l.length - g) 0 ⟨Nat.zero_le _, by simp⟩ ⟨rfl, rfl, rfl, rfl, rfl, trivial⟩ (.refl _) (fun g pg => ?_))))
  obtain ⟨pk, pa⟩ := pg
  refine E.seq (E.region (l := [0]) rfl (E.y rfl rfl (by decide) ((Y.lss rfl rfl).yd) (Ent.d (fun q10 => ?_) (fun q10 => ?_))))
  · refine E.nil (E.thn (E.seq (E.ct rfl (E.skipc (E.thn (E.seq (E.block (E.seq (E.region (l := [0, 1, 2, 3, 4, 5]) rfl (E.y rfl rfl (by decide) ((Y.mv rfl).yd) ?_))))))))))
    obtain ⟨eb12, eo12, ec12, ea12, er12, el12, eh12⟩ := hl.elem g (by omega)
    obtain ⟨xa12_0, xc12_0, rfl, ei12_0, xh12_0⟩ := Ro.pFact er12
    have := xh12_0.slen.2
    refine E.y rfl rfl (by decide) ((Y.ix us_Facts ty_Fact rfl ea12 rfl g rfl (by omega)).yd) ?_
    refine E.y rfl rfl (by decide) (Y.ldS (cs := [_, _]) ty_Fact rfl (eh12 _) rfl) ?_
    refine E.st rfl rfl (N.alloc ty_Fact (by decide)) (fun b6 _ => ?_)
    refine E.y rfl rfl (by decide) ((Y.as rfl).yd) ?_
    refine E.st rfl rfl (N.sto (vs := [_, _]) (cs' := [_, _]) ty_Fact rfl rfl rfl rfl rfl (Nat.le_of_ble_eq_true rfl) rfl) (fun _ _ => ?_)
    refine E.nil (E.thn (E.seq (D.region (fun j => true) mixed (D.yp 0 rfl rfl (by decide) (Y.mv rfl) (by kernel_rfl) ?_))))
    refine D.y 1 rfl rfl (by decide) (Y.ldS (cs := [_, _]) ty_Fact rfl (Has.pt m0) rfl) (by kernel_rfl) ?_
    refine D.st 2 rfl rfl (by kernel_rfl) (fun _ => rfl) (N.call0 t_impl_IsFact rfl rfl rfl (by decide) (fun w Lp hA => ⟨hA.ro hs, ei12_0, hA.ro xh12_0⟩)) (fun _ _ => (Ent.b (fun q16 => ?_) (fun q16 => ?_)))
    · refine D.yp 3 rfl rfl (by decide) (Y.not (b := true) rfl) (by kernel_rfl) ?_
      refine D.yp 4 rfl rfl (by decide) (Y.mv rfl) (by kernel_rfl) ?_
      refine D.yp 5 rfl rfl (by decide) (Y.mv rfl) (by kernel_rfl) ?_
      refine D.yp 6 rfl rfl (by decide) (Y.gtr rfl rfl) (by kernel_rfl) (Ent.d (fun q20 => ?_) (fun q20 => ?_))
      · refine D.yp 7 rfl rfl (by decide) (Y.mv rfl) (by kernel_rfl) ?_
        refine D.yp 8 rfl rfl (by decide) (Y.mv rfl) (by kernel_rfl) ?_
        refine D.yp 9 rfl rfl (by decide) (Y.mv rfl) (by kernel_rfl) ?_
        refine D.yp 10 rfl rfl (by decide) (Y.sub rfl rfl (by omega) (by omega)) (by kernel_rfl) ?_
        obtain ⟨eb25, eo25, ec25, ea25, er25, el25, eh25⟩ := hl.elem (g - 1) (by omega)
        obtain ⟨xa25_0, xc25_0, rfl, ei25_0, xh25_0⟩ := Ro.pFact er25
        have := xh25_0.slen.2
        refine D.yp 11 rfl rfl (by decide) (Y.ix us_Facts ty_Fact rfl ea25 rfl (g - 1) (by omega) (by omega)) (by kernel_rfl) ?_
        refine D.y 12 rfl rfl (by decide) (Y.ldS (cs := [_, _]) ty_Fact rfl (eh25 _) rfl) (by kernel_rfl) ?_
        refine D.y 13 rfl rfl (by decide) (Y.ldS (cs := [_, _]) ty_Fact rfl (Has.pt m0) rfl) (by kernel_rfl) ?_
        refine D.st 14 rfl rfl (by kernel_rfl) (fun _ => rfl) (N.call0 t_impl_CompareFacts rfl rfl rfl (by decide) (fun w Lp hA => ⟨ei25_0, hA.ro xh25_0, ei12_0, hA.ro xh12_0⟩)) (fun _ _ => ?_)
        refine D.yp 15 rfl rfl (by decide) (Y.geq rfl rfl) (by kernel_rfl) (Ent.d (fun q29 => ?_) (fun q29 => ?_))
        · refine D.yp 16 rfl rfl (by decide) (Y.pkt rfl rfl) (by kernel_rfl) ?_
          refine D.yp 17 rfl rfl (by decide) (Y.pkf rfl rfl) (by kernel_rfl) ?_
          refine D.done (by kernel_rfl) (E.thn (E.ct rfl (E.seq (E.region (l := [0]) rfl (E.y rfl rfl (by decide) ((Y.as rfl).yd) ?_)))))
          exact E.nil (E.thn (E.ret (E.blr (E.thr (E.thr (E.blr (E.thr (F.r1 (Back.refl _ _) rfl rfl () trivial (congrArg Value.bool (by grind [okFacts, okFs, chain_step, chain_zero, chain_end, ltF, List.drop_eq_getElem_cons, List.drop_eq_nil_of_le, List.take_succ_eq_append_getElem, List.take_of_length_le])) (J := _) (.refl _) (.inl rfl)))))))))
        · refine D.yp 16 rfl rfl (by decide) (Y.pkt rfl rfl) (by kernel_rfl) ?_
          refine D.yp 17 rfl rfl (by decide) (Y.pkf rfl rfl) (by kernel_rfl) ?_
          refine D.done (by kernel_rfl) (E.thn (E.cf rfl (E.skipc (E.bln (E.thn (E.region (l := [0, 1]) rfl (E.y rfl rfl (by decide) ((Y.add rfl rfl (by omega) (by omega)).yd) ?_)))))))
          refine E.y rfl rfl (by decide) ((Y.mv rfl).yd) ?_
          refine E.nil (E.thn (Ent.drop ?_))
          exact E.again (Back.refl _ _) (g + 1) ⟨rfl, rfl, rfl, rfl, rfl, trivial⟩ (.refl _) ⟨by omega, by grind [okFs, chain_step, chain_zero, chain_end, ltF, Bool.and_assoc, List.drop_eq_getElem_cons, List.drop_eq_nil_of_le, List.take_succ_eq_append_getElem, List.take_of_length_le]⟩ (by omega)
      · refine D.yp 7 rfl rfl (by decide) (Y.mv rfl) (by kernel_rfl) ?_
        refine D.skip 8 rfl rfl (by kernel_rfl) rfl ?_
        refine D.skip 9 rfl rfl (by kernel_rfl) rfl ?_
        refine D.skip 10 rfl rfl (by kernel_rfl) rfl ?_
        refine D.skip 11 rfl rfl (by kernel_rfl) rfl ?_
        refine D.skip 12 rfl rfl (by kernel_rfl) rfl ?_
        refine D.skip 13 rfl rfl (by kernel_rfl) rfl ?_
        refine D.skip 14 rfl rfl (by kernel_rfl) rfl ?_
        refine D.skip 15 rfl rfl (by kernel_rfl) rfl ?_
        refine D.yp 16 rfl rfl (by decide) (Y.pkf rfl rfl) (by kernel_rfl) ?_
        refine D.yp 17 rfl rfl (by decide) (Y.pkf rfl rfl) (by kernel_rfl) ?_
        refine D.done (by kernel_rfl) (E.thn (E.cf rfl (E.skipc (E.bln (E.thn (E.region (l := [0, 1]) rfl (E.y rfl rfl (by decide) ((Y.add rfl rfl (by omega) (by omega)).yd) ?_)))))))
        refine E.y rfl rfl (by decide) ((Y.mv rfl).yd) ?_
        refine E.nil (E.thn (Ent.drop ?_))
        exact E.again (Back.refl _ _) (g + 1) ⟨rfl, rfl, rfl, rfl, rfl, trivial⟩ (.refl _) ⟨by omega, by grind [okFs, chain_step, chain_zero, chain_end, ltF, Bool.and_assoc, List.drop_eq_getElem_cons, List.drop_eq_nil_of_le, List.take_succ_eq_append_getElem, List.take_of_length_le]⟩ (by omega)
    · refine D.yp 3 rfl rfl (by decide) (Y.not (b := false) rfl) (by kernel_rfl) ?_
      refine D.yp 4 rfl rfl (by decide) (Y.mv rfl) (by kernel_rfl) ?_
      refine D.skip 5 rfl rfl (by kernel_rfl) rfl ?_
      refine D.skip 6 rfl rfl (by kernel_rfl) rfl ?_
      refine D.sku 7 rfl rfl (by decide) (by kernel_rfl) ?_
      refine D.skip 8 rfl rfl (by kernel_rfl) rfl ?_
      refine D.skip 9 rfl rfl (by kernel_rfl) rfl ?_
      refine D.skip 10 rfl rfl (by kernel_rfl) rfl ?_
      refine D.skip 11 rfl rfl (by kernel_rfl) rfl ?_
      refine D.skip 12 rfl rfl (by kernel_rfl) rfl ?_
      refine D.skip 13 rfl rfl (by kernel_rfl) rfl ?_
      refine D.skip 14 rfl rfl (by kernel_rfl) rfl ?_
      refine D.skip 15 rfl rfl (by kernel_rfl) rfl ?_
      refine D.skip 16 rfl rfl (by kernel_rfl) rfl ?_
      refine D.yp 17 rfl rfl (by decide) (Y.pkt rfl rfl) (by kernel_rfl) ?_
      refine D.done (by kernel_rfl) (E.thn (E.ct rfl (E.seq (E.region (l := [0]) rfl (E.y rfl rfl (by decide) ((Y.as rfl).yd) ?_)))))
      exact E.nil (E.thn (E.ret (E.blr (E.thr (E.thr (E.blr (E.thr (F.r1 (Back.refl _ _) rfl rfl () trivial (congrArg Value.bool (by grind [okFacts, okFs, chain_step, chain_zero, chain_end, ltF, List.drop_eq_getElem_cons, List.drop_eq_nil_of_le, List.take_succ_eq_append_getElem, List.take_of_length_le])) (J := _) (.refl _) (.inl rfl)))))))))
  · refine E.nil (E.thn (E.seq (E.cf rfl (E.exit (E.the (E.the (E.blh (E.thn (E.seq (E.region (l := [0, 1, 2, 3, 4, 5, 6, 7]) rfl (E.y rfl rfl (by decide) ((Y.mv rfl).yd) ?_)))))))))))
    refine E.st rfl rfl (N.call0 t_impl_IsSchema rfl rfl rfl (by decide) (fun w Lp hA => hA.ro hs)) (fun _ _ => (Ent.b (fun q34 => ?_) (fun q34 => ?_)))
    · refine E.y rfl rfl (by decide) ((Y.mv rfl).yd) ?_
      refine E.y rfl rfl (by decide) ((Y.mv rfl).yd) ?_
      refine E.y rfl rfl (by decide) ((Y.len us_Facts rfl).yd) ?_
      refine E.y rfl rfl (by decide) ((Y.leq rfl rfl).yd) ?_
      refine E.y rfl rfl (by decide) ((Y.pkt rfl rfl).yd) ?_
      refine E.y rfl rfl (by decide) ((Y.as rfl).yd) ?_
      exact E.nil (E.thn (E.ret (F.r1 (Back.refl _ _) rfl rfl () trivial (congrArg Value.bool (by grind [okFacts, okFs, chain_step, chain_zero, chain_end, ltF, List.drop_eq_getElem_cons, List.drop_eq_nil_of_le, List.take_succ_eq_append_getElem, List.take_of_length_le])) (J := _) (.refl _) (.inl rfl))))
    · refine E.y rfl rfl (by decide) ((Y.mv rfl).yd) ?_
      refine E.skip rfl rfl rfl ?_
      refine E.skip rfl rfl rfl ?_
      refine E.skip rfl rfl rfl ?_
      refine E.y rfl rfl (by decide) ((Y.pkf rfl rfl).yd) ?_
      refine E.y rfl rfl (by decide) ((Y.as rfl).yd) ?_
      exact E.nil (E.thn (E.ret (F.r1 (Back.refl _ _) rfl rfl () trivial (congrArg Value.bool (by grind [okFacts, okFs, chain_step, chain_zero, chain_end, ltF, List.drop_eq_getElem_cons, List.drop_eq_nil_of_le, List.take_succ_eq_append_getElem, List.take_of_length_le])) (J := _) (.refl _) (.inl rfl))))
theorem t_spec_AreFacts {a_s : Option Addr} {m_s c_s : Nat} {s : List Int} {a_l : Option Addr} {m_l c_l : Nat} {l : List (Int × List Int)} : Tr Tryz.prog 68 [.slice a_s m_s c_s, .slice a_l m_l c_l] (fun w L => Ro w L eIs [.slice a_s m_s c_s] s ∧ Ro w L eFacts [.slice a_l m_l c_l] l) [] (κ := Unit) (fun k => True) (fun k => .bool (okFacts s l)) (fun k => []) := by
  refine Tr.intro Tryz.func68 rfl (n := 43) rfl (by decide +kernel) (Nat.le_of_ble_eq_true rfl) (fr := [(0, .slice a_s m_s c_s), (1, .slice a_l m_l c_l)]) rfl fun w L hR => ?_
  obtain ⟨hs, hl⟩ := hR
  obtain ⟨rfl, ls⟩ := hs.slen
  obtain ⟨rfl, ll⟩ := hl.slen
  refine E.seq (E.region (l := [0]) rfl (E.y rfl rfl (by decide) ((Y.as rfl).yd) ?_))
  refine E.nil (E.thn (E.seq (E.seq (E.region (l := [0]) rfl (E.y rfl rfl (by decide) ((Y.as rfl).yd) ?_)))))
  refine E.nil (E.thn (E.block (E.loop (κ := Nat) (fun g => g ≤ l.length ∧ okFs s l 0 = okFs s l g) (fun g => [(0, .slice a_s s.length c_s), (1, .slice a_l l.length c_l), (5, .int .i64 (↑g : Int))]) (fun g => []) (fun g => l.length - g) 0 ⟨Nat.zero_le _, by simp⟩ ⟨rfl, rfl, rfl, trivial⟩ (.refl _) (fun g pg => ?_))))
  obtain ⟨pk, pa⟩ := pg
  refine E.seq (E.seq (E.region (l := [0, 1, 2, 3]) rfl (E.y rfl rfl (by decide) ((Y.mv rfl).yd) ?_)))
  refine E.y rfl rfl (by decide) ((Y.mv rfl).yd) ?_
  refine E.y rfl rfl (by decide) ((Y.len us_Facts rfl).yd) ?_
  refine E.y rfl rfl (by decide) ((Y.lss rfl rfl).yd) (Ent.d (fun q9 => ?_) (fun q9 => ?_))
  · refine E.nil (E.thn (E.ct rfl (E.skipc (E.thn (E.seq (E.block (E.seq (D.region (fun j => true) mixed (D.yp 0 rfl rfl (by decide) (Y.mv rfl) (by kernel_rfl) ?_)))))))))
    refine D.yp 1 rfl rfl (by decide) (Y.mv rfl) (by kernel_rfl) ?_
    refine D.yp 2 rfl rfl (by decide) (Y.mv rfl) (by kernel_rfl) ?_
    obtain ⟨eb15, eo15, ec15, ea15, er15, el15, eh15⟩ := hl.elem g (by omega)
    obtain ⟨xa15_0, xc15_0, rfl, ei15_0, xh15_0⟩ := Ro.pFact er15
    have := xh15_0.slen.2
    refine D.yp 3 rfl rfl (by decide) (Y.ix us_Facts ty_Fact rfl ea15 rfl g rfl (by omega)) (by kernel_rfl) ?_
    refine D.y 4 rfl rfl (by decide) (Y.ldS (cs := [_, _]) ty_Fact rfl (eh15 _) rfl) (by kernel_rfl) ?_
    refine D.st 5 rfl rfl (by kernel_rfl) (fun _ => rfl) (N.call0 t_spec_IsFact rfl rfl rfl (by decide) (fun w Lp hA => ⟨hA.ro hs, ei15_0, hA.ro xh15_0⟩)) (fun _ _ => (Ent.b (fun q17 => ?_) (fun q17 => ?_)))
    · refine D.yp 6 rfl rfl (by decide) (Y.not (b := true) rfl) (by kernel_rfl) ?_
      refine D.yp 7 rfl rfl (by decide) (Y.mv rfl) (by kernel_rfl) ?_
      refine D.yp 8 rfl rfl (by decide) (Y.mv rfl) (by kernel_rfl) ?_
      refine D.yp 9 rfl rfl (by decide) (Y.gtr rfl rfl) (by kernel_rfl) (Ent.d (fun q21 => ?_) (fun q21 => ?_))
      · refine D.yp 10 rfl rfl (by decide) (Y.mv rfl) (by kernel_rfl) ?_
        refine D.yp 11 rfl rfl (by decide) (Y.mv rfl) (by kernel_rfl) ?_
        refine D.yp 12 rfl rfl (by decide) (Y.mv rfl) (by kernel_rfl) ?_
        refine D.yp 13 rfl rfl (by decide) (Y.sub rfl rfl (by omega) (by omega)) (by kernel_rfl) ?_
        obtain ⟨eb26, eo26, ec26, ea26, er26, el26, eh26⟩ := hl.elem (g - 1) (by omega)
        obtain ⟨xa26_0, xc26_0, rfl, ei26_0, xh26_0⟩ := Ro.pFact er26
        have := xh26_0.slen.2
        refine D.yp 14 rfl rfl (by decide) (Y.ix us_Facts ty_Fact rfl ea26 rfl (g - 1) (by omega) (by omega)) (by kernel_rfl) ?_
        refine D.y 15 rfl rfl (by decide) (Y.ldS (cs := [_, _]) ty_Fact rfl (eh26 _) rfl) (by kernel_rfl) ?_
        refine D.yp 16 rfl rfl (by decide) (Y.mv rfl) (by kernel_rfl) ?_
        refine D.yp 17 rfl rfl (by decide) (Y.mv rfl) (by kernel_rfl) ?_
        refine D.yp 18 rfl rfl (by decide) (Y.ix us_Facts ty_Fact rfl ea15 rfl g rfl (by omega)) (by kernel_rfl) ?_
        refine D.y 19 rfl rfl (by decide) (Y.ldS (cs := [_, _]) ty_Fact rfl (eh15 _) rfl) (by kernel_rfl) ?_
        refine D.st 20 rfl rfl (by kernel_rfl) (fun _ => rfl) (N.call0 t_spec_CompareFacts rfl rfl rfl (by decide) (fun w Lp hA => ⟨ei26_0, hA.ro xh26_0, ei15_0, hA.ro xh15_0⟩)) (fun _ _ => ?_)
        refine D.yp 21 rfl rfl (by decide) (Y.geq rfl rfl) (by kernel_rfl) (Ent.d (fun q33 => ?_) (fun q33 => ?_))
        · refine D.yp 22 rfl rfl (by decide) (Y.pkt rfl rfl) (by kernel_rfl) ?_
          refine D.yp 23 rfl rfl (by decide) (Y.pkf rfl rfl) (by kernel_rfl) ?_
          refine D.done (by kernel_rfl) (E.thn (E.ct rfl (E.seq (E.region (l := [0]) rfl (E.y rfl rfl (by decide) ((Y.as rfl).yd) ?_)))))
          exact E.nil (E.thn (E.ret (E.blr (E.thr (E.thr (E.blr (E.thr (F.r1 (Back.refl _ _) rfl rfl () trivial (congrArg Value.bool (by grind [okFacts, okFs, chain_step, chain_zero, chain_end, ltF, List.drop_eq_getElem_cons, List.drop_eq_nil_of_le, List.take_succ_eq_append_getElem, List.take_of_length_le])) (J := _) (.refl _) (.inl rfl)))))))))
        · refine D.yp 22 rfl rfl (by decide) (Y.pkt rfl rfl) (by kernel_rfl) ?_
          refine D.yp 23 rfl rfl (by decide) (Y.pkf rfl rfl) (by kernel_rfl) ?_
          refine D.done (by kernel_rfl) (E.thn (E.cf rfl (E.skipc (E.bln (E.thn (E.region (l := [0, 1, 2]) rfl (E.y rfl rfl (by decide) ((Y.mv rfl).yd) ?_)))))))
          refine E.y rfl rfl (by decide) ((Y.add rfl rfl (by omega) (by omega)).yd) ?_
          refine E.y rfl rfl (by decide) ((Y.as rfl).yd) ?_
          exact E.nil (E.thn (E.again (Back.refl _ _) (g + 1) ⟨rfl, rfl, rfl, trivial⟩ (.refl _) ⟨by omega, by grind [okFs, chain_step, chain_zero, chain_end, ltF, Bool.and_assoc, List.drop_eq_getElem_cons, List.drop_eq_nil_of_le, List.take_succ_eq_append_getElem, List.take_of_length_le]⟩ (by omega)))
      · refine D.yp 10 rfl rfl (by decide) (Y.mv rfl) (by kernel_rfl) ?_
        refine D.skip 11 rfl rfl (by kernel_rfl) rfl ?_
        refine D.skip 12 rfl rfl (by kernel_rfl) rfl ?_
        refine D.skip 13 rfl rfl (by kernel_rfl) rfl ?_
        refine D.skip 14 rfl rfl (by kernel_rfl) rfl ?_
        refine D.skip 15 rfl rfl (by kernel_rfl) rfl ?_
        refine D.skip 16 rfl rfl (by kernel_rfl) rfl ?_
        refine D.skip 17 rfl rfl (by kernel_rfl) rfl ?_
        refine D.skip 18 rfl rfl (by kernel_rfl) rfl ?_
        refine D.skip 19 rfl rfl (by kernel_rfl) rfl ?_
        refine D.skip 20 rfl rfl (by kernel_rfl) rfl ?_
        refine D.skip 21 rfl rfl (by kernel_rfl) rfl ?_
        refine D.yp 22 rfl rfl (by decide) (Y.pkf rfl rfl) (by kernel_rfl) ?_
        refine D.yp 23 rfl rfl (by decide) (Y.pkf rfl rfl) (by kernel_rfl) ?_
        refine D.done (by kernel_rfl) (E.thn (E.cf rfl (E.skipc (E.bln (E.thn (E.region (l := [0, 1, 2]) rfl (E.y rfl rfl (by decide) ((Y.mv rfl).yd) ?_)))))))
        refine E.y rfl rfl (by decide) ((Y.add rfl rfl (by omega) (by omega)).yd) ?_
        refine E.y rfl rfl (by decide) ((Y.as rfl).yd) ?_
        exact E.nil (E.thn (E.again (Back.refl _ _) (g + 1) ⟨rfl, rfl, rfl, trivial⟩ (.refl _) ⟨by omega, by grind [okFs, chain_step, chain_zero, chain_end, ltF, Bool.and_assoc, List.drop_eq_getElem_cons, List.drop_eq_nil_of_le, List.take_succ_eq_append_getElem, List.take_of_length_le]⟩ (by omega)))
    · refine D.yp 6 rfl rfl (by decide) (Y.not (b := false) rfl) (by kernel_rfl) ?_
      refine D.yp 7 rfl rfl (by decide) (Y.mv rfl) (by kernel_rfl) ?_
      refine D.skip 8 rfl rfl (by kernel_rfl) rfl ?_
      refine D.skip 9 rfl rfl (by kernel_rfl) rfl ?_
      refine D.sku 10 rfl rfl (by decide) (by kernel_rfl) ?_
      refine D.skip 11 rfl rfl (by kernel_rfl) rfl ?_
      refine D.skip 12 rfl rfl (by kernel_rfl) rfl ?_
      refine D.skip 13 rfl rfl (by kernel_rfl) rfl ?_
      refine D.skip 14 rfl rfl (by kernel_rfl) rfl ?_
      refine D.skip 15 rfl rfl (by kernel_rfl) rfl ?_
      refine D.skip 16 rfl rfl (by kernel_rfl) rfl ?_
      refine D.skip 17 rfl rfl (by kernel_rfl) rfl ?_
      refine D.skip 18 rfl rfl (by kernel_rfl) rfl ?_
      refine D.skip 19 rfl rfl (by kernel_rfl) rfl ?_
      refine D.skip 20 rfl rfl (by kernel_rfl) rfl ?_
      refine D.skip 21 rfl rfl (by kernel_rfl) rfl ?_
      refine D.skip 22 rfl rfl (by kernel_rfl) rfl ?_
      refine D.yp 23 rfl rfl (by decide) (Y.pkt rfl rfl) (by kernel_rfl) ?_
      refine D.done (by kernel_rfl) (E.thn (E.ct rfl (E.seq (E.region (l := [0]) rfl (E.y rfl rfl (by decide) ((Y.as rfl).yd) ?_)))))
      exact E.nil (E.thn (E.ret (E.blr (E.thr (E.thr (E.blr (E.thr (F.r1 (Back.refl _ _) rfl rfl () trivial (congrArg Value.bool (by grind [okFacts, okFs, chain_step, chain_zero, chain_end, ltF, List.drop_eq_getElem_cons, List.drop_eq_nil_of_le, List.take_succ_eq_append_getElem, List.take_of_length_le])) (J := _) (.refl _) (.inl rfl)))))))))
  · refine E.nil (E.thn (E.cf rfl (E.exit (E.the (E.the (E.blh (E.thn (E.seq (E.region (l := [0, 1, 2, 3, 4, 5, 6, 7]) rfl (E.y rfl rfl (by decide) ((Y.mv rfl).yd) ?_))))))))))
    refine E.st rfl rfl (N.call0 t_spec_IsSchema rfl rfl rfl (by decide) (fun w Lp hA => hA.ro hs)) (fun _ _ => (Ent.b (fun q37 => ?_) (fun q37 => ?_)))
    · refine E.y rfl rfl (by decide) ((Y.mv rfl).yd) ?_
      refine E.y rfl rfl (by decide) ((Y.mv rfl).yd) ?_
      refine E.y rfl rfl (by decide) ((Y.len us_Facts rfl).yd) ?_
      refine E.y rfl rfl (by decide) ((Y.leq rfl rfl).yd) ?_
      refine E.y rfl rfl (by decide) ((Y.pkt rfl rfl).yd) ?_
      refine E.y rfl rfl (by decide) ((Y.as rfl).yd) ?_
      exact E.nil (E.thn (E.ret (F.r1 (Back.refl _ _) rfl rfl () trivial (congrArg Value.bool (by grind [okFacts, okFs, chain_step, chain_zero, chain_end, ltF, List.drop_eq_getElem_cons, List.drop_eq_nil_of_le, List.take_succ_eq_append_getElem, List.take_of_length_le])) (J := _) (.refl _) (.inl rfl))))
    · refine E.y rfl rfl (by decide) ((Y.mv rfl).yd) ?_
      refine E.skip rfl rfl rfl ?_
      refine E.skip rfl rfl rfl ?_
      refine E.skip rfl rfl rfl ?_
      refine E.y rfl rfl (by decide) ((Y.pkf rfl rfl).yd) ?_
      refine E.y rfl rfl (by decide) ((Y.as rfl).yd) ?_
      exact E.nil (E.thn (E.ret (F.r1 (Back.refl _ _) rfl rfl () trivial (congrArg Value.bool (by grind [okFacts, okFs, chain_step, chain_zero, chain_end, ltF, List.drop_eq_getElem_cons, List.drop_eq_nil_of_le, List.take_succ_eq_append_getElem, List.take_of_length_le])) (J := _) (.refl _) (.inl rfl))))
end Go.Proofs.YtlcfbfbdnnoifaaGreat
