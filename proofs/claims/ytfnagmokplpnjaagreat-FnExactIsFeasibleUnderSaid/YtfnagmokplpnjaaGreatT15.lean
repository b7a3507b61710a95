import Derived.Test.YtfnagmokplpnjaaGreatBs
import Derived.Test.YtfnagmokplpnjaaGreatT14
import Derived.Test.YtfnagmokplpnjaaGreatT1
import Derived.Test.YtfnagmokplpnjaaGreatBc
import Derived.Test.YtfnagmokplpnjaaGreatT5
import Derived.Test.YtfnagmokplpnjaaGreatBd
namespace Go.Proofs.YtfnagmokplpnjaaGreat
open Go.RowKit
set_option linter.unusedVariables false
set_option linter.unusedSimpArgs false
set_option maxHeartbeats 2000000
attribute [local irreducible] Nop Yd Yp Ent Has Tr FnP FnP2 Src closeF closeIt missF missR closeR
theorem t_impl_closed {a_l : Option Addr} {m_l c_l : Nat} {l : List (Int × Int × List Int)} {a_facts : Option Addr} {m_facts c_facts : Nat} {facts : List (Int × List Int)} (hok : ∃ s, okRules s l = true ∧ okFacts s facts = true) : Tr Tryz.prog 126 [.slice a_l m_l c_l, .slice a_facts m_facts c_facts] (fun w L => Ro w L eRules [.slice a_l m_l c_l] l ∧ Ro w L eFacts [.slice a_facts m_facts c_facts] facts) [] (κ := Option Addr × Nat × Nat) (fun k => True) (fun k => .slice k.1 k.2.1 k.2.2) (fun k => [ow eFacts [.slice k.1 k.2.1 k.2.2] (closeF l facts)]) := by
  refine Tr.intro Tryz.func126 rfl (n := 28) rfl (by decide +kernel) bl (fr := [(0, .slice a_l m_l c_l), (1, .slice a_facts m_facts c_facts)]) rfl fun w L hR => ?_
  obtain ⟨hl, hfacts⟩ := hR
  obtain ⟨rfl, ll⟩ := hl.slen
  obtain ⟨rfl, lfacts⟩ := hfacts.slen
  have hn := ok_len hok
  refine Eq_ (Er (l := [0]) rfl (Eas rfl rfl (En (Et (Eq_ (Er (l := [0, 1, 2]) rfl (Emv rfl rfl (Est rfl (N.call (t_impl_copyFacts om (ok_el hok)) rfl rfl rfl dc rfl (fun w Lp hA => hA.ro hfacts)) (fun k10 _ => ?_)))))))))
  obtain ⟨a10, m10, c10⟩ := k10
  refine Ent.lenow m0 fun e10 l10 => ?_
  subst e10
  refine Eas rfl rfl (En (Et (E.block (Ent.cv (congrArg (ow eFacts [_]) (show facts = closeIt l facts 0 from by first | rfl | (simp; done) | grind [closeIt, d1, d2, t1, t2])) (E.loop (κ := Nat × Option Addr × Nat × Nat) (fun n => n.1 ≤ 6000 ∧ cInv l facts n.1) (fun n => [(0, .slice a_l l.length c_l), (5, .slice n.2.1 n.2.2.1 n.2.2.2)]) (fun n => [ow eFacts [.slice n.2.1 n.2.2.1 n.2.2.2] (closeIt l facts n.1)]) (fun n => 6000 - n.1) (0, a10, (facts).length, c10) ⟨Nat.zero_le _, cInv_zero hok⟩ ⟨rfl, rfl, trivial⟩ (.refl _) (fun n pn => ?_))))))
  obtain ⟨n, aA0_0, mA0_0, cA0_0⟩ := n
  try dsimp only at pn
  try dsimp only
  obtain ⟨pk, pa⟩ := pn
  have pc0 := pa
  have pb := cInv_le pa
  refine Ent.lenow m0 fun eaA0_0 laA0_0 => ?_
  subst eaA0_0
  refine E.block (Eq_ (Er (l := [0, 1, 2, 3]) rfl (Emv rfl rfl (Emv rfl rfl (Est rfl (N.call (t_impl_missing (cInv_h pc0).1 (cInv_h pc0).2.1 om om) rfl rfl rfl dc rfl (fun w Lp hA => ⟨hA.ro hl, hA.ow m0⟩)) (fun k13 _ => ?_))))))
  obtain ⟨a13, m13, c13⟩ := k13
  refine Ent.lenow m0 fun e13 l13 => ?_
  subst e13
  refine Ent.rebase (A := [_]) rfl fun wb1 Lb1 hB1 hA1 => ?_
  have hl := hA1.ro hl
  have rb1 : Ro wb1 Lb1 eFacts [.slice a13 (missF l (closeIt l facts n)).length c13] (missF l (closeIt l facts n)) := hA1.ow m0
  refine Eas rfl rfl (En (Et (Eq_ (Eq_ (Er (l := [0, 1, 2]) rfl (Emv rfl rfl (Ey rfl ((Y.len us_Facts rfl).yd) (Ey rfl ((Y.eql rfl rfl).yd) (Ent.d (fun q16 => ?_) (fun q16 => ?_))))))))))
  · refine En (Et (E.ct rfl (Eq_ (Er (l := [0, 1]) rfl (Emv rfl rfl (Eas rfl rfl (En (Et (E.ret (E.thr (E.blr (E.thr (E.blr (Ent.cv (congrArg (ow eFacts [_]) (show _ = closeF l facts by exact close_done om (List.length_eq_zero_iff.1 (by first | omega | exact Int.ofNat.inj q16)))) ?_))))))))))))))
    exact F.r1 hB1 rfl rfl (_, _, _) trivial rfl (J := _) (.refl _) (.inl rfl)
  · refine En (Et (E.cf rfl (E.skipc (Et (Eq_ (Er (l := [0, 1, 2]) rfl (Emv rfl rfl (Ey rfl ((Y.len us_Facts rfl).yd) (Emv rfl rfl (En (Et (E.block (Ent.cv (congrArg (ow eFacts [_]) (show closeIt l facts n = ((missF l (closeIt l facts n)).take 0).foldl addF (closeIt l facts n) from by first | rfl | (simp; done) | grind [closeIt, d1, d2, t1, t2])) (E.loop (κ := Nat × Option Addr × Nat × Nat) (fun h => h.1 ≤ (missF l (closeIt l facts n)).length ∧ True) (fun h => [(0, .slice a_l l.length c_l), (5, .slice h.2.1 h.2.2.1 h.2.2.2), (18, .slice a13 (missF l (closeIt l facts n)).length c13), (19, .int .i64 (↑((missF l (closeIt l facts n)).length) : Int)), (20, .int .i64 (↑h.1 : Int))]) (fun h => [ow eFacts [.slice h.2.1 h.2.2.1 h.2.2.2] (((missF l (closeIt l facts n)).take h.1).foldl addF (closeIt l facts n))]) (fun h => (missF l (closeIt l facts n)).length - h.1) (0, aA0_0, (closeIt l facts n).length, cA0_0) ⟨Nat.zero_le _, by simp⟩ ⟨rfl, rfl, rfl, rfl, rfl, trivial⟩ (.refl _) (fun h ph => ?_)))))))))))))))
    obtain ⟨h, aA1_0, mA1_0, cA1_0⟩ := h
    try dsimp only at ph
    try dsimp only
    obtain ⟨pk, pa⟩ := ph
    have jf := fold_len (m := (missF l (closeIt l facts n)).take h) (x := closeIt l facts n)
    have jt := List.length_take_le h (missF l (closeIt l facts n))
    refine Ent.lenow m0 fun eaA1_0 laA1_0 => ?_
    subst eaA1_0
    refine Eq_ (Er (l := [0]) rfl (Ey rfl ((Y.lss rfl rfl).yd) (Ent.d (fun q21 => ?_) (fun q21 => ?_))))
    · obtain ⟨eb22, eo22, ec22, ea22, er22, el22, eh22⟩ := rb1.elem h om
      obtain ⟨xa22_0, xc22_0, rfl, ei22_0, xh22_0⟩ := Ro.pFact er22
      have := xh22_0.slen.2
      refine En (Et (Eq_ (E.ct rfl (E.skipc (Et (Eq_ (E.block (Eq_ (Er (l := [0, 1, 2, 3]) rfl (Ey rfl ((Y.ix us_Facts ty_Fact rfl ea22 rfl h rfl om).yd) (Ey rfl (Y.ldS (cs := [_, _]) ty_Fact rfl (eh22 _) rfl) (Est rfl (N.alloc ty_Fact dc) (fun b8 _ => (Est rfl (N.sto (vs := [_, _]) (cs' := [_, _]) ty_Fact rfl rfl rfl rfl rfl bl rfl) (fun _ _ => (En (Et (Er (l := [0, 1, 2, 3]) rfl (Emv rfl rfl (Ey rfl (Y.ldS (cs := [_, _]) ty_Fact rfl (Has.pt m0) rfl) (Ent.p1 (Est rfl (N.call (pre := [_]) (t_impl_added om ((cInv_h pc0).2.2.1 _ (List.getElem_mem om))) rfl rfl rfl dc rfl (fun w Lp hA => ⟨ei22_0, hA.ro xh22_0⟩)) (fun k26 _ => ?_)))))))))))))))))))))))
      obtain ⟨a26, m26, c26⟩ := k26
      refine Ent.lenow m0 fun e26 l26 => ?_
      subst e26
      refine Eas rfl rfl (En (E.bln (Et (Er (l := [0, 1]) rfl (Ey rfl ((Y.add rfl rfl om om).yd) (Emv rfl rfl (En (Et (Ent.p1 (Ent.drop (Ent.cv (congrArg (ow eFacts [_]) (show addF (((missF l (closeIt l facts n)).take h).foldl addF (closeIt l facts n)) (((missF l (closeIt l facts n))[h].1), ((missF l (closeIt l facts n))[h].2)) = ((missF l (closeIt l facts n)).take (h + 1)).foldl addF (closeIt l facts n) from by grind [closeIt, d1, d2, t1, t2])) ?_)))))))))))
      exact E.again br (h + 1, a26, (addF (((missF l (closeIt l facts n)).take h).foldl addF (closeIt l facts n)) (((missF l (closeIt l facts n))[h].1), ((missF l (closeIt l facts n))[h].2))).length, c26) ⟨rfl, rfl, rfl, rfl, rfl, trivial⟩ (.refl _) ⟨(show h + 1 ≤ (missF l (closeIt l facts n)).length from by omega), trivial⟩ (show (missF l (closeIt l facts n)).length - (h + 1) < (missF l (closeIt l facts n)).length - h from by omega)
    · have pc := cInv_step pc0 (fun e => by rw [e] at q16; exact q16 rfl)
      have pd := cInv_le pc
      refine En (Et (Eq_ (E.cf rfl (E.exit (E.the (E.the (E.blh (E.bln (Et (Ent.cv (congrArg (ow eFacts [_]) (show ((missF l (closeIt l facts n)).take h).foldl addF (closeIt l facts n) = closeIt l facts (n + 1) from by grind [closeIt, d1, d2, t1, t2])) ?_))))))))))
      exact E.again hB1 (n + 1, aA1_0, (((missF l (closeIt l facts n)).take h).foldl addF (closeIt l facts n)).length, cA1_0) ⟨rfl, rfl, trivial⟩ (.refl _) ⟨(show n + 1 ≤ 6000 from by omega), (show cInv l facts (n + 1) from by exact pc)⟩ (show 6000 - (n + 1) < 6000 - n from by omega)
theorem t_spec_l13Close {a_l : Option Addr} {m_l c_l : Nat} {l : List (Int × Int × List Int)} {a_facts : Option Addr} {m_facts c_facts : Nat} {facts : List (Int × List Int)} (hok : ∃ s, okRules s l = true ∧ okFacts s facts = true) : Tr Tryz.prog 118 [.slice a_l m_l c_l, .slice a_facts m_facts c_facts] (fun w L => Ro w L eRules [.slice a_l m_l c_l] l ∧ Ro w L eFacts [.slice a_facts m_facts c_facts] facts) [] (κ := Option Addr × Nat × Nat) (fun k => True) (fun k => .slice k.1 k.2.1 k.2.2) (fun k => [ow eFacts [.slice k.1 k.2.1 k.2.2] (closeF l facts)]) := by
  refine Tr.intro Tryz.func118 rfl (n := 29) rfl (by decide +kernel) bl (fr := [(0, .slice a_l m_l c_l), (1, .slice a_facts m_facts c_facts)]) rfl fun w L hR => ?_
  obtain ⟨hl, hfacts⟩ := hR
  obtain ⟨rfl, ll⟩ := hl.slen
  obtain ⟨rfl, lfacts⟩ := hfacts.slen
  have hn := ok_len hok
  refine Eq_ (Er (l := [0]) rfl (Eas rfl rfl (En (Et (Eq_ (Er (l := [0, 1, 2]) rfl (Emv rfl rfl (Est rfl (N.call (t_spec_l2Copy om (ok_el hok)) rfl rfl rfl dc rfl (fun w Lp hA => hA.ro hfacts)) (fun k9 _ => ?_)))))))))
  obtain ⟨a9, m9, c9⟩ := k9
  refine Ent.lenow m0 fun e9 l9 => ?_
  subst e9
  refine Eas rfl rfl (En (Et (E.block (Ent.cv (congrArg (ow eFacts [_]) (show facts = closeIt l facts 0 from by first | rfl | (simp; done) | grind [closeIt, d1, d2, t1, t2])) (E.loop (κ := Nat × Option Addr × Nat × Nat) (fun n => n.1 ≤ 6000 ∧ cInv l facts n.1) (fun n => [(0, .slice a_l l.length c_l), (5, .slice n.2.1 n.2.2.1 n.2.2.2)]) (fun n => [ow eFacts [.slice n.2.1 n.2.2.1 n.2.2.2] (closeIt l facts n.1)]) (fun n => 6000 - n.1) (0, a9, (facts).length, c9) ⟨Nat.zero_le _, cInv_zero hok⟩ ⟨rfl, rfl, trivial⟩ (.refl _) (fun n pn => ?_))))))
  obtain ⟨n, aA0_0, mA0_0, cA0_0⟩ := n
  try dsimp only at pn
  try dsimp only
  obtain ⟨pk, pa⟩ := pn
  have pc0 := pa
  have pb := cInv_le pa
  refine Ent.lenow m0 fun eaA0_0 laA0_0 => ?_
  subst eaA0_0
  refine E.block (Eq_ (Er (l := [0, 1, 2, 3]) rfl (Emv rfl rfl (Emv rfl rfl (Est rfl (N.call (t_spec_l13Missing (cInv_h pc0).1 (cInv_h pc0).2.1 om om) rfl rfl rfl dc rfl (fun w Lp hA => ⟨hA.ro hl, hA.ow m0⟩)) (fun k12 _ => ?_))))))
  obtain ⟨a12, m12, c12⟩ := k12
  refine Ent.lenow m0 fun e12 l12 => ?_
  subst e12
  refine Ent.rebase (A := [_]) rfl fun wb2 Lb2 hB2 hA2 => ?_
  have hl := hA2.ro hl
  have rb2 : Ro wb2 Lb2 eFacts [.slice a12 (missF l (closeIt l facts n)).length c12] (missF l (closeIt l facts n)) := hA2.ow m0
  refine Eas rfl rfl (En (Et (Eq_ (Eq_ (Er (l := [0, 1, 2]) rfl (Emv rfl rfl (Ey rfl ((Y.len us_Facts rfl).yd) (Ey rfl ((Y.eql rfl rfl).yd) (Ent.d (fun q15 => ?_) (fun q15 => ?_))))))))))
  · refine En (Et (E.ct rfl (Eq_ (Er (l := [0, 1]) rfl (Emv rfl rfl (Eas rfl rfl (En (Et (E.ret (E.thr (E.blr (E.thr (E.blr (Ent.cv (congrArg (ow eFacts [_]) (show _ = closeF l facts by exact close_done om (List.length_eq_zero_iff.1 (by first | omega | exact Int.ofNat.inj q15)))) ?_))))))))))))))
    exact F.r1 hB2 rfl rfl (_, _, _) trivial rfl (J := _) (.refl _) (.inl rfl)
  · refine En (Et (E.cf rfl (E.skipc (Et (Eq_ (Er (l := [0]) rfl (Eas rfl rfl (En (Et (E.block (Ent.cv (congrArg (ow eFacts [_]) (show closeIt l facts n = ((missF l (closeIt l facts n)).take 0).foldl addF (closeIt l facts n) from by first | rfl | (simp; done) | grind [closeIt, d1, d2, t1, t2])) (E.loop (κ := Nat × Option Addr × Nat × Nat) (fun h => h.1 ≤ (missF l (closeIt l facts n)).length ∧ True) (fun h => [(0, .slice a_l l.length c_l), (5, .slice h.2.1 h.2.2.1 h.2.2.2), (6, .slice a12 (missF l (closeIt l facts n)).length c12), (7, .int .i64 (↑h.1 : Int))]) (fun h => [ow eFacts [.slice h.2.1 h.2.2.1 h.2.2.2] (((missF l (closeIt l facts n)).take h.1).foldl addF (closeIt l facts n))]) (fun h => (missF l (closeIt l facts n)).length - h.1) (0, aA0_0, (closeIt l facts n).length, cA0_0) ⟨Nat.zero_le _, by simp⟩ ⟨rfl, rfl, rfl, rfl, trivial⟩ (.refl _) (fun h ph => ?_)))))))))))))
    obtain ⟨h, aA1_0, mA1_0, cA1_0⟩ := h
    try dsimp only at ph
    try dsimp only
    obtain ⟨pk, pa⟩ := ph
    have jf := fold_len (m := (missF l (closeIt l facts n)).take h) (x := closeIt l facts n)
    have jt := List.length_take_le h (missF l (closeIt l facts n))
    refine Ent.lenow m0 fun eaA1_0 laA1_0 => ?_
    subst eaA1_0
    refine Eq_ (Eq_ (Er (l := [0, 1, 2, 3]) rfl (Emv rfl rfl (Emv rfl rfl (Ey rfl ((Y.len us_Facts rfl).yd) (Ey rfl ((Y.lss rfl rfl).yd) (Ent.d (fun q20 => ?_) (fun q20 => ?_))))))))
    · refine En (Et (E.ct rfl (E.skipc (Et (Eq_ (E.block (Er (l := [0, 1, 2, 3, 4, 5, 6]) rfl (Emv rfl rfl (Emv rfl rfl (Emv rfl rfl ?_))))))))))
      obtain ⟨eb26, eo26, ec26, ea26, er26, el26, eh26⟩ := rb2.elem h om
      obtain ⟨xa26_0, xc26_0, rfl, ei26_0, xh26_0⟩ := Ro.pFact er26
      have := xh26_0.slen.2
      refine Ey rfl ((Y.ix us_Facts ty_Fact rfl ea26 rfl h rfl om).yd) (Ey rfl (Y.ldS (cs := [_, _]) ty_Fact rfl (eh26 _) rfl) (Est rfl (N.call (t_spec_AddFact om (fold_elt (cInv_h pc0).2.2.1 (cInv_h pc0).2.2.2) ((cInv_h pc0).2.2.1 _ (List.getElem_mem om))) rfl rfl rfl dc rfl (fun w Lp hA => ⟨hA.ow m0, ei26_0, hA.ro xh26_0⟩)) (fun k28 _ => ?_)))
      obtain ⟨a28, m28, c28⟩ := k28
      refine Ent.lenow m0 fun e28 l28 => ?_
      subst e28
      refine Eas rfl rfl (En (E.bln (Et (Er (l := [0, 1, 2]) rfl (Emv rfl rfl (Ey rfl ((Y.add rfl rfl om om).yd) (Eas rfl rfl (En (Et (Ent.p1 (Ent.drop (Ent.cv (congrArg (ow eFacts [_]) (show addF (((missF l (closeIt l facts n)).take h).foldl addF (closeIt l facts n)) (((missF l (closeIt l facts n))[h].1), ((missF l (closeIt l facts n))[h].2)) = ((missF l (closeIt l facts n)).take (h + 1)).foldl addF (closeIt l facts n) from by grind [closeIt, d1, d2, t1, t2])) ?_))))))))))))
      exact E.again br (h + 1, a28, (addF (((missF l (closeIt l facts n)).take h).foldl addF (closeIt l facts n)) (((missF l (closeIt l facts n))[h].1), ((missF l (closeIt l facts n))[h].2))).length, c28) ⟨rfl, rfl, rfl, rfl, trivial⟩ (.refl _) ⟨(show h + 1 ≤ (missF l (closeIt l facts n)).length from by omega), trivial⟩ (show (missF l (closeIt l facts n)).length - (h + 1) < (missF l (closeIt l facts n)).length - h from by omega)
    · have pc := cInv_step pc0 (fun e => by rw [e] at q15; exact q15 rfl)
      have pd := cInv_le pc
      refine En (Et (E.cf rfl (E.exit (E.the (E.the (E.blh (E.bln (Et (Ent.cv (congrArg (ow eFacts [_]) (show ((missF l (closeIt l facts n)).take h).foldl addF (closeIt l facts n) = closeIt l facts (n + 1) from by grind [closeIt, d1, d2, t1, t2])) ?_)))))))))
      exact E.again hB2 (n + 1, aA1_0, (((missF l (closeIt l facts n)).take h).foldl addF (closeIt l facts n)).length, cA1_0) ⟨rfl, rfl, trivial⟩ (.refl _) ⟨(show n + 1 ≤ 6000 from by omega), (show cInv l facts (n + 1) from by exact pc)⟩ (show 6000 - (n + 1) < 6000 - n from by omega)
end Go.Proofs.YtfnagmokplpnjaaGreat
