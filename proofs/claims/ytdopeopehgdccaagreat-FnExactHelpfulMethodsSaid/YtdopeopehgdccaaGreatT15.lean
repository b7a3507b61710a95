import Derived.Test.YtdopeopehgdccaaGreatBs
import Derived.Test.YtdopeopehgdccaaGreatT14
import Derived.Test.YtdopeopehgdccaaGreatT4
import Derived.Test.YtdopeopehgdccaaGreatT5
import Derived.Test.YtdopeopehgdccaaGreatBd
namespace Go.Proofs.YtdopeopehgdccaaGreat
open Go.RowKit
set_option linter.all false
set_option maxHeartbeats 2000000
attribute [local irreducible] Nop Yd Yp Ent Has Tr FnP FnP2 Src w6 o7 i9 b4q b3V
variable {l : List (Int × Int × List Int)} {d6 : List (Int × List Int)} {m_l c_l m_facts c_facts : Nat} {a_l a_facts : Option Addr}
theorem a4I (hok : ∃ s, x7 s l = true ∧ H3 s d6 = true) : Tr Tryz.prog 195 [.slice a_l m_l c_l, .slice a_facts m_facts c_facts] (fun w L => Ro w L G1 [.slice a_l m_l c_l] l ∧ Ro w L j6 [.slice a_facts m_facts c_facts] d6) [] (κ := Option Addr × Nat × Nat) (fun k => True) (fun k => .slice k.1 k.2.1 k.2.2) (fun k => [ow j6 [.slice k.1 k.2.1 k.2.2] (w6 l d6)]) := by
 refine Tr.intro Tryz.func195 rfl (n := 28) rfl (by decide +kernel) bl (fr := [(0, .slice a_l m_l c_l), (1, .slice a_facts m_facts c_facts)]) rfl fun w L hR => ?_
 obtain ⟨hl, hfacts⟩ := hR
 obtain ⟨rfl, ll⟩ := hl.slen
 obtain ⟨rfl, lfacts⟩ := hfacts.slen
 have hn := b1N hok
 refine Ew Z1 (Eas rfl rfl (Ev Z3 (Emv rfl rfl (Est rfl (N.call (a2X om (b2R hok)) rfl rfl rfl dc rfl (fun w Lp hA => hA.ro hfacts)) (fun k10 _ => ?_)))))
 obtain ⟨a10, m10, c10⟩ := k10
 refine Ent.lenow m0 fun e10 l10 => ?_
 subst e10
 refine Eas rfl rfl (Eu (E.block (Ent.cv (congrArg (ow j6 [_]) (show d6 = o7 l d6 0 from by first | rfl | (simp; done) | grind [o7, d1, d2, t1, t2])) (E.loop (κ := Nat × Option Addr × Nat × Nat) (fun n => n.1 ≤ 6000 ∧ a4i l d6 n.1) (fun n => [(0, .slice a_l l.length c_l), (5, .slice n.2.1 n.2.2.1 n.2.2.2)]) (fun n => [ow j6 [.slice n.2.1 n.2.2.1 n.2.2.2] (o7 l d6 n.1)]) (fun n => 6000 - n.1) (0, a10, (d6).length, c10) ⟨Nat.zero_le _, a8w hok⟩ ⟨rfl, rfl, trivial⟩ (.refl _) (fun n pn => ?_)))))
 obtain ⟨n, aA0_0, mA0_0, cA0_0⟩ := n
 try dsimp only at pn
 try dsimp only
 obtain ⟨pk, pa⟩ := pn
 have pc0 := pa
 have pb := a5B pa
 refine Ent.lenow m0 fun eaA0_0 laA0_0 => ?_
 subst eaA0_0
 refine E.block (Ew Z4 (Emv rfl rfl (Emv rfl rfl (Est rfl (N.call (a3S (a2z pc0).1 (a2z pc0).2.1 om om) rfl rfl rfl dc rfl (fun w Lp hA => ⟨hA.ro hl, hA.ow m0⟩)) (fun k13 _ => ?_)))))
 obtain ⟨a13, m13, c13⟩ := k13
 refine Ent.lenow m0 fun e13 l13 => ?_
 subst e13
 refine Ent.rebase (A := [_]) rfl fun wb1 Lb1 hB1 hA1 => ?_
 have hl := hA1.ro hl
 have rb1 : Ro wb1 Lb1 j6 [.slice a13 (i9 l (o7 l d6 n)).length c13] (i9 l (o7 l d6 n)) := hA1.ow m0
 refine Eas rfl rfl (Eu (Eq_ (Ew Z3 (Emv rfl rfl (Ey rfl ((Y.len us_Facts rfl).yd) (Ey rfl ((Y.eql rfl rfl).yd) (Ent.d (fun q16 => ?_) (fun q16 => ?_))))))))
 ·refine Eu (E.ct rfl (Ew Z2 (Emv rfl rfl (Eas rfl rfl (Eu (E.ret (E.thr (E.blr (E.thr (E.blr (Ent.cv (congrArg (ow j6 [_]) (show _ = w6 l d6 by exact a6Y om (List.length_eq_zero_iff.1 (by first | omega | exact Int.ofNat.inj q16)))) ?_)))))))))))
  exact F.r1 hB1 rfl rfl (_, _, _) trivial rfl (J := _) (.refl _) (.inl rfl)
 ·refine Eu (E.cf rfl (E.skipc (Et (Ew Z3 (Emv rfl rfl (Ey rfl ((Y.len us_Facts rfl).yd) (Emv rfl rfl (Eu (E.block (Ent.cv (congrArg (ow j6 [_]) (show o7 l d6 n = ((i9 l (o7 l d6 n)).take 0).foldl o4 (o7 l d6 n) from by first | rfl | (simp; done) | grind [o7, d1, d2, t1, t2])) (E.loop (κ := Nat × Option Addr × Nat × Nat) (fun h => h.1 ≤ (i9 l (o7 l d6 n)).length ∧ True) (fun h => [(0, .slice a_l l.length c_l), (5, .slice h.2.1 h.2.2.1 h.2.2.2), (18, .slice a13 (i9 l (o7 l d6 n)).length c13), (19, .int .i64 (↑((i9 l (o7 l d6 n)).length) : Int)), (20, .int .i64 (↑h.1 : Int))]) (fun h => [ow j6 [.slice h.2.1 h.2.2.1 h.2.2.2] (((i9 l (o7 l d6 n)).take h.1).foldl o4 (o7 l d6 n))]) (fun h => (i9 l (o7 l d6 n)).length - h.1) (0, aA0_0, (o7 l d6 n).length, cA0_0) ⟨Nat.zero_le _, by simp⟩ ⟨rfl, rfl, rfl, rfl, rfl, trivial⟩ (.refl _) (fun h ph => ?_))))))))))))
  obtain ⟨h, aA1_0, mA1_0, cA1_0⟩ := h
  try dsimp only at ph
  try dsimp only
  obtain ⟨pk, pa⟩ := ph
  have jf := a3b (m := (i9 l (o7 l d6 n)).take h) (x := o7 l d6 n)
  have jt := List.length_take_le h (i9 l (o7 l d6 n))
  refine Ent.lenow m0 fun eaA1_0 laA1_0 => ?_
  subst eaA1_0
  refine Ew Z1 (Ey rfl ((Y.lss rfl rfl).yd) (Ent.d (fun q21 => ?_) (fun q21 => ?_)))
  ·obtain ⟨eb22, eo22, ec22, ea22, er22, el22, eh22⟩ := rb1.elem h om
   obtain ⟨xa22_0, xc22_0, rfl, ei22_0, xh22_0⟩ := Ro.pFact er22
   have := xh22_0.slen.2
   refine Eu (Eq_ (E.ct rfl (E.skipc (Et (Eq_ (E.block (Ew Z4 (Ey rfl ((Y.ix us_Facts ty_Fact rfl ea22 rfl h rfl om).yd) (Ey rfl (Y.ldS (cs := [_, _]) ty_Fact rfl (eh22 _) rfl) (Est rfl (N.alloc ty_Fact dc) (fun b8 _ => (Est rfl (N.sto (vs := [_, _]) (cs' := [_, _]) ty_Fact rfl rfl rfl rfl rfl bl rfl) (fun _ _ => (Eu (Ez Z4 (Emv rfl rfl (Ey rfl (Y.ldS (cs := [_, _]) ty_Fact rfl (Has.pt m0) rfl) (Ent.p1 (Est rfl (N.call (pre := [_]) (a1G om ((a2z pc0).2.2.1 _ (List.getElem_mem om))) rfl rfl rfl dc rfl (fun w Lp hA => ⟨ei22_0, hA.ro xh22_0⟩)) (fun k26 _ => ?_))))))))))))))))))))
   obtain ⟨a26, m26, c26⟩ := k26
   refine Ent.lenow m0 fun e26 l26 => ?_
   subst e26
   refine Eas rfl rfl (En (E.bln (Et (Ez Z2 (Ey rfl ((Y.add rfl rfl om om).yd) (Emv rfl rfl (Eu (Ent.p1 (Ent.drop (Ent.cv (congrArg (ow j6 [_]) (show o4 (((i9 l (o7 l d6 n)).take h).foldl o4 (o7 l d6 n)) (((i9 l (o7 l d6 n))[h].1), ((i9 l (o7 l d6 n))[h].2)) = ((i9 l (o7 l d6 n)).take (h + 1)).foldl o4 (o7 l d6 n) from by grind [o7, d1, d2, t1, t2])) ?_))))))))))
   exact Ea (h + 1, a26, (o4 (((i9 l (o7 l d6 n)).take h).foldl o4 (o7 l d6 n)) (((i9 l (o7 l d6 n))[h].1), ((i9 l (o7 l d6 n))[h].2))).length, c26) ⟨oz, trivial⟩
  ·have pc := a8L pc0 (fun e => by rw [e] at q16; exact q16 rfl)
   have pd := a5B pc
   refine Eu (Eq_ (E.cf rfl (E.exit (E.the (E.the (E.blh (E.bln (Et (Ent.cv (congrArg (ow j6 [_]) (show ((i9 l (o7 l d6 n)).take h).foldl o4 (o7 l d6 n) = o7 l d6 (n + 1) from by grind [o7, d1, d2, t1, t2])) ?_)))))))))
   exact E.again hB1 (n + 1, aA1_0, (((i9 l (o7 l d6 n)).take h).foldl o4 (o7 l d6 n)).length, cA1_0) ⟨rfl, rfl, trivial⟩ (.refl _) ⟨oz, (show a4i l d6 (n + 1) from by exact pc)⟩ oz
theorem a6T (hok : ∃ s, x7 s l = true ∧ H3 s d6 = true) : Tr Tryz.prog 186 [.slice a_l m_l c_l, .slice a_facts m_facts c_facts] (fun w L => Ro w L G1 [.slice a_l m_l c_l] l ∧ Ro w L j6 [.slice a_facts m_facts c_facts] d6) [] (κ := Option Addr × Nat × Nat) (fun k => True) (fun k => .slice k.1 k.2.1 k.2.2) (fun k => [ow j6 [.slice k.1 k.2.1 k.2.2] (w6 l d6)]) := by
 refine Tr.intro Tryz.func186 rfl (n := 29) rfl (by decide +kernel) bl (fr := [(0, .slice a_l m_l c_l), (1, .slice a_facts m_facts c_facts)]) rfl fun w L hR => ?_
 obtain ⟨hl, hfacts⟩ := hR
 obtain ⟨rfl, ll⟩ := hl.slen
 obtain ⟨rfl, lfacts⟩ := hfacts.slen
 have hn := b1N hok
 refine Ew Z1 (Eas rfl rfl (Ev Z3 (Emv rfl rfl (Est rfl (N.call (a9c om (b2R hok)) rfl rfl rfl dc rfl (fun w Lp hA => hA.ro hfacts)) (fun k9 _ => ?_)))))
 obtain ⟨a9, m9, c9⟩ := k9
 refine Ent.lenow m0 fun e9 l9 => ?_
 subst e9
 refine Eas rfl rfl (Eu (E.block (Ent.cv (congrArg (ow j6 [_]) (show d6 = o7 l d6 0 from by first | rfl | (simp; done) | grind [o7, d1, d2, t1, t2])) (E.loop (κ := Nat × Option Addr × Nat × Nat) (fun n => n.1 ≤ 6000 ∧ a4i l d6 n.1) (fun n => [(0, .slice a_l l.length c_l), (5, .slice n.2.1 n.2.2.1 n.2.2.2)]) (fun n => [ow j6 [.slice n.2.1 n.2.2.1 n.2.2.2] (o7 l d6 n.1)]) (fun n => 6000 - n.1) (0, a9, (d6).length, c9) ⟨Nat.zero_le _, a8w hok⟩ ⟨rfl, rfl, trivial⟩ (.refl _) (fun n pn => ?_)))))
 obtain ⟨n, aA0_0, mA0_0, cA0_0⟩ := n
 try dsimp only at pn
 try dsimp only
 obtain ⟨pk, pa⟩ := pn
 have pc0 := pa
 have pb := a5B pa
 refine Ent.lenow m0 fun eaA0_0 laA0_0 => ?_
 subst eaA0_0
 refine E.block (Ew Z4 (Emv rfl rfl (Emv rfl rfl (Est rfl (N.call (a2E (a2z pc0).1 (a2z pc0).2.1 om om) rfl rfl rfl dc rfl (fun w Lp hA => ⟨hA.ro hl, hA.ow m0⟩)) (fun k12 _ => ?_)))))
 obtain ⟨a12, m12, c12⟩ := k12
 refine Ent.lenow m0 fun e12 l12 => ?_
 subst e12
 refine Ent.rebase (A := [_]) rfl fun wb2 Lb2 hB2 hA2 => ?_
 have hl := hA2.ro hl
 have rb2 : Ro wb2 Lb2 j6 [.slice a12 (i9 l (o7 l d6 n)).length c12] (i9 l (o7 l d6 n)) := hA2.ow m0
 refine Eas rfl rfl (Eu (Eq_ (Ew Z3 (Emv rfl rfl (Ey rfl ((Y.len us_Facts rfl).yd) (Ey rfl ((Y.eql rfl rfl).yd) (Ent.d (fun q15 => ?_) (fun q15 => ?_))))))))
 ·refine Eu (E.ct rfl (Ew Z2 (Emv rfl rfl (Eas rfl rfl (Eu (E.ret (E.thr (E.blr (E.thr (E.blr (Ent.cv (congrArg (ow j6 [_]) (show _ = w6 l d6 by exact a6Y om (List.length_eq_zero_iff.1 (by first | omega | exact Int.ofNat.inj q15)))) ?_)))))))))))
  exact F.r1 hB2 rfl rfl (_, _, _) trivial rfl (J := _) (.refl _) (.inl rfl)
 ·refine Eu (E.cf rfl (E.skipc (Et (Ew Z1 (Eas rfl rfl (Eu (E.block (Ent.cv (congrArg (ow j6 [_]) (show o7 l d6 n = ((i9 l (o7 l d6 n)).take 0).foldl o4 (o7 l d6 n) from by first | rfl | (simp; done) | grind [o7, d1, d2, t1, t2])) (E.loop (κ := Nat × Option Addr × Nat × Nat) (fun h => h.1 ≤ (i9 l (o7 l d6 n)).length ∧ True) (fun h => [(0, .slice a_l l.length c_l), (5, .slice h.2.1 h.2.2.1 h.2.2.2), (6, .slice a12 (i9 l (o7 l d6 n)).length c12), (7, .int .i64 (↑h.1 : Int))]) (fun h => [ow j6 [.slice h.2.1 h.2.2.1 h.2.2.2] (((i9 l (o7 l d6 n)).take h.1).foldl o4 (o7 l d6 n))]) (fun h => (i9 l (o7 l d6 n)).length - h.1) (0, aA0_0, (o7 l d6 n).length, cA0_0) ⟨Nat.zero_le _, by simp⟩ ⟨rfl, rfl, rfl, rfl, trivial⟩ (.refl _) (fun h ph => ?_))))))))))
  obtain ⟨h, aA1_0, mA1_0, cA1_0⟩ := h
  try dsimp only at ph
  try dsimp only
  obtain ⟨pk, pa⟩ := ph
  have jf := a3b (m := (i9 l (o7 l d6 n)).take h) (x := o7 l d6 n)
  have jt := List.length_take_le h (i9 l (o7 l d6 n))
  refine Ent.lenow m0 fun eaA1_0 laA1_0 => ?_
  subst eaA1_0
  refine Eq_ (Ew Z4 (Emv rfl rfl (Emv rfl rfl (Ey rfl ((Y.len us_Facts rfl).yd) (Ey rfl ((Y.lss rfl rfl).yd) (Ent.d (fun q20 => ?_) (fun q20 => ?_)))))))
  ·refine Eu (E.ct rfl (E.skipc (Et (Eq_ (E.block (Ez Z7 (Emv rfl rfl (Emv rfl rfl (Emv rfl rfl ?_)))))))))
   obtain ⟨eb26, eo26, ec26, ea26, er26, el26, eh26⟩ := rb2.elem h om
   obtain ⟨xa26_0, xc26_0, rfl, ei26_0, xh26_0⟩ := Ro.pFact er26
   have := xh26_0.slen.2
   refine Ey rfl ((Y.ix us_Facts ty_Fact rfl ea26 rfl h rfl om).yd) (Ey rfl (Y.ldS (cs := [_, _]) ty_Fact rfl (eh26 _) rfl) (Est rfl (N.call (U7 om (b0j (a2z pc0).2.2.1 (a2z pc0).2.2.2) ((a2z pc0).2.2.1 _ (List.getElem_mem om))) rfl rfl rfl dc rfl (fun w Lp hA => ⟨hA.ow m0, ei26_0, hA.ro xh26_0⟩)) (fun k28 _ => ?_)))
   obtain ⟨a28, m28, c28⟩ := k28
   refine Ent.lenow m0 fun e28 l28 => ?_
   subst e28
   refine Eas rfl rfl (En (E.bln (Et (Ez Z3 (Emv rfl rfl (Ey rfl ((Y.add rfl rfl om om).yd) (Eas rfl rfl (Eu (Ent.p1 (Ent.drop (Ent.cv (congrArg (ow j6 [_]) (show o4 (((i9 l (o7 l d6 n)).take h).foldl o4 (o7 l d6 n)) (((i9 l (o7 l d6 n))[h].1), ((i9 l (o7 l d6 n))[h].2)) = ((i9 l (o7 l d6 n)).take (h + 1)).foldl o4 (o7 l d6 n) from by grind [o7, d1, d2, t1, t2])) ?_)))))))))))
   exact Ea (h + 1, a28, (o4 (((i9 l (o7 l d6 n)).take h).foldl o4 (o7 l d6 n)) (((i9 l (o7 l d6 n))[h].1), ((i9 l (o7 l d6 n))[h].2))).length, c28) ⟨oz, trivial⟩
  ·have pc := a8L pc0 (fun e => by rw [e] at q15; exact q15 rfl)
   have pd := a5B pc
   refine Eu (E.cf rfl (E.exit (E.the (E.the (E.blh (E.bln (Et (Ent.cv (congrArg (ow j6 [_]) (show ((i9 l (o7 l d6 n)).take h).foldl o4 (o7 l d6 n) = o7 l d6 (n + 1) from by grind [o7, d1, d2, t1, t2])) ?_))))))))
   exact E.again hB2 (n + 1, aA1_0, (((i9 l (o7 l d6 n)).take h).foldl o4 (o7 l d6 n)).length, cA1_0) ⟨rfl, rfl, trivial⟩ (.refl _) ⟨oz, (show a4i l d6 (n + 1) from by exact pc)⟩ oz
end Go.Proofs.YtdopeopehgdccaaGreat
