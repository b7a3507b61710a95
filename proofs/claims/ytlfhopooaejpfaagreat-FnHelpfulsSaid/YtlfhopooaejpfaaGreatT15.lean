import Derived.Test.YtlfhopooaejpfaaGreatT14
namespace Go.Proofs.YtlfhopooaejpfaaGreat
open Go.RowKit
set_option linter.all false
set_option maxHeartbeats 2000000
attribute [local irreducible] Nop Yd Yp Ent Has Tr FnP FnP2 Src D0 x5 l6 c1r b3j
variable {l : List (Int × Int × List Int)} {c6 : List (Int × List Int)} {m_l c_l m_facts c_facts : Nat} {a_l a_facts : Option Addr}
theorem a6T (hok : ∃ s, C4 s l = true ∧ G4 s c6 = true) : Tr Tryz.prog 92 [.slice a_l m_l c_l, .slice a_facts m_facts c_facts] (fun w L => Ro w L G9 [.slice a_l m_l c_l] l ∧ Ro w L s6 [.slice a_facts m_facts c_facts] c6) [] (κ := Option Addr × Nat × Nat) (fun k => True) (fun k => .slice k.1 k.2.1 k.2.2) (fun k => [ow s6 [.slice k.1 k.2.1 k.2.2] (D0 l c6)]) := by
 refine Tr.intro Tryz.func92 rfl (n := 28) rfl (by decide +kernel) bl (fr := [(0, .slice a_l m_l c_l), (1, .slice a_facts m_facts c_facts)]) rfl fun w L hR => ?_
 obtain ⟨hl, hfacts⟩ := hR
 obtain ⟨rfl, ll⟩ := hl.slen
 obtain ⟨rfl, lfacts⟩ := hfacts.slen
 have hn := b6u hok
 refine Ew Z1 (Ei rfl (Ev Z3 (Em rfl (Est rfl (N.call (a4Q om (b8i hok)) rfl rfl rfl dc rfl (fun w Lp hA => hA.ro hfacts)) (fun k10 _ => ?_)))))
 obtain ⟨a10, m10, c10⟩ := k10
 refine d6 m0 fun e10 l10 => ?_
 subst e10
 refine Ei rfl (Eu (E.block (f6 (congrArg (ow s6 [_]) (show c6 = x5 l c6 0 from by first | rfl | (simp; done) | grind [x5, d1, d2, t1, t2])) (E.loop (κ := Nat × Option Addr × Nat × Nat) (fun n => n.1 ≤ 6000 ∧ a5D l c6 n.1) (fun n => [(0, .slice a_l l.length c_l), (5, .slice n.2.1 n.2.2.1 n.2.2.2)]) (fun n => [ow s6 [.slice n.2.1 n.2.2.1 n.2.2.2] (x5 l c6 n.1)]) (fun n => 6000 - n.1) (0, a10, (c6).length, c10) ⟨Nat.zero_le _, a7p hok⟩ ⟨rfl, rfl, trivial⟩ (.refl _) (fun n pn => ?_)))))
 obtain ⟨n, aA0_0, mA0_0, cA0_0⟩ := n
 try dsimp only at pn
 try dsimp only
 obtain ⟨pk, pa⟩ := pn
 have pc0 := pa
 have pb := a6e pa
 refine d6 m0 fun eaA0_0 laA0_0 => ?_
 subst eaA0_0
 refine E.block (Ew Z4 (Em rfl (Em rfl (Est rfl (N.call (a5O (a3Y pc0).1 (a3Y pc0).2.1 om om) rfl rfl rfl dc rfl (fun w Lp hA => ⟨hA.ro hl, hA.ow m0⟩)) (fun k13 _ => ?_)))))
 obtain ⟨a13, m13, c13⟩ := k13
 refine d6 m0 fun e13 l13 => ?_
 subst e13
 refine H7 (A := [_]) rfl fun wb1 Lb1 hB1 hA1 => ?_
 have hl := hA1.ro hl
 have rb1 : Ro wb1 Lb1 s6 [.slice a13 (l6 l (x5 l c6 n)).length c13] (l6 l (x5 l c6 n)) := hA1.ow m0
 refine Ei rfl (Eu (Eq_ (Ew Z3 (Em rfl (Ey rfl ((Y.len us_Facts rfl).yd) (Ey rfl ((Y.eql rfl rfl).yd) (n9 (fun q16 => ?_) (fun q16 => ?_))))))))
 ·refine Eu (o0 rfl (Ew Z2 (Em rfl (Ei rfl (Eu (E.ret (s9 (C9 (s9 (C9 (f6 (congrArg (ow s6 [_]) (show _ = D0 l c6 by exact a6F om (List.length_eq_zero_iff.1 (by first | omega | exact Int.ofNat.inj q16)))) ?_)))))))))))
  exact F.r1 hB1 rfl rfl (_, _, _) trivial rfl (J := _) (.refl _) (.inl rfl)
 ·refine Eu (n8 rfl (f9 (Et (Ew Z3 (Em rfl (Ey rfl ((Y.len us_Facts rfl).yd) (Em rfl (Eu (E.block (f6 (congrArg (ow s6 [_]) (show x5 l c6 n = ((l6 l (x5 l c6 n)).take 0).foldl w6 (x5 l c6 n) from by first | rfl | (simp; done) | grind [x5, d1, d2, t1, t2])) (E.loop (κ := Nat × Option Addr × Nat × Nat) (fun h => h.1 ≤ (l6 l (x5 l c6 n)).length ∧ True) (fun h => [(0, .slice a_l l.length c_l), (5, .slice h.2.1 h.2.2.1 h.2.2.2), (18, .slice a13 (l6 l (x5 l c6 n)).length c13), (19, .int .i64 (↑((l6 l (x5 l c6 n)).length) : Int)), (20, .int .i64 (↑h.1 : Int))]) (fun h => [ow s6 [.slice h.2.1 h.2.2.1 h.2.2.2] (((l6 l (x5 l c6 n)).take h.1).foldl w6 (x5 l c6 n))]) (fun h => (l6 l (x5 l c6 n)).length - h.1) (0, aA0_0, (x5 l c6 n).length, cA0_0) ⟨Nat.zero_le _, by simp⟩ ⟨rfl, rfl, rfl, rfl, rfl, trivial⟩ (.refl _) (fun h ph => ?_))))))))))))
  obtain ⟨h, aA1_0, mA1_0, cA1_0⟩ := h
  try dsimp only at ph
  try dsimp only
  obtain ⟨pk, pa⟩ := ph
  have jf := a4R (m := (l6 l (x5 l c6 n)).take h) (x := x5 l c6 n)
  have jt := List.length_take_le h (l6 l (x5 l c6 n))
  refine d6 m0 fun eaA1_0 laA1_0 => ?_
  subst eaA1_0
  refine Ew Z1 (Ey rfl ((Y.lss rfl rfl).yd) (n9 (fun q21 => ?_) (fun q21 => ?_)))
  ·obtain ⟨eb22, eo22, ec22, ea22, er22, el22, eh22⟩ := rb1.elem h om
   obtain ⟨xa22_0, xc22_0, rfl, ei22_0, xh22_0⟩ := R0 er22
   have := xh22_0.slen.2
   refine Eu (Eq_ (o0 rfl (f9 (Et (Eq_ (E.block (Ew Z4 (Ey rfl ((w3 us_Facts ty_Fact rfl ea22 rfl h rfl om).yd) (Ey rfl (r9 (cs := [_, _]) ty_Fact rfl (eh22 _) rfl) (Est rfl (N.alloc ty_Fact dc) (fun b8 _ => (Est rfl (Ns [_, _] ty_Fact rfl) (fun _ _ => (Eu (Ez Z4 (Em rfl (Ey rfl (r9 (cs := [_, _]) ty_Fact rfl (Has.pt m0) rfl) (d8 (Est rfl (N.call (pre := [_]) (a3k om ((a3Y pc0).2.2.1 _ (List.getElem_mem om))) rfl rfl rfl dc rfl (fun w Lp hA => ⟨ei22_0, hA.ro xh22_0⟩)) (fun k26 _ => ?_))))))))))))))))))))
   obtain ⟨a26, m26, c26⟩ := k26
   refine d6 m0 fun e26 l26 => ?_
   subst e26
   refine Ei rfl (En (s8 (Et (Ez Z2 (Ey rfl ((Y.add rfl rfl om om).yd) (Em rfl (Eu (d8 (Ent.drop (f6 (congrArg (ow s6 [_]) (show w6 (((l6 l (x5 l c6 n)).take h).foldl w6 (x5 l c6 n)) (((l6 l (x5 l c6 n))[h].1), ((l6 l (x5 l c6 n))[h].2)) = ((l6 l (x5 l c6 n)).take (h + 1)).foldl w6 (x5 l c6 n) from by grind [x5, d1, d2, t1, t2])) ?_))))))))))
   exact Ea (h + 1, a26, (w6 (((l6 l (x5 l c6 n)).take h).foldl w6 (x5 l c6 n)) (((l6 l (x5 l c6 n))[h].1), ((l6 l (x5 l c6 n))[h].2))).length, c26) ⟨oz, trivial⟩
  ·have pc := a7r pc0 (fun e => by rw [e] at q16; exact q16 rfl)
   have pd := a6e pc
   refine Eu (Eq_ (n8 rfl (E.exit (l3 (l3 (y4 (s8 (Et (f6 (congrArg (ow s6 [_]) (show ((l6 l (x5 l c6 n)).take h).foldl w6 (x5 l c6 n) = x5 l c6 (n + 1) from by grind [x5, d1, d2, t1, t2])) ?_)))))))))
   exact B0 hB1 (n + 1, aA1_0, (((l6 l (x5 l c6 n)).take h).foldl w6 (x5 l c6 n)).length, cA1_0) ⟨rfl, rfl, trivial⟩ (.refl _) ⟨oz, (show a5D l c6 (n + 1) from by exact pc)⟩ oz
theorem a9O (hok : ∃ s, C4 s l = true ∧ G4 s c6 = true) : Tr Tryz.prog 97 [.slice a_l m_l c_l, .slice a_facts m_facts c_facts] (fun w L => Ro w L G9 [.slice a_l m_l c_l] l ∧ Ro w L s6 [.slice a_facts m_facts c_facts] c6) [] (κ := Option Addr × Nat × Nat) (fun k => True) (fun k => .slice k.1 k.2.1 k.2.2) (fun k => [ow s6 [.slice k.1 k.2.1 k.2.2] (D0 l c6)]) := by
 refine Tr.intro Tryz.func97 rfl (n := 29) rfl (by decide +kernel) bl (fr := [(0, .slice a_l m_l c_l), (1, .slice a_facts m_facts c_facts)]) rfl fun w L hR => ?_
 obtain ⟨hl, hfacts⟩ := hR
 obtain ⟨rfl, ll⟩ := hl.slen
 obtain ⟨rfl, lfacts⟩ := hfacts.slen
 have hn := b6u hok
 refine Ew Z1 (Ei rfl (Ev Z3 (Em rfl (Est rfl (N.call (b1O om (b8i hok)) rfl rfl rfl dc rfl (fun w Lp hA => hA.ro hfacts)) (fun k9 _ => ?_)))))
 obtain ⟨a9, m9, c9⟩ := k9
 refine d6 m0 fun e9 l9 => ?_
 subst e9
 refine Ei rfl (Eu (E.block (f6 (congrArg (ow s6 [_]) (show c6 = x5 l c6 0 from by first | rfl | (simp; done) | grind [x5, d1, d2, t1, t2])) (E.loop (κ := Nat × Option Addr × Nat × Nat) (fun n => n.1 ≤ 6000 ∧ a5D l c6 n.1) (fun n => [(0, .slice a_l l.length c_l), (5, .slice n.2.1 n.2.2.1 n.2.2.2)]) (fun n => [ow s6 [.slice n.2.1 n.2.2.1 n.2.2.2] (x5 l c6 n.1)]) (fun n => 6000 - n.1) (0, a9, (c6).length, c9) ⟨Nat.zero_le _, a7p hok⟩ ⟨rfl, rfl, trivial⟩ (.refl _) (fun n pn => ?_)))))
 obtain ⟨n, aA0_0, mA0_0, cA0_0⟩ := n
 try dsimp only at pn
 try dsimp only
 obtain ⟨pk, pa⟩ := pn
 have pc0 := pa
 have pb := a6e pa
 refine d6 m0 fun eaA0_0 laA0_0 => ?_
 subst eaA0_0
 refine E.block (Ew Z4 (Em rfl (Em rfl (Est rfl (N.call (a4g (a3Y pc0).1 (a3Y pc0).2.1 om om) rfl rfl rfl dc rfl (fun w Lp hA => ⟨hA.ro hl, hA.ow m0⟩)) (fun k12 _ => ?_)))))
 obtain ⟨a12, m12, c12⟩ := k12
 refine d6 m0 fun e12 l12 => ?_
 subst e12
 refine H7 (A := [_]) rfl fun wb2 Lb2 hB2 hA2 => ?_
 have hl := hA2.ro hl
 have rb2 : Ro wb2 Lb2 s6 [.slice a12 (l6 l (x5 l c6 n)).length c12] (l6 l (x5 l c6 n)) := hA2.ow m0
 refine Ei rfl (Eu (Eq_ (Ew Z3 (Em rfl (Ey rfl ((Y.len us_Facts rfl).yd) (Ey rfl ((Y.eql rfl rfl).yd) (n9 (fun q15 => ?_) (fun q15 => ?_))))))))
 ·refine Eu (o0 rfl (Ew Z2 (Em rfl (Ei rfl (Eu (E.ret (s9 (C9 (s9 (C9 (f6 (congrArg (ow s6 [_]) (show _ = D0 l c6 by exact a6F om (List.length_eq_zero_iff.1 (by first | omega | exact Int.ofNat.inj q15)))) ?_)))))))))))
  exact F.r1 hB2 rfl rfl (_, _, _) trivial rfl (J := _) (.refl _) (.inl rfl)
 ·refine Eu (n8 rfl (f9 (Et (Ew Z1 (Ei rfl (Eu (E.block (f6 (congrArg (ow s6 [_]) (show x5 l c6 n = ((l6 l (x5 l c6 n)).take 0).foldl w6 (x5 l c6 n) from by first | rfl | (simp; done) | grind [x5, d1, d2, t1, t2])) (E.loop (κ := Nat × Option Addr × Nat × Nat) (fun h => h.1 ≤ (l6 l (x5 l c6 n)).length ∧ True) (fun h => [(0, .slice a_l l.length c_l), (5, .slice h.2.1 h.2.2.1 h.2.2.2), (6, .slice a12 (l6 l (x5 l c6 n)).length c12), (7, .int .i64 (↑h.1 : Int))]) (fun h => [ow s6 [.slice h.2.1 h.2.2.1 h.2.2.2] (((l6 l (x5 l c6 n)).take h.1).foldl w6 (x5 l c6 n))]) (fun h => (l6 l (x5 l c6 n)).length - h.1) (0, aA0_0, (x5 l c6 n).length, cA0_0) ⟨Nat.zero_le _, by simp⟩ ⟨rfl, rfl, rfl, rfl, trivial⟩ (.refl _) (fun h ph => ?_))))))))))
  obtain ⟨h, aA1_0, mA1_0, cA1_0⟩ := h
  try dsimp only at ph
  try dsimp only
  obtain ⟨pk, pa⟩ := ph
  have jf := a4R (m := (l6 l (x5 l c6 n)).take h) (x := x5 l c6 n)
  have jt := List.length_take_le h (l6 l (x5 l c6 n))
  refine d6 m0 fun eaA1_0 laA1_0 => ?_
  subst eaA1_0
  refine Eq_ (Ew Z4 (Em rfl (Em rfl (Ey rfl ((Y.len us_Facts rfl).yd) (Ey rfl ((Y.lss rfl rfl).yd) (n9 (fun q20 => ?_) (fun q20 => ?_)))))))
  ·refine Eu (o0 rfl (f9 (Et (Eq_ (E.block (Ez Z7 (Em rfl (Em rfl (Em rfl ?_)))))))))
   obtain ⟨eb26, eo26, ec26, ea26, er26, el26, eh26⟩ := rb2.elem h om
   obtain ⟨xa26_0, xc26_0, rfl, ei26_0, xh26_0⟩ := R0 er26
   have := xh26_0.slen.2
   refine Ey rfl ((w3 us_Facts ty_Fact rfl ea26 rfl h rfl om).yd) (Ey rfl (r9 (cs := [_, _]) ty_Fact rfl (eh26 _) rfl) (Est rfl (N.call (a0v om (b3z (a3Y pc0).2.2.1 (a3Y pc0).2.2.2) ((a3Y pc0).2.2.1 _ (List.getElem_mem om))) rfl rfl rfl dc rfl (fun w Lp hA => ⟨hA.ow m0, ei26_0, hA.ro xh26_0⟩)) (fun k28 _ => ?_)))
   obtain ⟨a28, m28, c28⟩ := k28
   refine d6 m0 fun e28 l28 => ?_
   subst e28
   refine Ei rfl (En (s8 (Et (Ez Z3 (Em rfl (Ey rfl ((Y.add rfl rfl om om).yd) (Ei rfl (Eu (d8 (Ent.drop (f6 (congrArg (ow s6 [_]) (show w6 (((l6 l (x5 l c6 n)).take h).foldl w6 (x5 l c6 n)) (((l6 l (x5 l c6 n))[h].1), ((l6 l (x5 l c6 n))[h].2)) = ((l6 l (x5 l c6 n)).take (h + 1)).foldl w6 (x5 l c6 n) from by grind [x5, d1, d2, t1, t2])) ?_)))))))))))
   exact Ea (h + 1, a28, (w6 (((l6 l (x5 l c6 n)).take h).foldl w6 (x5 l c6 n)) (((l6 l (x5 l c6 n))[h].1), ((l6 l (x5 l c6 n))[h].2))).length, c28) ⟨oz, trivial⟩
  ·have pc := a7r pc0 (fun e => by rw [e] at q15; exact q15 rfl)
   have pd := a6e pc
   refine Eu (n8 rfl (E.exit (l3 (l3 (y4 (s8 (Et (f6 (congrArg (ow s6 [_]) (show ((l6 l (x5 l c6 n)).take h).foldl w6 (x5 l c6 n) = x5 l c6 (n + 1) from by grind [x5, d1, d2, t1, t2])) ?_))))))))
   exact B0 hB2 (n + 1, aA1_0, (((l6 l (x5 l c6 n)).take h).foldl w6 (x5 l c6 n)).length, cA1_0) ⟨rfl, rfl, trivial⟩ (.refl _) ⟨oz, (show a5D l c6 (n + 1) from by exact pc)⟩ oz
end Go.Proofs.YtlfhopooaejpfaaGreat
