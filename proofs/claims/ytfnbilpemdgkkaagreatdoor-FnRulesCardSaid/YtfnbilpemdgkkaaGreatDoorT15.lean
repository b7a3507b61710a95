import Derived.Test.YtfnbilpemdgkkaaGreatDoorT14
namespace Go.Proofs.YtfnbilpemdgkkaaGreatDoor
open Go.RowKit
set_option linter.all false
set_option maxHeartbeats 2000000
attribute [local irreducible] Nop Yd Yp Ent Has Tr FnP FnP2 Src I4 l0 s6 C1 r9
variable {l : List (Int × Int × List Int)} {a6 : List (Int × List Int)} {s : List Int} {m_s c_s m_l c_l m_facts c_facts : Nat} {a_s a_l a_facts : Option Addr}
theorem V6 : Tr Tryz.prog 35 [.slice a_s m_s c_s, .slice a_l m_l c_l, .slice a_facts m_facts c_facts] (fun w L => Ro w L eIs [.slice a_s m_s c_s] s ∧ Ro w L D0 [.slice a_l m_l c_l] l ∧ Ro w L f6 [.slice a_facts m_facts c_facts] a6) [] (κ := Option Addr × Nat × Nat) (fun k => True) (fun k => .slice k.1 k.2.1 k.2.2) (fun k => [ow f6 [.slice k.1 k.2.1 k.2.2] (C1 s l a6)]) := by
 refine f8 Tryz.func35 rfl (n := 15) rfl (by decide +kernel) bl (fr := [(0, .slice a_s m_s c_s), (1, .slice a_l m_l c_l), (2, .slice a_facts m_facts c_facts)]) rfl fun w L hR => ?_
 obtain ⟨hs, hl, hfacts⟩ := hR
 obtain ⟨rfl, ls⟩ := hs.slen
 obtain ⟨rfl, ll⟩ := hl.slen
 obtain ⟨rfl, lfacts⟩ := hfacts.slen
 refine Ew Z1 (Ei rfl (Eu (Eq_ (Ew Z5 (Em rfl (Em rfl (Em rfl (Est rfl (f5 P4 rfl rfl rfl dc (fun w Lp hA => ⟨hA.ro hs, hA.ro hl, hA.ro hfacts⟩)) (fun _ _ => (r5 (fun q10 => ?_) (fun q10 => ?_)))))))))))
 ·refine Ey rfl ((Y.not (b := true) rfl).yd) (Eu (l4 rfl (d9 (Et (Ew Z4 (Em rfl (Em rfl (Est rfl (N.call (W4 ((K3 (s := s) (l := l) (a6 := a6) (by first | assumption | grind)).1) ((K3 (s := s) (l := l) (a6 := a6) (by first | assumption | grind)).2.1) ((K3 (s := s) (l := l) (a6 := a6) (by first | assumption | grind)).2.2.1) ((K3 (s := s) (l := l) (a6 := a6) (by first | assumption | grind)).2.2.2)) rfl rfl rfl dc rfl (fun w Lp hA => ⟨hA.ro hl, hA.ro hfacts⟩)) (fun k14 _ => ?_)))))))))
  obtain ⟨a14, m14, c14⟩ := k14
  refine d8 m0 fun e14 l14 => ?_
  subst e14
  refine Ei rfl (Eu (E.ret (f9 (congrArg (ow f6 [_]) (show _ = C1 s l a6 by grind [C1, d1, d2, t1, t2])) ?_)))
  exact Fg rfl rfl (_, _, _) rfl rfl
 ·refine Ey rfl ((Y.not (b := false) rfl).yd) (Eu (l3 rfl (Ew Z1 (Ei rfl (Eu (E.ret (j0 (o1 (A := []) (Own.nil (E := w9) (e := tFact) (a := none)) rfl (f9 (congrArg (ow f6 [_]) (show _ = C1 s l a6 by grind [C1, d1, d2, t1, t2])) ?_)))))))))
  exact Fg rfl rfl (none, 0, 0) rfl rfl
theorem a2g : Tr Tryz.prog 36 [.slice a_s m_s c_s, .slice a_l m_l c_l, .slice a_facts m_facts c_facts] (fun w L => Ro w L eIs [.slice a_s m_s c_s] s ∧ Ro w L D0 [.slice a_l m_l c_l] l ∧ Ro w L f6 [.slice a_facts m_facts c_facts] a6) [] (κ := Option Addr × Nat × Nat) (fun k => True) (fun k => .slice k.1 k.2.1 k.2.2) (fun k => [ow f6 [.slice k.1 k.2.1 k.2.2] (C1 s l a6)]) := by
 refine f8 Tryz.func36 rfl (n := 21) rfl (by decide +kernel) bl (fr := [(0, .slice a_s m_s c_s), (1, .slice a_l m_l c_l), (2, .slice a_facts m_facts c_facts)]) rfl fun w L hR => ?_
 obtain ⟨hs, hl, hfacts⟩ := hR
 obtain ⟨rfl, ls⟩ := hs.slen
 obtain ⟨rfl, ll⟩ := hl.slen
 obtain ⟨rfl, lfacts⟩ := hfacts.slen
 refine Ew Z1 (Ei rfl (Eu (Eq_ (Ew Z10 (Em rfl (Em rfl (Est rfl (f5 H6 rfl rfl rfl dc (fun w Lp hA => ⟨hA.ro hs, hA.ro hl⟩)) (fun _ _ => (r5 (fun q9 => ?_) (fun q9 => ?_))))))))))
 ·refine Ey rfl ((Y.not (b := true) rfl).yd) (Em rfl (Em rfl (Em rfl (Est rfl (f5 P1 rfl rfl rfl dc (fun w Lp hA => ⟨hA.ro hs, hA.ro hfacts⟩)) (fun _ _ => (r5 (fun q14 => ?_) (fun q14 => ?_)))))))
  ·refine Ey rfl ((Y.not (b := true) rfl).yd) (Ey rfl ((o6 rfl rfl).yd) (Eu (l4 rfl (d9 (Et (Ew Z4 (Em rfl (Em rfl (Est rfl (N.call (a0d ((K3 (s := s) (l := l) (a6 := a6) (by first | assumption | grind)).1) ((K3 (s := s) (l := l) (a6 := a6) (by first | assumption | grind)).2.1) ((K3 (s := s) (l := l) (a6 := a6) (by first | assumption | grind)).2.2.1) ((K3 (s := s) (l := l) (a6 := a6) (by first | assumption | grind)).2.2.2)) rfl rfl rfl dc rfl (fun w Lp hA => ⟨hA.ro hl, hA.ro hfacts⟩)) (fun k20 _ => ?_))))))))))
   obtain ⟨a20, m20, c20⟩ := k20
   refine d8 m0 fun e20 l20 => ?_
   subst e20
   refine Ei rfl (Eu (E.ret (f9 (congrArg (ow f6 [_]) (show _ = C1 s l a6 by grind [C1, d1, d2, t1, t2])) ?_)))
   exact Fg rfl rfl (_, _, _) rfl rfl
  ·refine Ey rfl ((Y.not (b := false) rfl).yd) (Ey rfl ((o6 rfl rfl).yd) (Eu (l3 rfl (Ew Z2 (Est rfl (Nb [] [] us_Facts ty_Fact rfl rfl) (fun b17 _ => (Ent.drop (Ei rfl (Eu (E.ret (j0 (o1 (A := []) (Own.nil (E := w9) (e := tFact) (a := (some ⟨b17, 0, none⟩))) rfl (f9 (congrArg (ow f6 [_]) (show _ = C1 s l a6 by grind [C1, d1, d2, t1, t2])) ?_)))))))))))))
   exact Fg rfl rfl ((some ⟨b17, 0, none⟩), 0, 0) rfl rfl
 ·refine Ey rfl ((Y.not (b := false) rfl).yd) (Em rfl (Es rfl (Es rfl (Es rfl (Es rfl (Ey rfl ((o0 rfl rfl).yd) (Eu (l3 rfl (Ew Z2 (Est rfl (Nb [] [] us_Facts ty_Fact rfl rfl) (fun b17 _ => (Ent.drop (Ei rfl (Eu (E.ret (j0 (o1 (A := []) (Own.nil (E := w9) (e := tFact) (a := (some ⟨b17, 0, none⟩))) rfl (f9 (congrArg (ow f6 [_]) (show _ = C1 s l a6 by grind [C1, d1, d2, t1, t2])) ?_))))))))))))))))))
  exact Fg rfl rfl ((some ⟨b17, 0, none⟩), 0, 0) rfl rfl
theorem a1t : Tr Tryz.prog 39 [.slice a_s m_s c_s, .slice a_l m_l c_l, .slice a_facts m_facts c_facts] (fun w L => Ro w L eIs [.slice a_s m_s c_s] s ∧ Ro w L D0 [.slice a_l m_l c_l] l ∧ Ro w L f6 [.slice a_facts m_facts c_facts] a6) [] (κ := Unit) (fun k => True) (fun k => .bool ((o4 s l && r7 s a6) && decide ((s6 l a6).length = 0))) (fun k => []) := by
 refine f8 Tryz.func39 rfl (n := 18) rfl (by decide +kernel) bl (fr := [(0, .slice a_s m_s c_s), (1, .slice a_l m_l c_l), (2, .slice a_facts m_facts c_facts)]) rfl fun w L hR => ?_
 obtain ⟨hs, hl, hfacts⟩ := hR
 obtain ⟨rfl, ls⟩ := hs.slen
 obtain ⟨rfl, ll⟩ := hl.slen
 obtain ⟨rfl, lfacts⟩ := hfacts.slen
 refine Ew Z1 (Ei rfl (Ev Z12 (Em rfl (Em rfl (Em rfl (Est rfl (f5 P4 rfl rfl rfl dc (fun w Lp hA => ⟨hA.ro hs, hA.ro hl, hA.ro hfacts⟩)) (fun _ _ => (r5 (fun q10 => ?_) (fun q10 => ?_)))))))))
 ·refine Em rfl (Em rfl (Em rfl (Est rfl (N.call (W4 ((K3 (s := s) (l := l) (a6 := a6) (by first | assumption | grind)).1) ((K3 (s := s) (l := l) (a6 := a6) (by first | assumption | grind)).2.1) ((K3 (s := s) (l := l) (a6 := a6) (by first | assumption | grind)).2.2.1) ((K3 (s := s) (l := l) (a6 := a6) (by first | assumption | grind)).2.2.2)) rfl rfl rfl dc rfl (fun w Lp hA => ⟨hA.ro hl, hA.ro hfacts⟩)) (fun k14 _ => ?_))))
  obtain ⟨a14, m14, c14⟩ := k14
  refine d8 m0 fun e14 l14 => ?_
  subst e14
  refine Ey rfl ((Y.len us_Facts rfl).yd) (Ey rfl ((Y.eql rfl rfl).yd) (Ey rfl ((o0 rfl rfl).yd) (Ei rfl ?_)))
  exact Eu (E.ret (Fb rfl rfl (by grind [d1, d2, t1, t2])))
 ·refine Em rfl (Es rfl (Es rfl (Es rfl (Es rfl (Es rfl (Ey rfl ((o6 rfl rfl).yd) (Ei rfl ?_)))))))
  exact Eu (E.ret (Fb rfl rfl (by grind [d1, d2, t1, t2])))
theorem a5R (hok : ∃ s, o4 s l = true ∧ r7 s a6 = true) : Tr Tryz.prog 92 [.slice a_l m_l c_l, .slice a_facts m_facts c_facts] (fun w L => Ro w L D0 [.slice a_l m_l c_l] l ∧ Ro w L f6 [.slice a_facts m_facts c_facts] a6) [] (κ := Option Addr × Nat × Nat) (fun k => True) (fun k => .slice k.1 k.2.1 k.2.2) (fun k => [ow f6 [.slice k.1 k.2.1 k.2.2] (I4 l a6)]) := by
 refine f8 Tryz.func92 rfl (n := 28) rfl (by decide +kernel) bl (fr := [(0, .slice a_l m_l c_l), (1, .slice a_facts m_facts c_facts)]) rfl fun w L hR => ?_
 obtain ⟨hl, hfacts⟩ := hR
 obtain ⟨rfl, ll⟩ := hl.slen
 obtain ⟨rfl, lfacts⟩ := hfacts.slen
 have hn := a9N hok
 refine Ew Z1 (Ei rfl (Ev Z3 (Em rfl (Est rfl (N.call (a3y om (b2c hok)) rfl rfl rfl dc rfl (fun w Lp hA => hA.ro hfacts)) (fun k10 _ => ?_)))))
 obtain ⟨a10, m10, c10⟩ := k10
 refine d8 m0 fun e10 l10 => ?_
 subst e10
 refine Ei rfl (Eu (E.block (f9 (congrArg (ow f6 [_]) (show a6 = l0 l a6 0 from by first | rfl | (simp; done) | grind [l0, d1, d2, t1, t2])) (E.loop (κ := Nat × Option Addr × Nat × Nat) (fun n => n.1 ≤ 6000 ∧ a1O l a6 n.1) (fun n => [(0, .slice a_l l.length c_l), (5, .slice n.2.1 n.2.2.1 n.2.2.2)]) (fun n => [ow f6 [.slice n.2.1 n.2.2.1 n.2.2.2] (l0 l a6 n.1)]) (fun n => 6000 - n.1) (0, a10, (a6).length, c10) ⟨Nat.zero_le _, a5x hok⟩ ⟨rfl, rfl, trivial⟩ (.refl _) (fun n pn => ?_)))))
 obtain ⟨n, aA0_0, mA0_0, cA0_0⟩ := n
 try dsimp only at pn
 try dsimp only
 obtain ⟨pk, pa⟩ := pn
 have pc0 := pa
 have pb := a2N pa
 refine d8 m0 fun eaA0_0 laA0_0 => ?_
 subst eaA0_0
 refine E.block (Ew Z4 (Em rfl (Em rfl (Est rfl (N.call (W4 (X7 pc0).1 (X7 pc0).2.1 om om) rfl rfl rfl dc rfl (fun w Lp hA => ⟨hA.ro hl, hA.ow m0⟩)) (fun k13 _ => ?_)))))
 obtain ⟨a13, m13, c13⟩ := k13
 refine d8 m0 fun e13 l13 => ?_
 subst e13
 refine C3 (A := [_]) rfl fun wb1 Lb1 hB1 hA1 => ?_
 have hl := hA1.ro hl
 have rb1 : Ro wb1 Lb1 f6 [.slice a13 (s6 l (l0 l a6 n)).length c13] (s6 l (l0 l a6 n)) := hA1.ow m0
 refine Ei rfl (Eu (Eq_ (Ew Z3 (Em rfl (Ey rfl ((Y.len us_Facts rfl).yd) (Ey rfl ((Y.eql rfl rfl).yd) (j8 (fun q16 => ?_) (fun q16 => ?_))))))))
 ·refine Eu (l3 rfl (Ew Z2 (Em rfl (Ei rfl (Eu (E.ret (j0 (w8 (j0 (w8 (f9 (congrArg (ow f6 [_]) (show _ = I4 l a6 by exact a1T om (List.length_eq_zero_iff.1 (by first | omega | exact Int.ofNat.inj q16)))) ?_)))))))))))
  exact F.r1 hB1 rfl rfl (_, _, _) trivial rfl (J := _) (.refl _) (.inl rfl)
 ·refine Eu (l4 rfl (d9 (Et (Ew Z3 (Em rfl (Ey rfl ((Y.len us_Facts rfl).yd) (Em rfl (Eu (E.block (f9 (congrArg (ow f6 [_]) (show l0 l a6 n = ((s6 l (l0 l a6 n)).take 0).foldl s7 (l0 l a6 n) from by first | rfl | (simp; done) | grind [l0, d1, d2, t1, t2])) (E.loop (κ := Nat × Option Addr × Nat × Nat) (fun h => h.1 ≤ (s6 l (l0 l a6 n)).length ∧ True) (fun h => [(0, .slice a_l l.length c_l), (5, .slice h.2.1 h.2.2.1 h.2.2.2), (18, .slice a13 (s6 l (l0 l a6 n)).length c13), (19, .int .i64 (↑((s6 l (l0 l a6 n)).length) : Int)), (20, .int .i64 (↑h.1 : Int))]) (fun h => [ow f6 [.slice h.2.1 h.2.2.1 h.2.2.2] (((s6 l (l0 l a6 n)).take h.1).foldl s7 (l0 l a6 n))]) (fun h => (s6 l (l0 l a6 n)).length - h.1) (0, aA0_0, (l0 l a6 n).length, cA0_0) ⟨Nat.zero_le _, by simp⟩ ⟨rfl, rfl, rfl, rfl, rfl, trivial⟩ (.refl _) (fun h ph => ?_))))))))))))
  obtain ⟨h, aA1_0, mA1_0, cA1_0⟩ := h
  try dsimp only at ph
  try dsimp only
  obtain ⟨pk, pa⟩ := ph
  have jf := a3p (m := (s6 l (l0 l a6 n)).take h) (x := l0 l a6 n)
  have jt := List.length_take_le h (s6 l (l0 l a6 n))
  refine d8 m0 fun eaA1_0 laA1_0 => ?_
  subst eaA1_0
  refine Ew Z1 (Ey rfl ((Y.lss rfl rfl).yd) (j8 (fun q21 => ?_) (fun q21 => ?_)))
  ·obtain ⟨eb22, eo22, ec22, ea22, er22, el22, eh22⟩ := rb1.elem h om
   obtain ⟨xa22_0, xc22_0, rfl, ei22_0, xh22_0⟩ := y8 er22
   have := xh22_0.slen.2
   refine Eu (Eq_ (l3 rfl (d9 (Et (Eq_ (E.block (Ew Z4 (Ey rfl ((r8 us_Facts ty_Fact rfl ea22 rfl h rfl om).yd) (Ey rfl (l8 (cs := [_, _]) ty_Fact rfl (eh22 _) rfl) (Est rfl (N.alloc ty_Fact dc) (fun b8 _ => (Est rfl (Ns [_, _] ty_Fact rfl) (fun _ _ => (Eu (Ez Z4 (Em rfl (Ey rfl (l8 (cs := [_, _]) ty_Fact rfl (Has.pt m0) rfl) (d7 (Est rfl (N.call (pre := [_]) (a2o om ((X7 pc0).2.2.1 _ (List.getElem_mem om))) rfl rfl rfl dc rfl (fun w Lp hA => ⟨ei22_0, hA.ro xh22_0⟩)) (fun k26 _ => ?_))))))))))))))))))))
   obtain ⟨a26, m26, c26⟩ := k26
   refine d8 m0 fun e26 l26 => ?_
   subst e26
   refine Ei rfl (En (o2 (Et (Ez Z2 (Ey rfl ((Y.add rfl rfl om om).yd) (Em rfl (Eu (d7 (Ent.drop (f9 (congrArg (ow f6 [_]) (show s7 (((s6 l (l0 l a6 n)).take h).foldl s7 (l0 l a6 n)) (((s6 l (l0 l a6 n))[h].1), ((s6 l (l0 l a6 n))[h].2)) = ((s6 l (l0 l a6 n)).take (h + 1)).foldl s7 (l0 l a6 n) from by grind [l0, d1, d2, t1, t2])) ?_))))))))))
   exact Ea (h + 1, a26, (s7 (((s6 l (l0 l a6 n)).take h).foldl s7 (l0 l a6 n)) (((s6 l (l0 l a6 n))[h].1), ((s6 l (l0 l a6 n))[h].2))).length, c26) ⟨oz, trivial⟩
  ·have pc := a5s pc0 (fun e => by rw [e] at q16; exact q16 rfl)
   have pd := a2N pc
   refine Eu (Eq_ (l4 rfl (E.exit (n8 (n8 (w7 (o2 (Et (f9 (congrArg (ow f6 [_]) (show ((s6 l (l0 l a6 n)).take h).foldl s7 (l0 l a6 n) = l0 l a6 (n + 1) from by grind [l0, d1, d2, t1, t2])) ?_)))))))))
   exact u7 hB1 (n + 1, aA1_0, (((s6 l (l0 l a6 n)).take h).foldl s7 (l0 l a6 n)).length, cA1_0) ⟨rfl, rfl, trivial⟩ (.refl _) ⟨oz, (show a1O l a6 (n + 1) from by exact pc)⟩ oz
theorem a3N (hok : ∃ s, o4 s l = true ∧ r7 s a6 = true) : Tr Tryz.prog 93 [.slice a_l m_l c_l, .slice a_facts m_facts c_facts] (fun w L => Ro w L D0 [.slice a_l m_l c_l] l ∧ Ro w L f6 [.slice a_facts m_facts c_facts] a6) [] (κ := Option Addr × Nat × Nat) (fun k => True) (fun k => .slice k.1 k.2.1 k.2.2) (fun k => [ow f6 [.slice k.1 k.2.1 k.2.2] (I4 l a6)]) := by
 refine f8 Tryz.func93 rfl (n := 29) rfl (by decide +kernel) bl (fr := [(0, .slice a_l m_l c_l), (1, .slice a_facts m_facts c_facts)]) rfl fun w L hR => ?_
 obtain ⟨hl, hfacts⟩ := hR
 obtain ⟨rfl, ll⟩ := hl.slen
 obtain ⟨rfl, lfacts⟩ := hfacts.slen
 have hn := a9N hok
 refine Ew Z1 (Ei rfl (Ev Z3 (Em rfl (Est rfl (N.call (a5P om (b2c hok)) rfl rfl rfl dc rfl (fun w Lp hA => hA.ro hfacts)) (fun k9 _ => ?_)))))
 obtain ⟨a9, m9, c9⟩ := k9
 refine d8 m0 fun e9 l9 => ?_
 subst e9
 refine Ei rfl (Eu (E.block (f9 (congrArg (ow f6 [_]) (show a6 = l0 l a6 0 from by first | rfl | (simp; done) | grind [l0, d1, d2, t1, t2])) (E.loop (κ := Nat × Option Addr × Nat × Nat) (fun n => n.1 ≤ 6000 ∧ a1O l a6 n.1) (fun n => [(0, .slice a_l l.length c_l), (5, .slice n.2.1 n.2.2.1 n.2.2.2)]) (fun n => [ow f6 [.slice n.2.1 n.2.2.1 n.2.2.2] (l0 l a6 n.1)]) (fun n => 6000 - n.1) (0, a9, (a6).length, c9) ⟨Nat.zero_le _, a5x hok⟩ ⟨rfl, rfl, trivial⟩ (.refl _) (fun n pn => ?_)))))
 obtain ⟨n, aA0_0, mA0_0, cA0_0⟩ := n
 try dsimp only at pn
 try dsimp only
 obtain ⟨pk, pa⟩ := pn
 have pc0 := pa
 have pb := a2N pa
 refine d8 m0 fun eaA0_0 laA0_0 => ?_
 subst eaA0_0
 refine E.block (Ew Z4 (Em rfl (Em rfl (Est rfl (N.call (a0d (X7 pc0).1 (X7 pc0).2.1 om om) rfl rfl rfl dc rfl (fun w Lp hA => ⟨hA.ro hl, hA.ow m0⟩)) (fun k12 _ => ?_)))))
 obtain ⟨a12, m12, c12⟩ := k12
 refine d8 m0 fun e12 l12 => ?_
 subst e12
 refine C3 (A := [_]) rfl fun wb2 Lb2 hB2 hA2 => ?_
 have hl := hA2.ro hl
 have rb2 : Ro wb2 Lb2 f6 [.slice a12 (s6 l (l0 l a6 n)).length c12] (s6 l (l0 l a6 n)) := hA2.ow m0
 refine Ei rfl (Eu (Eq_ (Ew Z3 (Em rfl (Ey rfl ((Y.len us_Facts rfl).yd) (Ey rfl ((Y.eql rfl rfl).yd) (j8 (fun q15 => ?_) (fun q15 => ?_))))))))
 ·refine Eu (l3 rfl (Ew Z2 (Em rfl (Ei rfl (Eu (E.ret (j0 (w8 (j0 (w8 (f9 (congrArg (ow f6 [_]) (show _ = I4 l a6 by exact a1T om (List.length_eq_zero_iff.1 (by first | omega | exact Int.ofNat.inj q15)))) ?_)))))))))))
  exact F.r1 hB2 rfl rfl (_, _, _) trivial rfl (J := _) (.refl _) (.inl rfl)
 ·refine Eu (l4 rfl (d9 (Et (Ew Z1 (Ei rfl (Eu (E.block (f9 (congrArg (ow f6 [_]) (show l0 l a6 n = ((s6 l (l0 l a6 n)).take 0).foldl s7 (l0 l a6 n) from by first | rfl | (simp; done) | grind [l0, d1, d2, t1, t2])) (E.loop (κ := Nat × Option Addr × Nat × Nat) (fun h => h.1 ≤ (s6 l (l0 l a6 n)).length ∧ True) (fun h => [(0, .slice a_l l.length c_l), (5, .slice h.2.1 h.2.2.1 h.2.2.2), (6, .slice a12 (s6 l (l0 l a6 n)).length c12), (7, .int .i64 (↑h.1 : Int))]) (fun h => [ow f6 [.slice h.2.1 h.2.2.1 h.2.2.2] (((s6 l (l0 l a6 n)).take h.1).foldl s7 (l0 l a6 n))]) (fun h => (s6 l (l0 l a6 n)).length - h.1) (0, aA0_0, (l0 l a6 n).length, cA0_0) ⟨Nat.zero_le _, by simp⟩ ⟨rfl, rfl, rfl, rfl, trivial⟩ (.refl _) (fun h ph => ?_))))))))))
  obtain ⟨h, aA1_0, mA1_0, cA1_0⟩ := h
  try dsimp only at ph
  try dsimp only
  obtain ⟨pk, pa⟩ := ph
  have jf := a3p (m := (s6 l (l0 l a6 n)).take h) (x := l0 l a6 n)
  have jt := List.length_take_le h (s6 l (l0 l a6 n))
  refine d8 m0 fun eaA1_0 laA1_0 => ?_
  subst eaA1_0
  refine Eq_ (Ew Z4 (Em rfl (Em rfl (Ey rfl ((Y.len us_Facts rfl).yd) (Ey rfl ((Y.lss rfl rfl).yd) (j8 (fun q20 => ?_) (fun q20 => ?_)))))))
  ·refine Eu (l3 rfl (d9 (Et (Eq_ (E.block (Ez Z7 (Em rfl (Em rfl (Em rfl ?_)))))))))
   obtain ⟨eb26, eo26, ec26, ea26, er26, el26, eh26⟩ := rb2.elem h om
   obtain ⟨xa26_0, xc26_0, rfl, ei26_0, xh26_0⟩ := y8 er26
   have := xh26_0.slen.2
   refine Ey rfl ((r8 us_Facts ty_Fact rfl ea26 rfl h rfl om).yd) (Ey rfl (l8 (cs := [_, _]) ty_Fact rfl (eh26 _) rfl) (Est rfl (N.call (W5 om (b0Z (X7 pc0).2.2.1 (X7 pc0).2.2.2) ((X7 pc0).2.2.1 _ (List.getElem_mem om))) rfl rfl rfl dc rfl (fun w Lp hA => ⟨hA.ow m0, ei26_0, hA.ro xh26_0⟩)) (fun k28 _ => ?_)))
   obtain ⟨a28, m28, c28⟩ := k28
   refine d8 m0 fun e28 l28 => ?_
   subst e28
   refine Ei rfl (En (o2 (Et (Ez Z3 (Em rfl (Ey rfl ((Y.add rfl rfl om om).yd) (Ei rfl (Eu (d7 (Ent.drop (f9 (congrArg (ow f6 [_]) (show s7 (((s6 l (l0 l a6 n)).take h).foldl s7 (l0 l a6 n)) (((s6 l (l0 l a6 n))[h].1), ((s6 l (l0 l a6 n))[h].2)) = ((s6 l (l0 l a6 n)).take (h + 1)).foldl s7 (l0 l a6 n) from by grind [l0, d1, d2, t1, t2])) ?_)))))))))))
   exact Ea (h + 1, a28, (s7 (((s6 l (l0 l a6 n)).take h).foldl s7 (l0 l a6 n)) (((s6 l (l0 l a6 n))[h].1), ((s6 l (l0 l a6 n))[h].2))).length, c28) ⟨oz, trivial⟩
  ·have pc := a5s pc0 (fun e => by rw [e] at q15; exact q15 rfl)
   have pd := a2N pc
   refine Eu (l4 rfl (E.exit (n8 (n8 (w7 (o2 (Et (f9 (congrArg (ow f6 [_]) (show ((s6 l (l0 l a6 n)).take h).foldl s7 (l0 l a6 n) = l0 l a6 (n + 1) from by grind [l0, d1, d2, t1, t2])) ?_))))))))
   exact u7 hB2 (n + 1, aA1_0, (((s6 l (l0 l a6 n)).take h).foldl s7 (l0 l a6 n)).length, cA1_0) ⟨rfl, rfl, trivial⟩ (.refl _) ⟨oz, (show a1O l a6 (n + 1) from by exact pc)⟩ oz
theorem a2W : Tr Tryz.prog 32 [.slice a_s m_s c_s, .slice a_l m_l c_l, .slice a_facts m_facts c_facts] (fun w L => Ro w L eIs [.slice a_s m_s c_s] s ∧ Ro w L D0 [.slice a_l m_l c_l] l ∧ Ro w L f6 [.slice a_facts m_facts c_facts] a6) [] (κ := Option Addr × Nat × Nat) (fun k => True) (fun k => .slice k.1 k.2.1 k.2.2) (fun k => [ow f6 [.slice k.1 k.2.1 k.2.2] (r9 s l a6)]) := by
 refine f8 Tryz.func32 rfl (n := 15) rfl (by decide +kernel) bl (fr := [(0, .slice a_s m_s c_s), (1, .slice a_l m_l c_l), (2, .slice a_facts m_facts c_facts)]) rfl fun w L hR => ?_
 obtain ⟨hs, hl, hfacts⟩ := hR
 obtain ⟨rfl, ls⟩ := hs.slen
 obtain ⟨rfl, ll⟩ := hl.slen
 obtain ⟨rfl, lfacts⟩ := hfacts.slen
 refine Ew Z1 (Ei rfl (Eu (Eq_ (Ew Z5 (Em rfl (Em rfl (Em rfl (Est rfl (f5 P4 rfl rfl rfl dc (fun w Lp hA => ⟨hA.ro hs, hA.ro hl, hA.ro hfacts⟩)) (fun _ _ => (r5 (fun q10 => ?_) (fun q10 => ?_)))))))))))
 ·refine Ey rfl ((Y.not (b := true) rfl).yd) (Eu (l4 rfl (d9 (Et (Ew Z4 (Em rfl (Em rfl (Est rfl (N.call (a5R ((a7h (s := s) (l := l) (a6 := a6) (by first | assumption | grind)))) rfl rfl rfl dc rfl (fun w Lp hA => ⟨hA.ro hl, hA.ro hfacts⟩)) (fun k14 _ => ?_)))))))))
  obtain ⟨a14, m14, c14⟩ := k14
  refine d8 m0 fun e14 l14 => ?_
  subst e14
  refine Ei rfl (Eu (E.ret (f9 (congrArg (ow f6 [_]) (show _ = r9 s l a6 by grind [r9, d1, d2, t1, t2])) ?_)))
  exact Fg rfl rfl (_, _, _) rfl rfl
 ·refine Ey rfl ((Y.not (b := false) rfl).yd) (Eu (l3 rfl (Ew Z1 (Ei rfl (Eu (E.ret (j0 (o1 (A := []) (Own.nil (E := w9) (e := tFact) (a := none)) rfl (f9 (congrArg (ow f6 [_]) (show _ = r9 s l a6 by grind [r9, d1, d2, t1, t2])) ?_)))))))))
  exact Fg rfl rfl (none, 0, 0) rfl rfl
theorem a0f : Tr Tryz.prog 33 [.slice a_s m_s c_s, .slice a_l m_l c_l, .slice a_facts m_facts c_facts] (fun w L => Ro w L eIs [.slice a_s m_s c_s] s ∧ Ro w L D0 [.slice a_l m_l c_l] l ∧ Ro w L f6 [.slice a_facts m_facts c_facts] a6) [] (κ := Option Addr × Nat × Nat) (fun k => True) (fun k => .slice k.1 k.2.1 k.2.2) (fun k => [ow f6 [.slice k.1 k.2.1 k.2.2] (r9 s l a6)]) := by
 refine f8 Tryz.func33 rfl (n := 21) rfl (by decide +kernel) bl (fr := [(0, .slice a_s m_s c_s), (1, .slice a_l m_l c_l), (2, .slice a_facts m_facts c_facts)]) rfl fun w L hR => ?_
 obtain ⟨hs, hl, hfacts⟩ := hR
 obtain ⟨rfl, ls⟩ := hs.slen
 obtain ⟨rfl, ll⟩ := hl.slen
 obtain ⟨rfl, lfacts⟩ := hfacts.slen
 refine Ew Z1 (Ei rfl (Eu (Eq_ (Ew Z10 (Em rfl (Em rfl (Est rfl (f5 H6 rfl rfl rfl dc (fun w Lp hA => ⟨hA.ro hs, hA.ro hl⟩)) (fun _ _ => (r5 (fun q9 => ?_) (fun q9 => ?_))))))))))
 ·refine Ey rfl ((Y.not (b := true) rfl).yd) (Em rfl (Em rfl (Em rfl (Est rfl (f5 P1 rfl rfl rfl dc (fun w Lp hA => ⟨hA.ro hs, hA.ro hfacts⟩)) (fun _ _ => (r5 (fun q14 => ?_) (fun q14 => ?_)))))))
  ·refine Ey rfl ((Y.not (b := true) rfl).yd) (Ey rfl ((o6 rfl rfl).yd) (Eu (l4 rfl (d9 (Et (Ew Z4 (Em rfl (Em rfl (Est rfl (N.call (a3N ((a7h (s := s) (l := l) (a6 := a6) (by first | assumption | grind)))) rfl rfl rfl dc rfl (fun w Lp hA => ⟨hA.ro hl, hA.ro hfacts⟩)) (fun k20 _ => ?_))))))))))
   obtain ⟨a20, m20, c20⟩ := k20
   refine d8 m0 fun e20 l20 => ?_
   subst e20
   refine Ei rfl (Eu (E.ret (f9 (congrArg (ow f6 [_]) (show _ = r9 s l a6 by grind [r9, d1, d2, t1, t2])) ?_)))
   exact Fg rfl rfl (_, _, _) rfl rfl
  ·refine Ey rfl ((Y.not (b := false) rfl).yd) (Ey rfl ((o6 rfl rfl).yd) (Eu (l3 rfl (Ew Z2 (Est rfl (Nb [] [] us_Facts ty_Fact rfl rfl) (fun b17 _ => (Ent.drop (Ei rfl (Eu (E.ret (j0 (o1 (A := []) (Own.nil (E := w9) (e := tFact) (a := (some ⟨b17, 0, none⟩))) rfl (f9 (congrArg (ow f6 [_]) (show _ = r9 s l a6 by grind [r9, d1, d2, t1, t2])) ?_)))))))))))))
   exact Fg rfl rfl ((some ⟨b17, 0, none⟩), 0, 0) rfl rfl
 ·refine Ey rfl ((Y.not (b := false) rfl).yd) (Em rfl (Es rfl (Es rfl (Es rfl (Es rfl (Ey rfl ((o0 rfl rfl).yd) (Eu (l3 rfl (Ew Z2 (Est rfl (Nb [] [] us_Facts ty_Fact rfl rfl) (fun b17 _ => (Ent.drop (Ei rfl (Eu (E.ret (j0 (o1 (A := []) (Own.nil (E := w9) (e := tFact) (a := (some ⟨b17, 0, none⟩))) rfl (f9 (congrArg (ow f6 [_]) (show _ = r9 s l a6 by grind [r9, d1, d2, t1, t2])) ?_))))))))))))))))))
  exact Fg rfl rfl ((some ⟨b17, 0, none⟩), 0, 0) rfl rfl
end Go.Proofs.YtfnbilpemdgkkaaGreatDoor
