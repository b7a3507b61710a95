import Derived.Test.YthapcdhdfaibkaaGreatDoorT14
namespace Go.Proofs.YthapcdhdfaibkaaGreatDoor
open Go.RowKit
set_option linter.all false
set_option maxHeartbeats 2000000
attribute [local irreducible] Nop Yd Yp Ent Has Tr FnP FnP2 Src a5f C5 n9 b8E a0S
variable {l : List (Int × Int × List Int)} {a8 : List (Int × List Int)} {s : List Int} {m_s c_s m_l c_l m_facts c_facts : Nat} {a_s a_l a_facts : Option Addr}
theorem a5m : Tr Tryz.prog 58 [.slice a_s m_s c_s, .slice a_l m_l c_l, .slice a_facts m_facts c_facts] (fun w L => Ro w L eIs [.slice a_s m_s c_s] s ∧ Ro w L J9 [.slice a_l m_l c_l] l ∧ Ro w L m8 [.slice a_facts m_facts c_facts] a8) [] (κ := Unit) (fun k => True) (fun k => .bool ((B7 s l && D7 s a8) && decide ((n9 l a8).length = 0))) (fun k => []) := by
 refine Tr.intro Tryz.func58 rfl (n := 22) rfl (by decide +kernel) bl (fr := [(0, .slice a_s m_s c_s), (1, .slice a_l m_l c_l), (2, .slice a_facts m_facts c_facts)]) rfl fun w L hR => ?_
 obtain ⟨hs, hl, hfacts⟩ := hR
 obtain ⟨rfl, ls⟩ := hs.slen
 obtain ⟨rfl, ll⟩ := hl.slen
 obtain ⟨rfl, lfacts⟩ := hfacts.slen
 refine Ew Z1 (Ei rfl (Ev Z16 (Em rfl (Em rfl (Est rfl (l0 a2W rfl rfl rfl dc (fun w Lp hA => ⟨hA.ro hs, hA.ro hl⟩)) (fun _ _ => (Ent.b (fun q9 => ?_) (fun q9 => ?_))))))))
 ·refine Em rfl (Em rfl (Em rfl (Est rfl (l0 S2 rfl rfl rfl dc (fun w Lp hA => ⟨hA.ro hs, hA.ro hfacts⟩)) (fun _ _ => (Ent.b (fun q13 => ?_) (fun q13 => ?_))))))
  ·refine Ey rfl ((t8 rfl rfl).yd) (Em rfl (Em rfl (Em rfl (Est rfl (N.call (a2p ((a7i (s := s) (l := l) (a8 := a8) (by first | assumption | grind)).1) ((a7i (s := s) (l := l) (a8 := a8) (by first | assumption | grind)).2.1) ((a7i (s := s) (l := l) (a8 := a8) (by first | assumption | grind)).2.2.1) ((a7i (s := s) (l := l) (a8 := a8) (by first | assumption | grind)).2.2.2)) rfl rfl rfl dc rfl (fun w Lp hA => ⟨hA.ro hl, hA.ro hfacts⟩)) (fun k18 _ => ?_)))))
   obtain ⟨a18, m18, c18⟩ := k18
   refine d7 m0 fun e18 l18 => ?_
   subst e18
   refine Ey rfl ((Y.len us_Facts rfl).yd) (Ey rfl ((Y.eql rfl rfl).yd) (Ey rfl ((t8 rfl rfl).yd) (Ei rfl ?_)))
   exact Eu (E.ret (Fb rfl rfl (by grind [d1, d2, t1, t2])))
  ·refine Ey rfl ((t8 rfl rfl).yd) (Em rfl (Es rfl (Es rfl (Es rfl (Es rfl (Es rfl (Ey rfl ((t7 rfl rfl).yd) (Ei rfl ?_))))))))
   exact Eu (E.ret (Fb rfl rfl (by grind [d1, d2, t1, t2])))
 ·refine Em rfl (Es rfl (Es rfl (Es rfl (Ey rfl ((t7 rfl rfl).yd) (Em rfl (Es rfl (Es rfl (Es rfl (Es rfl (Es rfl (Ey rfl ((t7 rfl rfl).yd) (Ei rfl ?_))))))))))))
  exact Eu (E.ret (Fb rfl rfl (by grind [d1, d2, t1, t2])))
theorem a8B (hok : ∃ s, B7 s l = true ∧ D7 s a8 = true) : Tr Tryz.prog 327 [.slice a_l m_l c_l, .slice a_facts m_facts c_facts] (fun w L => Ro w L J9 [.slice a_l m_l c_l] l ∧ Ro w L m8 [.slice a_facts m_facts c_facts] a8) [] (κ := Option Addr × Nat × Nat) (fun k => True) (fun k => .slice k.1 k.2.1 k.2.2) (fun k => [ow m8 [.slice k.1 k.2.1 k.2.2] (a5f l a8)]) := by
 refine Tr.intro Tryz.func327 rfl (n := 29) rfl (by decide +kernel) bl (fr := [(0, .slice a_l m_l c_l), (1, .slice a_facts m_facts c_facts)]) rfl fun w L hR => ?_
 obtain ⟨hl, hfacts⟩ := hR
 obtain ⟨rfl, ll⟩ := hl.slen
 obtain ⟨rfl, lfacts⟩ := hfacts.slen
 have hn := b7W hok
 refine Ew Z1 (Ei rfl (Ev Z3 (Em rfl (Est rfl (N.call (a0N om (b8o hok)) rfl rfl rfl dc rfl (fun w Lp hA => hA.ro hfacts)) (fun k9 _ => ?_)))))
 obtain ⟨a9, m9, c9⟩ := k9
 refine d7 m0 fun e9 l9 => ?_
 subst e9
 refine Ei rfl (Eu (E.block (j4 (congrArg (ow m8 [_]) (show a8 = C5 l a8 0 from by first | rfl | (simp; done) | grind [C5, d1, d2, t1, t2])) (E.loop (κ := Nat × Option Addr × Nat × Nat) (fun n => n.1 ≤ 6000 ∧ a7Y l a8 n.1) (fun n => [(0, .slice a_l l.length c_l), (5, .slice n.2.1 n.2.2.1 n.2.2.2)]) (fun n => [ow m8 [.slice n.2.1 n.2.2.1 n.2.2.2] (C5 l a8 n.1)]) (fun n => 6000 - n.1) (0, a9, (a8).length, c9) ⟨Nat.zero_le _, b3Z hok⟩ ⟨rfl, rfl, trivial⟩ (.refl _) (fun n pn => ?_)))))
 obtain ⟨n, aA0_0, mA0_0, cA0_0⟩ := n
 try dsimp only at pn
 try dsimp only
 obtain ⟨pk, pa⟩ := pn
 have pc0 := pa
 have pb := b2w pa
 refine d7 m0 fun eaA0_0 laA0_0 => ?_
 subst eaA0_0
 refine E.block (Ew Z4 (Em rfl (Em rfl (Est rfl (N.call (a2p (a6I pc0).1 (a6I pc0).2.1 om om) rfl rfl rfl dc rfl (fun w Lp hA => ⟨hA.ro hl, hA.ow m0⟩)) (fun k12 _ => ?_)))))
 obtain ⟨a12, m12, c12⟩ := k12
 refine d7 m0 fun e12 l12 => ?_
 subst e12
 refine P3 (A := [_]) rfl fun wb1 Lb1 hB1 hA1 => ?_
 have hl := hA1.ro hl
 have rb1 : Ro wb1 Lb1 m8 [.slice a12 (n9 l (C5 l a8 n)).length c12] (n9 l (C5 l a8 n)) := hA1.ow m0
 refine Ei rfl (Eu (Eq_ (Ew Z3 (Em rfl (Ey rfl ((Y.len us_Facts rfl).yd) (Ey rfl ((Y.eql rfl rfl).yd) (o3 (fun q15 => ?_) (fun q15 => ?_))))))))
 ·refine Eu (n8 rfl (Ew Z2 (Em rfl (Ei rfl (Eu (E.ret (n0 (y8 (n0 (y8 (j4 (congrArg (ow m8 [_]) (show _ = a5f l a8 by exact b3o om (List.length_eq_zero_iff.1 (by first | omega | exact Int.ofNat.inj q15)))) ?_)))))))))))
  exact F.r1 hB1 rfl rfl (_, _, _) trivial rfl (J := _) (.refl _) (.inl rfl)
 ·refine Eu (o0 rfl (i7 (Et (Ew Z1 (Ei rfl (Eu (E.block (j4 (congrArg (ow m8 [_]) (show C5 l a8 n = ((n9 l (C5 l a8 n)).take 0).foldl w4 (C5 l a8 n) from by first | rfl | (simp; done) | grind [C5, d1, d2, t1, t2])) (E.loop (κ := Nat × Option Addr × Nat × Nat) (fun h => h.1 ≤ (n9 l (C5 l a8 n)).length ∧ True) (fun h => [(0, .slice a_l l.length c_l), (5, .slice h.2.1 h.2.2.1 h.2.2.2), (6, .slice a12 (n9 l (C5 l a8 n)).length c12), (7, .int .i64 (↑h.1 : Int))]) (fun h => [ow m8 [.slice h.2.1 h.2.2.1 h.2.2.2] (((n9 l (C5 l a8 n)).take h.1).foldl w4 (C5 l a8 n))]) (fun h => (n9 l (C5 l a8 n)).length - h.1) (0, aA0_0, (C5 l a8 n).length, cA0_0) ⟨Nat.zero_le _, by simp⟩ ⟨rfl, rfl, rfl, rfl, trivial⟩ (.refl _) (fun h ph => ?_))))))))))
  obtain ⟨h, aA1_0, mA1_0, cA1_0⟩ := h
  try dsimp only at ph
  try dsimp only
  obtain ⟨pk, pa⟩ := ph
  have jf := a2C (m := (n9 l (C5 l a8 n)).take h) (x := C5 l a8 n)
  have jt := List.length_take_le h (n9 l (C5 l a8 n))
  refine d7 m0 fun eaA1_0 laA1_0 => ?_
  subst eaA1_0
  refine Eq_ (Ew Z4 (Em rfl (Em rfl (Ey rfl ((Y.len us_Facts rfl).yd) (Ey rfl ((Y.lss rfl rfl).yd) (o3 (fun q20 => ?_) (fun q20 => ?_)))))))
  ·refine Eu (n8 rfl (i7 (Et (Eq_ (E.block (Ez Z7 (Em rfl (Em rfl (Em rfl ?_)))))))))
   obtain ⟨eb26, eo26, ec26, ea26, er26, el26, eh26⟩ := rb1.elem h om
   obtain ⟨xa26_0, xc26_0, rfl, ei26_0, xh26_0⟩ := K8 er26
   have := xh26_0.slen.2
   refine Ey rfl ((v8 us_Facts ty_Fact rfl ea26 rfl h rfl om).yd) (Ey rfl (o6 (cs := [_, _]) ty_Fact rfl (eh26 _) rfl) (Est rfl (N.call (T9 om (a7V (a6I pc0).2.2.1 (a6I pc0).2.2.2) ((a6I pc0).2.2.1 _ (List.getElem_mem om))) rfl rfl rfl dc rfl (fun w Lp hA => ⟨hA.ow m0, ei26_0, hA.ro xh26_0⟩)) (fun k28 _ => ?_)))
   obtain ⟨a28, m28, c28⟩ := k28
   refine d7 m0 fun e28 l28 => ?_
   subst e28
   refine Ei rfl (En (s9 (Et (Ez Z3 (Em rfl (Ey rfl ((Y.add rfl rfl om om).yd) (Ei rfl (Eu (d9 (Ent.drop (j4 (congrArg (ow m8 [_]) (show w4 (((n9 l (C5 l a8 n)).take h).foldl w4 (C5 l a8 n)) (((n9 l (C5 l a8 n))[h].1), ((n9 l (C5 l a8 n))[h].2)) = ((n9 l (C5 l a8 n)).take (h + 1)).foldl w4 (C5 l a8 n) from by grind [C5, d1, d2, t1, t2])) ?_)))))))))))
   exact Ea (h + 1, a28, (w4 (((n9 l (C5 l a8 n)).take h).foldl w4 (C5 l a8 n)) (((n9 l (C5 l a8 n))[h].1), ((n9 l (C5 l a8 n))[h].2))).length, c28) ⟨oz, trivial⟩
  ·have pc := b4D pc0 (fun e => by rw [e] at q15; exact q15 rfl)
   have pd := b2w pc
   refine Eu (o0 rfl (E.exit (q1 (q1 (y4 (s9 (Et (j4 (congrArg (ow m8 [_]) (show ((n9 l (C5 l a8 n)).take h).foldl w4 (C5 l a8 n) = C5 l a8 (n + 1) from by grind [C5, d1, d2, t1, t2])) ?_))))))))
   exact x6 hB1 (n + 1, aA1_0, (((n9 l (C5 l a8 n)).take h).foldl w4 (C5 l a8 n)).length, cA1_0) ⟨rfl, rfl, trivial⟩ (.refl _) ⟨oz, (show a7Y l a8 (n + 1) from by exact pc)⟩ oz
theorem a3P : Tr Tryz.prog 259 [.slice a_s m_s c_s, .slice a_l m_l c_l, .slice a_facts m_facts c_facts] (fun w L => Ro w L eIs [.slice a_s m_s c_s] s ∧ Ro w L J9 [.slice a_l m_l c_l] l ∧ Ro w L m8 [.slice a_facts m_facts c_facts] a8) [] (κ := Option Addr × Nat × Nat) (fun k => True) (fun k => .slice k.1 k.2.1 k.2.2) (fun k => [ow m8 [.slice k.1 k.2.1 k.2.2] (a0S s l a8)]) := by
 refine Tr.intro Tryz.func259 rfl (n := 21) rfl (by decide +kernel) bl (fr := [(0, .slice a_s m_s c_s), (1, .slice a_l m_l c_l), (2, .slice a_facts m_facts c_facts)]) rfl fun w L hR => ?_
 obtain ⟨hs, hl, hfacts⟩ := hR
 obtain ⟨rfl, ls⟩ := hs.slen
 obtain ⟨rfl, ll⟩ := hl.slen
 obtain ⟨rfl, lfacts⟩ := hfacts.slen
 refine Ew Z1 (Ei rfl (Eu (Eq_ (Ew Z10 (Em rfl (Em rfl (Est rfl (l0 a2W rfl rfl rfl dc (fun w Lp hA => ⟨hA.ro hs, hA.ro hl⟩)) (fun _ _ => (Ent.b (fun q9 => ?_) (fun q9 => ?_))))))))))
 ·refine Ey rfl ((Y.not (b := true) rfl).yd) (Em rfl (Em rfl (Em rfl (Est rfl (l0 S2 rfl rfl rfl dc (fun w Lp hA => ⟨hA.ro hs, hA.ro hfacts⟩)) (fun _ _ => (Ent.b (fun q14 => ?_) (fun q14 => ?_)))))))
  ·refine Ey rfl ((Y.not (b := true) rfl).yd) (Ey rfl ((t7 rfl rfl).yd) (Eu (o0 rfl (i7 (Et (Ew Z4 (Em rfl (Em rfl (Est rfl (N.call (a8B ((b5H (s := s) (l := l) (a8 := a8) (by first | assumption | grind)))) rfl rfl rfl dc rfl (fun w Lp hA => ⟨hA.ro hl, hA.ro hfacts⟩)) (fun k20 _ => ?_))))))))))
   obtain ⟨a20, m20, c20⟩ := k20
   refine d7 m0 fun e20 l20 => ?_
   subst e20
   refine Ei rfl (Eu (E.ret (j4 (congrArg (ow m8 [_]) (show _ = a0S s l a8 by grind [a0S, d1, d2, t1, t2])) ?_)))
   exact Fg rfl rfl (_, _, _) rfl rfl
  ·refine Ey rfl ((Y.not (b := false) rfl).yd) (Ey rfl ((t7 rfl rfl).yd) (Eu (n8 rfl (Ew Z2 (Est rfl (Nb [] [] us_Facts ty_Fact rfl rfl) (fun b17 _ => (Ent.drop (Ei rfl (Eu (E.ret (n0 (u9 (A := []) (Own.nil (E := C9) (e := tFact) (a := (some ⟨b17, 0, none⟩))) rfl (j4 (congrArg (ow m8 [_]) (show _ = a0S s l a8 by grind [a0S, d1, d2, t1, t2])) ?_)))))))))))))
   exact Fg rfl rfl ((some ⟨b17, 0, none⟩), 0, 0) rfl rfl
 ·refine Ey rfl ((Y.not (b := false) rfl).yd) (Em rfl (Es rfl (Es rfl (Es rfl (Es rfl (Ey rfl ((t8 rfl rfl).yd) (Eu (n8 rfl (Ew Z2 (Est rfl (Nb [] [] us_Facts ty_Fact rfl rfl) (fun b17 _ => (Ent.drop (Ei rfl (Eu (E.ret (n0 (u9 (A := []) (Own.nil (E := C9) (e := tFact) (a := (some ⟨b17, 0, none⟩))) rfl (j4 (congrArg (ow m8 [_]) (show _ = a0S s l a8 by grind [a0S, d1, d2, t1, t2])) ?_))))))))))))))))))
  exact Fg rfl rfl ((some ⟨b17, 0, none⟩), 0, 0) rfl rfl
end Go.Proofs.YthapcdhdfaibkaaGreatDoor
