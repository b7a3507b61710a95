import Derived.Test.YtfnbilpemdgkkaaGreatDoorT96
namespace Go.Proofs.YtfnbilpemdgkkaaGreatDoor
open Go.RowKit
set_option linter.all false
set_option maxHeartbeats 2000000
attribute [local irreducible] Nop Yd Yp Ent Has Tr FnP FnP2 Src J1 P8 U7 W9 E0 wyI wyK wyR wyB dvI dvF
theorem a0g {a_s : Option Addr} {m_s c_s : Nat} {s : List Int} {a_l : Option Addr} {m_l c_l : Nat} {l : List (Int × Int × List Int)} {a_facts : Option Addr} {m_facts c_facts : Nat} {a6 : List (Int × List Int)} {d6 : Int} {k6 : Option Addr} {m8 j9 : Nat} {c8 : List Int} : Tr Tryz.prog 40 [.slice a_s m_s c_s, .slice a_l m_l c_l, .slice a_facts m_facts c_facts, .agg #[.int .i64 d6, .slice k6 m8 j9]] (fun w L => Ro w L eIs [.slice a_s m_s c_s] s ∧ Ro w L D0 [.slice a_l m_l c_l] l ∧ Ro w L f6 [.slice a_facts m_facts c_facts] a6 ∧ I64 d6 ∧ Ro w L eIs [.slice k6 m8 j9] c8) [] (κ := Option Addr × Nat × Nat) (fun k => True) (fun k => .tuple #[.slice k.1 k.2.1 k.2.2, .bool (decide (0 < (dvF s l a6 (d6, c8)).length))]) (fun k => [ow eIs [.slice k.1 k.2.1 k.2.2] (dvF s l a6 (d6, c8))]) := by
 refine f8 Tryz.func40 rfl (n := 58) rfl (by decide +kernel) bl (fr := [(0, .slice a_s m_s c_s), (1, .slice a_l m_l c_l), (2, .slice a_facts m_facts c_facts), (3, .agg #[.int .i64 d6, .slice k6 m8 j9])]) rfl fun w L hR => ?_
 obtain ⟨hs, hl, hfacts, t8, m6⟩ := hR
 obtain ⟨rfl, ls⟩ := hs.slen
 obtain ⟨rfl, ll⟩ := hl.slen
 obtain ⟨rfl, lfacts⟩ := hfacts.slen
 obtain ⟨rfl, D3⟩ := m6.slen
 refine Ew Z3 (Est rfl (N.box (cs := [_, _]) rfl dc rfl) (fun b7 _ => (Ei rfl (Ei rfl (Eu (Eq_ (Ew Z5 (Em rfl (Em rfl (Em rfl (Est rfl (f5 P4 rfl rfl rfl dc (fun w Lp hA => ⟨hA.ro hs, hA.ro hl, hA.ro hfacts⟩)) (fun _ _ => (r5 (fun q18 => ?_) (fun q18 => ?_))))))))))))))
 ·obtain ⟨jr0, jf0⟩ := Bool.and_eq_true_iff.1 q18
  refine Ey rfl ((Y.not (b := true) rfl).yd) (Eu (l4 rfl (d9 (Et (Ew Z2 (Est rfl (Nb [] [] us_Is f4 rfl rfl) (fun b20 _ => (Ent.drop (Ei rfl (Eu (Eq_ (Ew Z3 (Em rfl (Ey rfl ((Y.len us_Facts rfl).yd) (Em rfl (Eu (E.block (o1 (A := []) (Own.nil (E := Enc.int) (e := tI) (a := (some ⟨b20, 0, none⟩))) rfl (f9 (congrArg (ow eIs [_]) (show [] = dvI l a6 (d6, c8) 0 from by exact a8t)) (E.loop (κ := Nat × Option Addr × Nat × Nat) (fun g => g.1 ≤ a6.length ∧ True) (fun g => [(1, .slice a_l l.length c_l), (7, .pointer (some ⟨b7, 0, none⟩)), (10, .slice g.2.1 g.2.2.1 g.2.2.2), (21, .slice a_facts a6.length c_facts), (22, .int .i64 (↑a6.length : Int)), (23, .int .i64 (↑g.1 : Int))]) (fun g => [ow eIs [.slice g.2.1 g.2.2.1 g.2.2.2] (dvI l a6 (d6, c8) g.1), pt b7 44 [.int .i64 d6, .slice k6 c8.length j9]]) (fun g => a6.length - g.1) (0, (some ⟨b20, 0, none⟩), 0, 0) ⟨Nat.zero_le _, by simp⟩ ⟨rfl, rfl, rfl, rfl, rfl, rfl, trivial⟩ (.refl _) (fun g pg => ?_)))))))))))))))))))))
  obtain ⟨g, aA0_0, mA0_0, cA0_0⟩ := g
  try dsimp only at pg
  try dsimp only
  obtain ⟨pk, pa⟩ := pg
  have jd : (dvI l a6 (d6, c8) g).length ≤ 5325 := a6U jr0 jf0 om
  refine d8 m0 fun eaA0_0 laA0_0 => ?_
  subst eaA0_0
  refine Ew Z1 (Ey rfl ((Y.lss rfl rfl).yd) (j8 (fun q24 => ?_) (fun q24 => ?_)))
  ·refine Eu (Eq_ (l3 rfl (d9 (Et (Eq_ (E.block (Ew Z6 (Em rfl ?_))))))))
   obtain ⟨eb26, eo26, ec26, ea26, er26, el26, eh26⟩ := hfacts.elem g om
   obtain ⟨xa26_0, xc26_0, rfl, ei26_0, xh26_0⟩ := y8 er26
   have := xh26_0.slen.2
   refine Ey rfl ((r8 us_Facts ty_Fact rfl ea26 rfl g rfl om).yd) (Ey rfl (l8 (cs := [_, _]) ty_Fact rfl (eh26 _) rfl) (Est rfl (N.alloc ty_Fact dc) (fun b12 _ => (Ei rfl (Est rfl (Ns [_, _] ty_Fact rfl) (fun _ _ => (Ev Z9 (Em rfl (Ey rfl (l8 (cs := [_, _]) ty_Fact rfl (Has.pt m0) rfl) (Ey rfl (l8 (cs := [_, _]) ty_Fact rfl (Has.pt (mS (mS m0))) rfl) ?_))))))))))
   have jfo := (G9 jf0).2 _ (List.getElem_mem (show g < a6.length by omega))
   have jw := (a6h (to := (d6, c8)) jr0 jfo).1
   refine Est rfl (N.call (a6C jr0 jfo) rfl rfl rfl dc rfl (fun w Lp hA => ⟨hA.ro hl, ei26_0, hA.ro xh26_0, t8, hA.ro m6⟩)) (fun k32 _ => ?_)
   obtain ⟨a32, m32, c32⟩ := k32
   refine d8 m0 fun e32 l32 => ?_
   subst e32
   refine Em rfl (Ey rfl ((Y.ext rfl rfl).yd) (Ey rfl ((Y.ext rfl rfl).yd) (Ei rfl (Ei rfl (r5 (fun q14 => ?_) (fun q14 => ?_))))))
   ·have jw2 : (wyR l (a6[g].1, a6[g].2) (d6, c8)).length ≤ 5324 := jw
    have jeq : ((a32, (wyR l (a6[g].1, a6[g].2) (d6, c8)).length, c32) : Option Addr × Nat × Nat).2.1 = (wyR l (a6[g].1, a6[g].2) (d6, c8)).length := rfl
    have jeq2 : ((a32, (wyR l ((a6.get ⟨g, by omega⟩).1, (a6.get ⟨g, by omega⟩).2) (d6, c8)).length, c32) : Option Addr × Nat × Nat).2.1 = (wyR l (a6[g].1, a6[g].2) (d6, c8)).length := rfl
    refine Ev Z14 (Em rfl (Em rfl (Em rfl (Ey rfl ((Y.len us_Is rfl).yd) (Ey rfl ((Y.eql rfl rfl).yd) (j8 (fun q39 => ?_) (fun q39 => ?_)))))))
    ·refine Em rfl (Es rfl (Es rfl (Es rfl (Es rfl (Es rfl (Es rfl (Ey rfl ((o0 rfl rfl).yd) (Ey rfl ((o0 rfl rfl).yd) (Eu (l3 rfl (Ez Z5 (Em rfl (Est rfl (Nb [_] [_] us_Is f4 rfl rfl) (fun b50 _ => (o1 (A := _ :: _) (J8 (E := Enc.int) (e := tI) (Own.int i6)) rfl (Em rfl (d7 (d7 ?_))))))))))))))))))
     refine Est rfl (a2T (E := Enc.int) us_Is f4 rfl rfl rfl rfl rfl bn bn dc) (fun p52 _ => (Ei rfl (En (o2 (Et (Ez Z2 (Ey rfl ((Y.add rfl rfl om om).yd) (Em rfl (Eu (d7 (Ent.drop (d7 (Ent.drop (f9 (congrArg (ow eIs [_]) (show ([(g : Int)]) ++ (wyR l a6[g] (d6, c8)) = dvI l a6 (d6, c8) (g + 1) from by first | exact I1 om q14 om | exact I0 om q14 q46 | exact H7 om q14 | exact H9 om om q46)) (d7 (d7 ?_))))))))))))))))
     exact Ea (g + 1, p52.1, (1 + (wyR l a6[g] (d6, c8)).length), p52.2) ⟨oz, trivial⟩
    ·refine Em rfl (Em rfl (Ey rfl ((Y.len us_Is rfl).yd) (Ey rfl ((Y.add rfl rfl om om).yd) (Em rfl (Ey rfl ((Y.len us_Is rfl).yd) (Ey rfl ((Y.lss rfl rfl).yd) (j8 (fun q46 => ?_) (fun q46 => ?_))))))))
     ·refine Ey rfl ((o6 rfl rfl).yd) (Ey rfl ((o0 rfl rfl).yd) (Eu (l3 rfl (Ez Z5 (Em rfl (Est rfl (Nb [_] [_] us_Is f4 rfl rfl) (fun b50 _ => (o1 (A := _ :: _) (J8 (E := Enc.int) (e := tI) (Own.int i6)) rfl (Em rfl (d7 (d7 (Est rfl (a2T (E := Enc.int) us_Is f4 rfl rfl rfl rfl rfl bn bn dc) (fun p52 _ => (Ei rfl (En (o2 (Et (Ez Z2 (Ey rfl ((Y.add rfl rfl om om).yd) (Em rfl (Eu (d7 (Ent.drop (d7 ?_))))))))))))))))))))))))
      refine Ent.drop (f9 (congrArg (ow eIs [_]) (show ([(g : Int)]) ++ (wyR l a6[g] (d6, c8)) = dvI l a6 (d6, c8) (g + 1) from by first | exact I1 om q14 om | exact I0 om q14 q46 | exact H7 om q14 | exact H9 om om q46)) (d7 (d7 ?_)))
      exact Ea (g + 1, p52.1, (1 + (wyR l a6[g] (d6, c8)).length), p52.2) ⟨oz, trivial⟩
     ·refine Ey rfl ((o6 rfl rfl).yd) (Ey rfl ((o0 rfl rfl).yd) (Eu (l4 rfl (d9 (o2 (Et (Ez Z2 (Ey rfl ((Y.add rfl rfl om om).yd) (Em rfl (Eu (Ent.drop (Ent.drop (f9 (congrArg (ow eIs [_]) (show dvI l a6 (d6, c8) g = dvI l a6 (d6, c8) (g + 1) from by first | exact I1 om q14 om | exact I0 om q14 q46 | exact H7 om q14 | exact H9 om om q46)) (d7 (d7 ?_)))))))))))))))
      exact Ea (g + 1, aA0_0, (dvI l a6 (d6, c8) g).length, cA0_0) ⟨oz, trivial⟩
   ·refine Ev Z14 (Em rfl (Em rfl (Es rfl (Es rfl (Es rfl (b2j rfl rfl dc (Es rfl (Es rfl (Es rfl (Es rfl (Es rfl (Es rfl (Es rfl (Ey rfl ((o6 rfl rfl).yd) (Eu (l4 rfl (d9 (o2 (Et (Ez Z2 (Ey rfl ((Y.add rfl rfl om om).yd) ?_)))))))))))))))))))))
    refine Em rfl (Eu (Ent.drop (Ent.drop (f9 (congrArg (ow eIs [_]) (show dvI l a6 (d6, c8) g = dvI l a6 (d6, c8) (g + 1) from by first | exact I1 om q14 om | exact I0 om q14 q46 | exact H7 om q14 | exact H9 om om q46)) (d7 (d7 ?_))))))
    exact Ea (g + 1, aA0_0, (dvI l a6 (d6, c8) g).length, cA0_0) ⟨oz, trivial⟩
  ·refine Eu (Eq_ (l4 rfl (E.exit (n8 (n8 (w7 (Et (Ew Z6 (Em rfl (Em rfl (Ey rfl ((Y.len us_Is rfl).yd) (Ey rfl ((Y.gtr rfl rfl).yd) (Ei rfl (Ei rfl (Eu (E.ret (f9 (congrArg (ow eIs [_]) (show _ = dvF s l a6 (d6, c8) by first | exact a2n jr0 jf0 om om | (rw [← a2n (to := (d6, c8)) (i := g) jr0 jf0 om om]; apply decide_eq_decide.2; omega))) ?_)))))))))))))))))
   exact S2 br rfl rfl rfl (_, _, _) trivial (by rw [show (decide (0 < (dvF s l a6 (d6, c8)).length)) = (decide (0 < (↑((dvI l a6 (d6, c8) g).length) : Int))) from (by first | exact a2n jr0 jf0 om om | (rw [← a2n (to := (d6, c8)) (i := g) jr0 jf0 om om]; apply decide_eq_decide.2; omega))]; try rfl) (J := _) (.refl _) (.inl rfl)
 ·refine Ey rfl ((Y.not (b := false) rfl).yd) (Eu (l3 rfl (Ew Z2 (Ei rfl (Ei rfl (Eu (E.ret (j0 (o1 (A := []) (Own.nil (E := Enc.int) (e := tI) (a := none)) rfl (f9 (congrArg (ow eIs [_]) (show _ = dvF s l a6 (d6, c8) by first | exact (Y0 q18).1 | exact (Y0 q18).2 | exact (Y0 q18).1.symm | exact (Y0 q18).2.symm)) ?_))))))))))
  exact S2 br rfl rfl rfl (none, 0, 0) trivial (by rw [show (decide (0 < (dvF s l a6 (d6, c8)).length)) = (false) from (by first | exact (Y0 q18).1 | exact (Y0 q18).2 | exact (Y0 q18).1.symm | exact (Y0 q18).2.symm)]; try rfl) (J := _) (.refl _) (.inl rfl)
end Go.Proofs.YtfnbilpemdgkkaaGreatDoor
