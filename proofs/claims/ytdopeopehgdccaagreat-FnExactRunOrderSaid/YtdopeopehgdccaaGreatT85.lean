import Derived.Test.YtdopeopehgdccaaGreatBs
import Derived.Test.YtdopeopehgdccaaGreatT36
import Derived.Test.YtdopeopehgdccaaGreatT37
import Derived.Test.YtdopeopehgdccaaGreatT84
import Derived.Test.YtdopeopehgdccaaGreatEy
namespace Go.Proofs.YtdopeopehgdccaaGreat
open Go.RowKit
set_option linter.all false
set_option maxHeartbeats 2000000
attribute [local irreducible] Nop Yd Yp Ent Has Tr FnP FnP2 Src M5 V6 Y1 a0b D2
variable {g9 choice : Int} {l : List (Int × List Int × Int × Int × Int)} {d8 : List (Int × List Int)} {j3 s : List Int} {m_l c_l m_facts c_facts o5 n8 m_s c_s : Nat} {a_l a_facts n9 a_s : Option Addr}
theorem a5r (hma : 0 ≤ g9 ∧ g9.toNat < l.length) (hv : (atM l g9).2.1.length ≤ j3.length) (hif : ∀ f ∈ d8, f.1 = (atM l g9).1 → ∀ i ∈ (atM l g9).2.1, 0 ≤ i ∧ i < f.2.length) (hlm : 0 ≤ J0 l (g9, j3)) (hfl : d8.length ≤ 1048576) (hfe : ∀ f ∈ d8, f.2.length ≤ 1048576) : Tr Tryz.prog 96 [.slice a_l m_l c_l, .slice a_facts m_facts c_facts, .agg #[.int .i64 g9, .slice n9 o5 n8], .int .i64 choice] (fun w L => Ro w L z8 [.slice a_l m_l c_l] l ∧ Ro w L j9 [.slice a_facts m_facts c_facts] d8 ∧ I64 g9 ∧ Ro w L eIs [.slice n9 o5 n8] j3) [] (κ := Option Addr × Nat × Nat) (fun k => True) (fun k => .slice k.1 k.2.1 k.2.2) (fun k => [ow j9 [.slice k.1 k.2.1 k.2.2] (f7 l d8 (g9, j3) choice)]) := by
 refine Tr.intro Tryz.func96 rfl (n := 64) rfl (by decide +kernel) bl (fr := [(0, .slice a_l m_l c_l), (1, .slice a_facts m_facts c_facts), (2, .agg #[.int .i64 g9, .slice n9 o5 n8]), (3, .int .i64 choice)]) rfl fun w L hR => ?_
 obtain ⟨hl, hfacts, D5, s3⟩ := hR
 obtain ⟨rfl, ll⟩ := hl.slen
 obtain ⟨rfl, lfacts⟩ := hfacts.slen
 obtain ⟨rfl, G6⟩ := s3.slen
 have jlm : J0 l (g9, j3) = l[g9.toNat].2.2.1 := by show (atM l g9).2.2.1 = _; rw [H2 hma.2]
 have jfl := List.length_filter_le (z6 (atM l g9) j3) d8
 refine Ew Z2 (Est rfl (N.box (cs := [_, _]) rfl dc rfl) (fun b6 _ => (Eas rfl rfl (Ev Z5 (Emv rfl rfl (Emv rfl rfl (Ey rfl (Y.ldS (cs := [_, _]) ty_Access rfl (Has.pt m0) rfl) (Est rfl (N.call (a5I fc fc fc fc fc) rfl rfl rfl dc rfl (fun w Lp hA => ⟨hA.ro hl, hA.ro hfacts, D5, hA.ro s3⟩)) (fun k18 _ => ?_)))))))))
 obtain ⟨a18, m18, c18⟩ := k18
 refine Ent.lenow m0 fun e18 l18 => ?_
 subst e18
 refine Eas rfl rfl (Ev Z7 (Emv rfl rfl ?_))
 have jeq : ((a18, (d8.filter (z6 (atM l g9) j3)).length, c18) : Option Addr × Nat × Nat).2.1 = (d8.filter (z6 (atM l g9) j3)).length := rfl
 refine Ey rfl ((Y.fld fo_Access_0 f8 dc rfl).yd) (Ey rfl (Y.ld1 f8 rfl ((Has.pt (mS m0)).sub (cs' := [_]) 0 rfl) rfl) ?_)
 obtain ⟨eb22, eo22, ec22, ea22, er22, el22, eh22⟩ := hl.elem g9.toNat om
 obtain ⟨xa22_0, xc22_0, rfl, ei22_0, xh22_0, ei22_2, ei22_3, ei22_4⟩ := Ro.pMethod er22
 have := xh22_0.slen.2
 refine Ey rfl ((Y.ix us_Methods ty_Method rfl ea22 rfl g9.toNat om om).yd) (Ey rfl ((Y.fld fo_Method_2 f8 dc rfl).yd) (Ey rfl (Y.ld1 f8 rfl ((eh22 _).sub (cs' := [_]) 2 rfl) rfl) (Eas rfl rfl (Eu (Eq_ (Ew Z8 (Emv rfl rfl (Ey rfl ((Y.eql rfl rfl).yd) (Ent.d (fun q26 => ?_) (fun q26 => ?_))))))))))
 ·refine Emv rfl rfl (Es rfl (Es rfl (Es rfl (Es rfl (Ey rfl ((Y.pkt rfl rfl).yd) (Eu (E.ct rfl (Ew Z2 (Emv rfl rfl (Eas rfl rfl (Eu (E.ret (E.thr (Ent.cv (congrArg (ow j9 [_]) (show _ = f7 l d8 (g9, j3) choice by exact a1Q (l := l) (d8 := d8) (a := (g9, j3)) (.inl om))) ?_))))))))))))))
  exact Fg rfl rfl (_, _, _) rfl rfl
 ·refine Emv rfl rfl (Emv rfl rfl (Ey rfl ((Y.len us_Facts rfl).yd) (Emv rfl rfl (Ey rfl ((Y.leq rfl rfl).yd) (Ent.d (fun q31 => ?_) (fun q31 => ?_))))))
  ·refine Ey rfl ((Y.pkf rfl rfl).yd) (Eu (E.ct rfl (Ew Z2 (Emv rfl rfl (Eas rfl rfl (Eu (E.ret (E.thr (Ent.cv (congrArg (ow j9 [_]) (show _ = f7 l d8 (g9, j3) choice by exact a1Q (l := l) (d8 := d8) (a := (g9, j3)) (.inr (show ((d8.filter (z6 (atM l g9) j3)).length : Int) ≤ J0 l (g9, j3) by omega)))) ?_)))))))))
   exact Fg rfl rfl (_, _, _) rfl rfl
  ·refine Ey rfl ((Y.pkf rfl rfl).yd) (Eu (E.cf rfl (E.skipc (Et (Ew Z6 (Emv rfl rfl (Ey rfl ((Y.mx2 rfl rfl).yd) (Emv rfl rfl (Ey rfl ((Y.len us_Facts rfl).yd) (Ey rfl ((Y.remV rfl rfl om om).yd) (Eas rfl rfl (Ev Z2 (Est rfl (N.bsl (pvs := []) (cs := []) us_Facts ty_Fact rfl dc dc (o8 rfl rfl) rfl dc) (fun b39 _ => (Ent.drop (Eas rfl rfl (Eu (Eq_ (Ew Z3 (Emv rfl rfl (Ey rfl ((Y.len us_Facts rfl).yd) (Emv rfl rfl (Eu (E.block (Ent.mkow (A := []) (Own.nil (E := B2) (e := tFact) (a := (some ⟨b39, 0, none⟩))) rfl (Ent.cv (congrArg (ow j9 [_]) (show [] = Q6 (d8.filter (z6 (atM l g9) j3)) (max 0 choice % ((d8.filter (z6 (atM l g9) j3)).length : Int)) (J0 l (g9, j3)) 0 from by rfl)) (Ent.p1 (Ent.od0 (E.loop (κ := Nat × Option Addr × Nat × Nat) (fun g => g.1 ≤ (d8.filter (z6 (atM l g9) j3)).length ∧ True) (fun g => [(9, .slice a18 (d8.filter (z6 (atM l g9) j3)).length c18), (10, .int .i64 l[g9.toNat].2.2.1), (11, .int .i64 ((max 0 choice) % (↑((d8.filter (z6 (atM l g9) j3)).length) : Int))), (12, .slice g.2.1 g.2.2.1 g.2.2.2), (40, .slice a18 (d8.filter (z6 (atM l g9) j3)).length c18), (41, .int .i64 (↑((d8.filter (z6 (atM l g9) j3)).length) : Int)), (42, .int .i64 (↑g.1 : Int))]) (fun g => [owd tFact B2 a18 ((d8.filter (z6 (atM l g9) j3)).length) c18 (d8.filter (z6 (atM l g9) j3)) g.1, ow j9 [.slice g.2.1 g.2.2.1 g.2.2.2] (Q6 (d8.filter (z6 (atM l g9) j3)) (max 0 choice % ((d8.filter (z6 (atM l g9) j3)).length : Int)) (J0 l (g9, j3)) g.1), pt b6 133 [.int .i64 g9, .slice n9 j3.length n8]]) (fun g => (d8.filter (z6 (atM l g9) j3)).length - g.1) (0, (some ⟨b39, 0, none⟩), 0, 0) ⟨Nat.zero_le _, by simp⟩ ⟨rfl, rfl, rfl, rfl, rfl, rfl, rfl, trivial⟩ (.refl _) (fun g pg => ?_))))))))))))))))))))))))))))))
   obtain ⟨g, aA0_0, mA0_0, cA0_0⟩ := g
   try dsimp only at pg
   try dsimp only
   obtain ⟨pk, pa⟩ := pg
   have jk1 := Int.emod_nonneg (max 0 choice) (show ((d8.filter (z6 (atM l g9) j3)).length : Int) ≠ 0 by omega)
   have jk2 := Int.emod_lt_of_pos (max 0 choice) (show 0 < ((d8.filter (z6 (atM l g9) j3)).length : Int) by omega)
   have jci := a7d (x := (d8.filter (z6 (atM l g9) j3))) (k := (max 0 choice % ((d8.filter (z6 (atM l g9) j3)).length : Int))) (lim := J0 l (g9, j3)) (g := g)
   refine Ent.lenow (mS m0) fun eaA0_0 laA0_0 => ?_
   subst eaA0_0
   refine Ew Z1 (Ey rfl ((Y.lss rfl rfl).yd) (Ent.d (fun q43 => ?_) (fun q43 => ?_)))
   ·refine Eu (Eq_ (E.ct rfl (E.skipc (Et (Eq_ (E.block (Ew Z6 (Emv rfl rfl (Ent.adrd m0 om fun ab45 ae45 => (Ent.odt (j := g) om fun ce45 => (Ent.p1 (Ent.oFact fun oa45_1 om45_1 oc45_1 oe45 oi45_0 on45_1 => ?_))))))))))))
    subst oe45
    subst on45_1
    refine Ent.lenow m0 fun _ ol45_1 => (Ey rfl ((Y.ix us_Facts ty_Fact rfl ae45 rfl g rfl om).yd) (Ey rfl (Y.ldS (cs := [_, _]) ty_Fact rfl (Has.owt ae45 (mS m0)) rfl) (Est rfl (N.alloc ty_Fact dc) (fun b14 _ => (Eas rfl rfl (Est rfl (N.sto (vs := [_, _]) (cs' := [_, _]) ty_Fact rfl rfl rfl rfl rfl bl rfl) (fun _ _ => (Ev Z11 (Emv rfl rfl (Emv rfl rfl (Ey rfl ((Y.sub rfl rfl om om).yd) (Emv rfl rfl (Ey rfl ((Y.len us_Facts rfl).yd) (Ey rfl ((Y.add rfl rfl om om).yd) (Emv rfl rfl (Ey rfl ((Y.len us_Facts rfl).yd) (Ey rfl ((Y.remV rfl rfl om om).yd) (Emv rfl rfl (Ey rfl ((Y.lss rfl rfl).yd) (Ent.d (fun q57 => ?_) (fun q57 => ?_)))))))))))))))))))))
    ·refine Eu (E.ct rfl (Ez Z5 (Emv rfl rfl (Ey rfl (Y.ldS (cs := [_, _]) ty_Fact rfl (Has.pt m0) rfl) (Est rfl (N.bsl (pvs := [_]) (cs := [_, _]) us_Facts ty_Fact rfl dc dc (o8 rfl rfl) rfl dc) (fun b60 _ => (Ent.p2 (Ent.p1 (Ent.p4 (Est rfl (N.push (E := B2) (ex := (d8.filter (z6 (atM l g9) j3))[g]) us_Facts ty_Fact rfl rfl rfl (Own.mkFact (x := (d8.filter (z6 (atM l g9) j3))[g]) oi45_0 Own.ow) rfl bn bn dc) (fun p61 _ => (Eas rfl rfl (En (E.bln (Et (Ez Z2 (Ey rfl ((Y.add rfl rfl om om).yd) (Emv rfl rfl (Eu (Ent.p2 (Ent.otd (Ent.p2 (Ent.drop (Ent.p1 (Ent.cv (congrArg (ow j9 [_]) (show (Q6 (d8.filter (z6 (atM l g9) j3)) (max 0 choice % ((d8.filter (z6 (atM l g9) j3)).length : Int)) (J0 l (g9, j3)) g) ++ [(d8.filter (z6 (atM l g9) j3))[g]] = Q6 (d8.filter (z6 (atM l g9) j3)) (max 0 choice % ((d8.filter (z6 (atM l g9) j3)).length : Int)) (J0 l (g9, j3)) (g + 1) from by first | exact a7a om (by rw [jlm]; exact q57) | exact a7S (by rw [jlm]; exact q57))) (Ent.p2 (Ent.p1 (Ent.p2 ?_))))))))))))))))))))))))))))
     exact Ea (g + 1, p61.1, ((Q6 (d8.filter (z6 (atM l g9) j3)) (max 0 choice % ((d8.filter (z6 (atM l g9) j3)).length : Int)) (J0 l (g9, j3)) g).length + 1), p61.2) ⟨oz, trivial⟩
    ·refine Eu (E.cf rfl (E.skipc (E.bln (Et (Ez Z2 (Ey rfl ((Y.add rfl rfl om om).yd) (Emv rfl rfl (Eu (Ent.p2 (Ent.otd (Ent.p1 (Ent.drop (Ent.p1 (Ent.drop (Ent.p1 (Ent.cv (congrArg (ow j9 [_]) (show Q6 (d8.filter (z6 (atM l g9) j3)) (max 0 choice % ((d8.filter (z6 (atM l g9) j3)).length : Int)) (J0 l (g9, j3)) g = Q6 (d8.filter (z6 (atM l g9) j3)) (max 0 choice % ((d8.filter (z6 (atM l g9) j3)).length : Int)) (J0 l (g9, j3)) (g + 1) from by first | exact a7a om (by rw [jlm]; exact q57) | exact a7S (by rw [jlm]; exact q57))) (Ent.p2 (Ent.p1 (Ent.p2 ?_)))))))))))))))))))
     exact Ea (g + 1, aA0_0, (Q6 (d8.filter (z6 (atM l g9) j3)) (max 0 choice % ((d8.filter (z6 (atM l g9) j3)).length : Int)) (J0 l (g9, j3)) g).length, cA0_0) ⟨oz, trivial⟩
   ·refine Eu (Eq_ (E.cf rfl (E.exit (E.the (E.the (E.blh (Et (Ew Z2 (Emv rfl rfl (Eas rfl rfl (Eu (E.ret (Ent.p1 (Ent.cv (congrArg (ow j9 [_]) (show _ = f7 l d8 (g9, j3) choice by exact b0T (l := l) (d8 := d8) (a := (g9, j3)) om (show ¬ ((d8.filter (z6 (atM l g9) j3)).length : Int) ≤ J0 l (g9, j3) by omega) (show g = (d8.filter (z6 (atM l g9) j3)).length by omega))) ?_))))))))))))))
    exact Fg rfl rfl (_, _, _) rfl rfl
theorem a4d (hoa : I0 s l (g9, j3) = true) (hof : C5 s d8 = true) : Tr Tryz.prog 172 [.slice a_s m_s c_s, .slice a_l m_l c_l, .slice a_facts m_facts c_facts, .agg #[.int .i64 g9, .slice n9 o5 n8]] (fun w L => Ro w L eIs [.slice a_s m_s c_s] s ∧ Ro w L z8 [.slice a_l m_l c_l] l ∧ Ro w L j9 [.slice a_facts m_facts c_facts] d8 ∧ I64 g9 ∧ Ro w L eIs [.slice n9 o5 n8] j3) [] (κ := Option Addr × Nat × Nat) (fun k => True) (fun k => .slice k.1 k.2.1 k.2.2) (fun k => [ow j9 [.slice k.1 k.2.1 k.2.2] (C0 l d8 (g9, j3))]) := by
 refine Tr.intro Tryz.func172 rfl (n := 30) rfl (by decide +kernel) bl (fr := [(0, .slice a_s m_s c_s), (1, .slice a_l m_l c_l), (2, .slice a_facts m_facts c_facts), (3, .agg #[.int .i64 g9, .slice n9 o5 n8])]) rfl fun w L hR => ?_
 obtain ⟨hs, hl, hfacts, D5, s3⟩ := hR
 obtain ⟨rfl, ls⟩ := hs.slen
 obtain ⟨rfl, ll⟩ := hl.slen
 obtain ⟨rfl, lfacts⟩ := hfacts.slen
 obtain ⟨rfl, G6⟩ := s3.slen
 refine Ew Z2 (Est rfl (N.box (cs := [_, _]) rfl dc rfl) (fun b7 _ => (Eas rfl rfl (Eu (Eq_ (Ew Z11 (Emv rfl rfl (Emv rfl rfl (Ey rfl (Y.ldS (cs := [_, _]) ty_Access rfl (Has.pt m0) rfl) (Est rfl (N.call0 a4H rfl rfl rfl dc (fun w Lp hA => ⟨hA.ro hs, hA.ro hl, D5, hA.ro s3⟩)) (fun _ _ => (Ent.b (fun q12 => ?_) (fun q12 => ?_)))))))))))))
 ·have zz := (P2 hoa).2.1
  refine Ey rfl ((Y.not (b := true) rfl).yd) (Emv rfl rfl (Emv rfl rfl (Emv rfl rfl (Est rfl (N.call0 a1x rfl rfl rfl dc (fun w Lp hA => ⟨hA.ro hs, hA.ro hfacts⟩)) (fun _ _ => (Ent.b (fun q17 => ?_) (fun q17 => ?_)))))))
  ·refine Ey rfl ((Y.not (b := true) rfl).yd) (Ey rfl ((Y.pkf rfl rfl).yd) (Eu (E.cf rfl (E.skipc (Et (Eq_ (D.region (fun j => true) mixed (Dyp 0 rfl (Y.mv rfl) (Dyp 1 rfl (Y.fld fo_Access_0 f8 dc rfl) (Dy 2 rfl (Y.ld1 f8 rfl ((Has.pt m0).sub (cs' := [_]) 0 rfl) rfl) ?_))))))))))
   obtain ⟨eb24, eo24, ec24, ea24, er24, el24, eh24⟩ := hl.elem g9.toNat om
   obtain ⟨xa24_0, xc24_0, rfl, ei24_0, xh24_0, ei24_2, ei24_3, ei24_4⟩ := Ro.pMethod er24
   have := xh24_0.slen.2
   refine Dyp 3 rfl (Y.ix us_Methods ty_Method rfl ea24 rfl g9.toNat om om) (Dy 4 rfl (Y.ldS (cs := [_, _, _, _, _]) ty_Method rfl (eh24 _) rfl) (Dyp 5 rfl (Y.fld fo_Access_1 ty_Is dc rfl) (Dy 6 rfl (Y.ld1 ty_Is rfl ((Has.pt m0).sub (cs' := [_]) 1 rfl) rfl) (Dyp 7 rfl (Y.mv rfl) (D.st 8 rfl rfl kr (fun _ => rfl) (N.call (a4g (by have zc := (P2 hoa).2.2.1; rw [H2 (P2 hoa).2.1.2] at zc; exact Nat.le_of_eq zc.symm) (by have zc := a9m hoa hof; rw [H2 (P2 hoa).2.1.2] at zc; exact zc) (Nat.le_trans (H1 hof).1 dc) (fun f hf => Nat.le_trans (P0 ((H1 hof).2 f hf)) dc)) rfl rfl rfl dc rfl (fun w Lp hA => ⟨ei24_0, hA.ro xh24_0, ei24_2, ei24_3, ei24_4, hA.ro s3, hA.ro hfacts⟩)) (fun k29 _ => ?_))))))
   obtain ⟨a29, m29, c29⟩ := k29
   refine Ent.lenow m0 fun e29 l29 => ?_
   subst e29
   refine Dyp 9 rfl (Y.as rfl) (D.done kr (Et (E.ret (Ent.cv (congrArg (ow j9 [_]) (show _ = C0 l d8 (g9, j3) by rw [C0, H2 (P2 hoa).2.1.2])) ?_))))
   exact Fg rfl rfl (_, _, _) rfl rfl
  ·refine Ey rfl ((Y.not (b := false) rfl).yd) (Ey rfl ((Y.pkf rfl rfl).yd) (Eu (E.ct rfl (Ew Z2 (Est rfl (N.bsl (pvs := []) (cs := []) us_Facts ty_Fact rfl dc dc (o8 rfl rfl) rfl dc) (fun b20 _ => (Ent.drop (Eas rfl rfl (Eu (E.ret (E.thr (Ent.mkow (A := []) (Own.nil (E := B2) (e := tFact) (a := (some ⟨b20, 0, none⟩))) rfl (Ent.cv (congrArg (ow j9 [_]) (show _ = C0 l d8 (g9, j3) by rw [hof] at q17; cases q17)) ?_)))))))))))))
   exact Fg rfl rfl ((some ⟨b20, 0, none⟩), 0, 0) rfl rfl
 ·refine Ey rfl ((Y.not (b := false) rfl).yd) (Emv rfl rfl (Es rfl (Es rfl (Es rfl (Es rfl (Ey rfl ((Y.pkt rfl rfl).yd) (Eu (E.ct rfl (Ew Z2 (Est rfl (N.bsl (pvs := []) (cs := []) us_Facts ty_Fact rfl dc dc (o8 rfl rfl) rfl dc) (fun b20 _ => (Ent.drop (Eas rfl rfl (Eu (E.ret (E.thr (Ent.mkow (A := []) (Own.nil (E := B2) (e := tFact) (a := (some ⟨b20, 0, none⟩))) rfl (Ent.cv (congrArg (ow j9 [_]) (show _ = C0 l d8 (g9, j3) by rw [hoa] at q12; cases q12)) ?_))))))))))))))))))
  exact Fg rfl rfl ((some ⟨b20, 0, none⟩), 0, 0) rfl rfl
theorem a3Q (hoa : I0 s l (g9, j3) = true) (hof : C5 s d8 = true) : Tr Tryz.prog 85 [.slice a_s m_s c_s, .slice a_l m_l c_l, .slice a_facts m_facts c_facts, .agg #[.int .i64 g9, .slice n9 o5 n8], .int .i64 choice] (fun w L => Ro w L eIs [.slice a_s m_s c_s] s ∧ Ro w L z8 [.slice a_l m_l c_l] l ∧ Ro w L j9 [.slice a_facts m_facts c_facts] d8 ∧ I64 g9 ∧ Ro w L eIs [.slice n9 o5 n8] j3) [] (κ := Option Addr × Nat × Nat) (fun k => True) (fun k => .slice k.1 k.2.1 k.2.2) (fun k => [ow j9 [.slice k.1 k.2.1 k.2.2] (f7 l d8 (g9, j3) choice)]) := by
 refine Tr.intro Tryz.func85 rfl (n := 72) rfl (by decide +kernel) bl (fr := [(0, .slice a_s m_s c_s), (1, .slice a_l m_l c_l), (2, .slice a_facts m_facts c_facts), (3, .agg #[.int .i64 g9, .slice n9 o5 n8]), (4, .int .i64 choice)]) rfl fun w L hR => ?_
 obtain ⟨hs, hl, hfacts, D5, s3⟩ := hR
 obtain ⟨rfl, ls⟩ := hs.slen
 obtain ⟨rfl, ll⟩ := hl.slen
 obtain ⟨rfl, lfacts⟩ := hfacts.slen
 obtain ⟨rfl, G6⟩ := s3.slen
 have zz := (P2 hoa).2.1
 have jlm : J0 l (g9, j3) = l[g9.toNat].2.2.1 := by show (atM l g9).2.2.1 = _; rw [H2 (P2 hoa).2.1.2]
 have jl0 := a8r hoa
 have jml : (C0 l d8 (g9, j3)).length ≤ 24 := Nat.le_trans a5z (H1 hof).1
 have hmF : ∀ f ∈ (C0 l d8 (g9, j3)), f.2.length ≤ 1048576 := fun f hf => Nat.le_trans (P0 ((H1 hof).2 f (List.mem_filter.1 hf).1)) dc
 refine Ew Z2 (Est rfl (N.box (cs := [_, _]) rfl dc rfl) (fun b8 _ => (Eas rfl rfl (Ev Z6 (Emv rfl rfl (Emv rfl rfl (Emv rfl rfl (Ey rfl (Y.ldS (cs := [_, _]) ty_Access rfl (Has.pt m0) rfl) (Est rfl (N.call (a4d fo fo) rfl rfl rfl dc rfl (fun w Lp hA => ⟨hA.ro hs, hA.ro hl, hA.ro hfacts, D5, hA.ro s3⟩)) (fun k19 _ => ?_))))))))))
 obtain ⟨a19, m19, c19⟩ := k19
 refine Ent.lenow m0 fun e19 l19 => ?_
 subst e19
 refine Eas rfl rfl ?_
 have jeq : ((a19, (C0 l d8 (g9, j3)).length, c19) : Option Addr × Nat × Nat).2.1 = (C0 l d8 (g9, j3)).length := rfl
 refine Eu (Eq_ (Ew Z23 (Emv rfl rfl (Ey rfl ((Y.len us_Facts rfl).yd) (Ey rfl ((Y.eql rfl rfl).yd) (Ent.d (fun q22 => ?_) (fun q22 => ?_)))))))
 ·refine Emv rfl rfl (Es rfl (Es rfl (Es rfl (Es rfl (Es rfl (Es rfl (Es rfl (Ey rfl ((Y.pkt rfl rfl).yd) (Emv rfl rfl (Es rfl (Es rfl (Es rfl (Es rfl (Es rfl (Es rfl (Es rfl (Es rfl (Es rfl (Ey rfl ((Y.pkt rfl rfl).yd) (Eu (E.ct rfl (Ew Z2 (Emv rfl rfl (Eas rfl rfl (Eu (E.ret (E.thr (Ent.cv (congrArg (ow j9 [_]) (show _ = f7 l d8 (g9, j3) choice by exact a1Q (.inr om))) ?_))))))))))))))))))))))))))))
  exact Fg rfl rfl (_, _, _) rfl rfl
 ·refine Emv rfl rfl (Emv rfl rfl (Ey rfl ((Y.fld fo_Access_0 f8 dc rfl).yd) (Ey rfl (Y.ld1 f8 rfl ((Has.pt (mS m0)).sub (cs' := [_]) 0 rfl) rfl) ?_)))
  obtain ⟨eb27, eo27, ec27, ea27, er27, el27, eh27⟩ := hl.elem g9.toNat om
  obtain ⟨xa27_0, xc27_0, rfl, ei27_0, xh27_0, ei27_2, ei27_3, ei27_4⟩ := Ro.pMethod er27
  have := xh27_0.slen.2
  refine Ey rfl ((Y.ix us_Methods ty_Method rfl ea27 rfl g9.toNat om om).yd) (Ey rfl ((Y.fld fo_Method_2 f8 dc rfl).yd) (Ey rfl (Y.ld1 f8 rfl ((eh27 _).sub (cs' := [_]) 2 rfl) rfl) (Ey rfl ((Y.eql rfl rfl).yd) (Ent.d (fun q30 => ?_) (fun q30 => ?_)))))
  ·refine Ey rfl ((Y.pkf rfl rfl).yd) (Emv rfl rfl (Es rfl (Es rfl (Es rfl (Es rfl (Es rfl (Es rfl (Es rfl (Es rfl (Es rfl (Ey rfl ((Y.pkt rfl rfl).yd) (Eu (E.ct rfl (Ew Z2 (Emv rfl rfl (Eas rfl rfl (Eu (E.ret (E.thr (Ent.cv (congrArg (ow j9 [_]) (show _ = f7 l d8 (g9, j3) choice by exact a1Q (.inl om))) ?_))))))))))))))))))))
   exact Fg rfl rfl (_, _, _) rfl rfl
  ·refine Ey rfl ((Y.pkf rfl rfl).yd) (Emv rfl rfl (Emv rfl rfl (Ey rfl ((Y.len us_Facts rfl).yd) (Emv rfl rfl (Ey rfl ((Y.fld fo_Access_0 f8 dc rfl).yd) (Ey rfl (Y.ld1 f8 rfl ((Has.pt (mS m0)).sub (cs' := [_]) 0 rfl) rfl) (Ey rfl ((Y.ix us_Methods ty_Method rfl ea27 rfl g9.toNat om om).yd) (Ey rfl ((Y.fld fo_Method_2 f8 dc rfl).yd) (Ey rfl (Y.ld1 f8 rfl ((eh27 _).sub (cs' := [_]) 2 rfl) rfl) (Ey rfl ((Y.leq rfl rfl).yd) (Ent.d (fun q41 => ?_) (fun q41 => ?_))))))))))))
   ·refine Ey rfl ((Y.pkf rfl rfl).yd) (Eu (E.ct rfl (Ew Z2 (Emv rfl rfl (Eas rfl rfl (Eu (E.ret (E.thr (Ent.cv (congrArg (ow j9 [_]) (show _ = f7 l d8 (g9, j3) choice by exact a1Q (.inr om))) ?_)))))))))
    exact Fg rfl rfl (_, _, _) rfl rfl
   ·refine Ey rfl ((Y.pkf rfl rfl).yd) (Eu (E.cf rfl (E.skipc (Et (Ew Z2 (Est rfl (N.bsl (pvs := []) (cs := []) us_Facts ty_Fact rfl dc dc (o8 rfl rfl) rfl dc) (fun b44 _ => (Ent.drop (Eas rfl rfl (Ev Z6 (Emv rfl rfl (Ey rfl ((Y.mx2 rfl rfl).yd) (Emv rfl rfl (Ey rfl ((Y.len us_Facts rfl).yd) (Ey rfl ((Y.remV rfl rfl om om).yd) (Eas rfl rfl (Eu (Eq_ (Ew Z1 (Eas rfl rfl (Eu (E.block (Ent.mkow (A := []) (Own.nil (E := B2) (e := tFact) (a := (some ⟨b44, 0, none⟩))) rfl (Ent.cv (congrArg (ow j9 [_]) (show [] = a0t (C0 l d8 (g9, j3)) (max choice 0 % ((C0 l d8 (g9, j3)).length : Int)) 0 from by rfl)) (E.loop (κ := Nat × Option Addr × Nat × Nat) (fun g => g.1 ≤ (J0 l (g9, j3)).toNat ∧ True) (fun g => [(1, .slice a_l l.length c_l), (8, .pointer (some ⟨b8, 0, none⟩)), (11, .slice a19 (C0 l d8 (g9, j3)).length c19), (12, .slice g.2.1 g.2.2.1 g.2.2.2), (13, .int .i64 ((max choice 0) % (↑((C0 l d8 (g9, j3)).length) : Int))), (14, .int .i64 (↑g.1 : Int))]) (fun g => [ow j9 [.slice g.2.1 g.2.2.1 g.2.2.2] (a0t (C0 l d8 (g9, j3)) (max choice 0 % ((C0 l d8 (g9, j3)).length : Int)) g.1), ow j9 [.slice a19 (C0 l d8 (g9, j3)).length c19] (C0 l d8 (g9, j3)), pt b8 133 [.int .i64 g9, .slice n9 j3.length n8]]) (fun g => (J0 l (g9, j3)).toNat - g.1) (0, (some ⟨b44, 0, none⟩), 0, 0) ⟨Nat.zero_le _, by simp⟩ ⟨rfl, rfl, rfl, rfl, rfl, rfl, trivial⟩ (.refl _) (fun g pg => ?_))))))))))))))))))))))))))
    obtain ⟨g, aA0_0, mA0_0, cA0_0⟩ := g
    try dsimp only at pg
    try dsimp only
    obtain ⟨pk, pa⟩ := pg
    have jk1 := Int.emod_nonneg (max choice 0) (show ((C0 l d8 (g9, j3)).length : Int) ≠ 0 by omega)
    have jk2 := Int.emod_lt_of_pos (max choice 0) (show 0 < ((C0 l d8 (g9, j3)).length : Int) by omega)
    have jcs := b0e (x := (C0 l d8 (g9, j3))) (k := (max choice 0 % ((C0 l d8 (g9, j3)).length : Int))) (g := g)
    refine Ent.lenow m0 fun eaA0_0 laA0_0 => ?_
    subst eaA0_0
    refine Eq_ (Ew Z8 (Emv rfl rfl (Emv rfl rfl (Ey rfl ((Y.fld fo_Access_0 f8 dc rfl).yd) (Ey rfl (Y.ld1 f8 rfl ((Has.pt (mS (mS m0))).sub (cs' := [_]) 0 rfl) rfl) (Ey rfl ((Y.ix us_Methods ty_Method rfl ea27 rfl g9.toNat om om).yd) (Ey rfl ((Y.fld fo_Method_2 f8 dc rfl).yd) (Ey rfl (Y.ld1 f8 rfl ((eh27 _).sub (cs' := [_]) 2 rfl) rfl) (Ey rfl ((Y.lss rfl rfl).yd) (Ent.d (fun q57 => ?_) (fun q57 => ?_)))))))))))
    ·refine Eu (E.ct rfl (E.skipc (Et (Eq_ (E.block (Ez Z12 (Emv rfl rfl (Emv rfl rfl (Emv rfl rfl (Emv rfl rfl (Ey rfl ((Y.add rfl rfl om om).yd) (Emv rfl rfl (Ey rfl ((Y.len us_Facts rfl).yd) (Ey rfl ((Y.remV rfl rfl om om).yd) ?_))))))))))))))
     have jix := a7E (x := (C0 l d8 (g9, j3))) (k := (max choice 0 % ((C0 l d8 (g9, j3)).length : Int))) (g := g) jk1 om
     refine Ent.adr (mS m0) om fun ab68 ae68 => (Ent.p1 (Ent.open (x := (C0 l d8 (g9, j3))[((((max choice 0) % (↑((C0 l d8 (g9, j3)).length) : Int)) + (g : Int)) % (↑((C0 l d8 (g9, j3)).length) : Int)).toNat]) (((((max choice 0) % (↑((C0 l d8 (g9, j3)).length) : Int)) + (g : Int)) % (↑((C0 l d8 (g9, j3)).length) : Int)).toNat) (List.getElem?_eq_getElem om) fun ce68 => ?_))
     refine Ent.p1 (Ent.oFact fun oa68_1 om68_1 oc68_1 oe68 oi68_0 on68_1 => ?_)
     subst oe68
     subst on68_1
     refine Ey rfl ((Y.ix us_Facts ty_Fact rfl ae68 rfl (((((max choice 0) % (↑((C0 l d8 (g9, j3)).length) : Int)) + (g : Int)) % (↑((C0 l d8 (g9, j3)).length) : Int)).toNat) om om).yd) (Ey rfl (Y.ldS (cs := [_, _]) ty_Fact rfl (Has.hole ae68 (mS m0)) rfl) (Est rfl (N.call (a1I om (fun f hf => hmF f (b0j jk1 om hf)) (hmF _ (List.getElem_mem _))) rfl rfl rfl dc rfl (fun w Lp hA => ⟨hA.ow (mS (mS m0)), oi68_0, hA.ow m0⟩)) (fun k70 _ => ?_)))
     obtain ⟨a70, m70, c70⟩ := k70
     refine Ent.lenow m0 fun e70 l70 => ?_
     subst e70
     refine Eas rfl rfl (En (E.bln (Et (Ez Z3 (Emv rfl rfl (Ey rfl ((Y.add rfl rfl om om).yd) (Eas rfl rfl (Eu (Ent.p1 (Ent.p2 (Ent.shut (Own.mkFact (x := (C0 l d8 (g9, j3))[((((max choice 0) % (↑((C0 l d8 (g9, j3)).length) : Int)) + (g : Int)) % (↑((C0 l d8 (g9, j3)).length) : Int)).toNat]) oi68_0 Own.ow) rfl (Ent.cv (congrArg (ow j9 [_]) (List.set_getElem_self om)) (Ent.p2 (Ent.drop (Ent.p1 (Ent.cv (congrArg (ow j9 [_]) (show y4 (a0t (C0 l d8 (g9, j3)) (max choice 0 % ((C0 l d8 (g9, j3)).length : Int)) g) (((C0 l d8 (g9, j3))[((((max choice 0) % (↑((C0 l d8 (g9, j3)).length) : Int)) + (g : Int)) % (↑((C0 l d8 (g9, j3)).length) : Int)).toNat].1), ((C0 l d8 (g9, j3))[((((max choice 0) % (↑((C0 l d8 (g9, j3)).length) : Int)) + (g : Int)) % (↑((C0 l d8 (g9, j3)).length) : Int)).toNat].2)) = a0t (C0 l d8 (g9, j3)) (max choice 0 % ((C0 l d8 (g9, j3)).length : Int)) (g + 1) from by exact a9I om rfl)) (Ent.p2 (Ent.p2 (Ent.p2 ?_)))))))))))))))))))
     exact Ea (g + 1, a70, (y4 (a0t (C0 l d8 (g9, j3)) (max choice 0 % ((C0 l d8 (g9, j3)).length : Int)) g) (((C0 l d8 (g9, j3))[((((max choice 0) % (↑((C0 l d8 (g9, j3)).length) : Int)) + (g : Int)) % (↑((C0 l d8 (g9, j3)).length) : Int)).toNat].1), ((C0 l d8 (g9, j3))[((((max choice 0) % (↑((C0 l d8 (g9, j3)).length) : Int)) + (g : Int)) % (↑((C0 l d8 (g9, j3)).length) : Int)).toNat].2))).length, c70) ⟨oz, trivial⟩
    ·refine Eu (E.cf rfl (E.exit (E.the (E.the (E.blh (Et (Ew Z2 (Emv rfl rfl (Eas rfl rfl (Eu (E.ret (Ent.cv (congrArg (ow j9 [_]) (show _ = f7 l d8 (g9, j3) choice by exact b0a (a2U hof) om om om om)) ?_))))))))))))
     exact Fg rfl rfl (_, _, _) rfl rfl
end Go.Proofs.YtdopeopehgdccaaGreat
