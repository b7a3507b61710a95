import Derived.Test.YtdopeopehgdccaaGreatBs
import Derived.Test.YtdopeopehgdccaaGreatT36
import Derived.Test.YtdopeopehgdccaaGreatT37
import Derived.Test.YtdopeopehgdccaaGreatT84
import Derived.Test.YtdopeopehgdccaaGreatEy
namespace Go.Proofs.YtdopeopehgdccaaGreat
open Go.RowKit
set_option linter.all false
set_option maxHeartbeats 2000000
attribute [local irreducible] Nop Yd Yp Ent Has Tr FnP FnP2 Src K9 U8 W3 X6 E0
variable {l4 : Int} {l : List (Int × List Int × Int × Int × Int)} {d8 : List (Int × List Int)} {s o0 : List Int} {m_s c_s m_l c_l m_facts c_facts s8 s4 : Nat} {a_s a_l a_facts s5 : Option Addr}
theorem a6w (hoa : K8 s l (l4, o0) = true) (hof : B7 s d8 = true) : Tr Tryz.prog 172 [.slice a_s m_s c_s, .slice a_l m_l c_l, .slice a_facts m_facts c_facts, .agg #[.int .i64 l4, .slice s5 s8 s4]] (fun w L => Ro w L eIs [.slice a_s m_s c_s] s ∧ Ro w L x9 [.slice a_l m_l c_l] l ∧ Ro w L o2 [.slice a_facts m_facts c_facts] d8 ∧ I64 l4 ∧ Ro w L eIs [.slice s5 s8 s4] o0) [] (κ := Option Addr × Nat × Nat) (fun k => True) (fun k => .slice k.1 k.2.1 k.2.2) (fun k => [ow o2 [.slice k.1 k.2.1 k.2.2] (j6 l d8 (l4, o0))]) := by
 refine Tr.intro Tryz.func172 rfl (n := 30) rfl (by decide +kernel) bl (fr := [(0, .slice a_s m_s c_s), (1, .slice a_l m_l c_l), (2, .slice a_facts m_facts c_facts), (3, .agg #[.int .i64 l4, .slice s5 s8 s4])]) rfl fun w L hR => ?_
 obtain ⟨hs, hl, hfacts, H5, v8⟩ := hR
 obtain ⟨rfl, ls⟩ := hs.slen
 obtain ⟨rfl, ll⟩ := hl.slen
 obtain ⟨rfl, lfacts⟩ := hfacts.slen
 obtain ⟨rfl, L8⟩ := v8.slen
 refine Ew Z2 (Est rfl (N.box (cs := [_, _]) rfl dc rfl) (fun b7 _ => (Eas rfl rfl (Eu (Eq_ (Ew Z11 (Emv rfl rfl (Emv rfl rfl (Ey rfl (Y.ldS (cs := [_, _]) ty_Access rfl (Has.pt m0) rfl) (Est rfl (N.call0 a6M rfl rfl rfl dc (fun w Lp hA => ⟨hA.ro hs, hA.ro hl, H5, hA.ro v8⟩)) (fun _ _ => (Ent.b (fun q12 => ?_) (fun q12 => ?_)))))))))))))
 ·have zz := (V2 hoa).2.1
  refine Ey rfl ((Y.not (b := true) rfl).yd) (Emv rfl rfl (Emv rfl rfl (Emv rfl rfl (Est rfl (N.call0 a1C rfl rfl rfl dc (fun w Lp hA => ⟨hA.ro hs, hA.ro hfacts⟩)) (fun _ _ => (Ent.b (fun q17 => ?_) (fun q17 => ?_)))))))
  ·refine Ey rfl ((Y.not (b := true) rfl).yd) (Ey rfl ((Y.pkf rfl rfl).yd) (Eu (E.cf rfl (E.skipc (Et (Eq_ (D.region (fun j => true) mixed (Dyp 0 rfl (Y.mv rfl) (Dyp 1 rfl (Y.fld fo_Access_0 f8 dc rfl) (Dy 2 rfl (Y.ld1 f8 rfl ((Has.pt m0).sub (cs' := [_]) 0 rfl) rfl) ?_))))))))))
   obtain ⟨eb24, eo24, ec24, ea24, er24, el24, eh24⟩ := hl.elem l4.toNat om
   obtain ⟨xa24_0, xc24_0, rfl, ei24_0, xh24_0, ei24_2, ei24_3, ei24_4⟩ := Ro.pMethod er24
   have := xh24_0.slen.2
   refine Dyp 3 rfl (Y.ix us_Methods ty_Method rfl ea24 rfl l4.toNat om om) (Dy 4 rfl (Y.ldS (cs := [_, _, _, _, _]) ty_Method rfl (eh24 _) rfl) (Dyp 5 rfl (Y.fld fo_Access_1 ty_Is dc rfl) (Dy 6 rfl (Y.ld1 ty_Is rfl ((Has.pt m0).sub (cs' := [_]) 1 rfl) rfl) (Dyp 7 rfl (Y.mv rfl) (D.st 8 rfl rfl kr (fun _ => rfl) (N.call (a5Z (by have zc := (V2 hoa).2.2.1; rw [M5 (V2 hoa).2.1.2] at zc; exact Nat.le_of_eq zc.symm) (by have zc := b2i hoa hof; rw [M5 (V2 hoa).2.1.2] at zc; exact zc) (Nat.le_trans (J1 hof).1 dc) (fun f hf => Nat.le_trans (U4 ((J1 hof).2 f hf)) dc)) rfl rfl rfl dc rfl (fun w Lp hA => ⟨ei24_0, hA.ro xh24_0, ei24_2, ei24_3, ei24_4, hA.ro v8, hA.ro hfacts⟩)) (fun k29 _ => ?_))))))
   obtain ⟨a29, m29, c29⟩ := k29
   refine Ent.lenow m0 fun e29 l29 => ?_
   subst e29
   refine Dyp 9 rfl (Y.as rfl) (D.done kr (Et (E.ret (Ent.cv (congrArg (ow o2 [_]) (show _ = j6 l d8 (l4, o0) by rw [j6, M5 (V2 hoa).2.1.2])) ?_))))
   exact Fg rfl rfl (_, _, _) rfl rfl
  ·refine Ey rfl ((Y.not (b := false) rfl).yd) (Ey rfl ((Y.pkf rfl rfl).yd) (Eu (E.ct rfl (Ew Z2 (Est rfl (N.bsl (pvs := []) (cs := []) us_Facts ty_Fact rfl dc dc (o6 rfl rfl) rfl dc) (fun b20 _ => (Ent.drop (Eas rfl rfl (Eu (E.ret (E.thr (Ent.mkow (A := []) (Own.nil (E := B8) (e := tFact) (a := (some ⟨b20, 0, none⟩))) rfl (Ent.cv (congrArg (ow o2 [_]) (show _ = j6 l d8 (l4, o0) by rw [hof] at q17; cases q17)) ?_)))))))))))))
   exact Fg rfl rfl ((some ⟨b20, 0, none⟩), 0, 0) rfl rfl
 ·refine Ey rfl ((Y.not (b := false) rfl).yd) (Emv rfl rfl (Es rfl (Es rfl (Es rfl (Es rfl (Ey rfl ((Y.pkt rfl rfl).yd) (Eu (E.ct rfl (Ew Z2 (Est rfl (N.bsl (pvs := []) (cs := []) us_Facts ty_Fact rfl dc dc (o6 rfl rfl) rfl dc) (fun b20 _ => (Ent.drop (Eas rfl rfl (Eu (E.ret (E.thr (Ent.mkow (A := []) (Own.nil (E := B8) (e := tFact) (a := (some ⟨b20, 0, none⟩))) rfl (Ent.cv (congrArg (ow o2 [_]) (show _ = j6 l d8 (l4, o0) by rw [hoa] at q12; cases q12)) ?_))))))))))))))))))
  exact Fg rfl rfl ((some ⟨b20, 0, none⟩), 0, 0) rfl rfl
theorem a6d {choice : Int} (hoa : K8 s l (l4, o0) = true) (hof : B7 s d8 = true) : Tr Tryz.prog 85 [.slice a_s m_s c_s, .slice a_l m_l c_l, .slice a_facts m_facts c_facts, .agg #[.int .i64 l4, .slice s5 s8 s4], .int .i64 choice] (fun w L => Ro w L eIs [.slice a_s m_s c_s] s ∧ Ro w L x9 [.slice a_l m_l c_l] l ∧ Ro w L o2 [.slice a_facts m_facts c_facts] d8 ∧ I64 l4 ∧ Ro w L eIs [.slice s5 s8 s4] o0) [] (κ := Option Addr × Nat × Nat) (fun k => True) (fun k => .slice k.1 k.2.1 k.2.2) (fun k => [ow o2 [.slice k.1 k.2.1 k.2.2] (n0 l d8 (l4, o0) choice)]) := by
 refine Tr.intro Tryz.func85 rfl (n := 72) rfl (by decide +kernel) bl (fr := [(0, .slice a_s m_s c_s), (1, .slice a_l m_l c_l), (2, .slice a_facts m_facts c_facts), (3, .agg #[.int .i64 l4, .slice s5 s8 s4]), (4, .int .i64 choice)]) rfl fun w L hR => ?_
 obtain ⟨hs, hl, hfacts, H5, v8⟩ := hR
 obtain ⟨rfl, ls⟩ := hs.slen
 obtain ⟨rfl, ll⟩ := hl.slen
 obtain ⟨rfl, lfacts⟩ := hfacts.slen
 obtain ⟨rfl, L8⟩ := v8.slen
 have zz := (V2 hoa).2.1
 have jlm : a0l l (l4, o0) = l[l4.toNat].2.2.1 := by show (atM l l4).2.2.1 = _; rw [M5 (V2 hoa).2.1.2]
 have jl0 := b4L hoa
 have jml : (j6 l d8 (l4, o0)).length ≤ 24 := Nat.le_trans a3m (J1 hof).1
 have hmF : ∀ f ∈ (j6 l d8 (l4, o0)), f.2.length ≤ 1048576 := fun f hf => Nat.le_trans (U4 ((J1 hof).2 f (List.mem_filter.1 hf).1)) dc
 refine Ew Z2 (Est rfl (N.box (cs := [_, _]) rfl dc rfl) (fun b8 _ => (Eas rfl rfl (Ev Z6 (Emv rfl rfl (Emv rfl rfl (Emv rfl rfl (Ey rfl (Y.ldS (cs := [_, _]) ty_Access rfl (Has.pt m0) rfl) (Est rfl (N.call (a6w fo fo) rfl rfl rfl dc rfl (fun w Lp hA => ⟨hA.ro hs, hA.ro hl, hA.ro hfacts, H5, hA.ro v8⟩)) (fun k19 _ => ?_))))))))))
 obtain ⟨a19, m19, c19⟩ := k19
 refine Ent.lenow m0 fun e19 l19 => ?_
 subst e19
 refine Eas rfl rfl ?_
 have jeq : ((a19, (j6 l d8 (l4, o0)).length, c19) : Option Addr × Nat × Nat).2.1 = (j6 l d8 (l4, o0)).length := rfl
 refine Eu (Eq_ (Ew Z23 (Emv rfl rfl (Ey rfl ((Y.len us_Facts rfl).yd) (Ey rfl ((Y.eql rfl rfl).yd) (Ent.d (fun q22 => ?_) (fun q22 => ?_)))))))
 ·refine Emv rfl rfl (Es rfl (Es rfl (Es rfl (Es rfl (Es rfl (Es rfl (Es rfl (Ey rfl ((Y.pkt rfl rfl).yd) (Emv rfl rfl (Es rfl (Es rfl (Es rfl (Es rfl (Es rfl (Es rfl (Es rfl (Es rfl (Es rfl (Ey rfl ((Y.pkt rfl rfl).yd) (Eu (E.ct rfl (Ew Z2 (Emv rfl rfl (Eas rfl rfl (Eu (E.ret (E.thr (Ent.cv (congrArg (ow o2 [_]) (show _ = n0 l d8 (l4, o0) choice by exact a5o (.inr om))) ?_))))))))))))))))))))))))))))
  exact Fg rfl rfl (_, _, _) rfl rfl
 ·refine Emv rfl rfl (Emv rfl rfl (Ey rfl ((Y.fld fo_Access_0 f8 dc rfl).yd) (Ey rfl (Y.ld1 f8 rfl ((Has.pt (mS m0)).sub (cs' := [_]) 0 rfl) rfl) ?_)))
  obtain ⟨eb27, eo27, ec27, ea27, er27, el27, eh27⟩ := hl.elem l4.toNat om
  obtain ⟨xa27_0, xc27_0, rfl, ei27_0, xh27_0, ei27_2, ei27_3, ei27_4⟩ := Ro.pMethod er27
  have := xh27_0.slen.2
  refine Ey rfl ((Y.ix us_Methods ty_Method rfl ea27 rfl l4.toNat om om).yd) (Ey rfl ((Y.fld fo_Method_2 f8 dc rfl).yd) (Ey rfl (Y.ld1 f8 rfl ((eh27 _).sub (cs' := [_]) 2 rfl) rfl) (Ey rfl ((Y.eql rfl rfl).yd) (Ent.d (fun q30 => ?_) (fun q30 => ?_)))))
  ·refine Ey rfl ((Y.pkf rfl rfl).yd) (Emv rfl rfl (Es rfl (Es rfl (Es rfl (Es rfl (Es rfl (Es rfl (Es rfl (Es rfl (Es rfl (Ey rfl ((Y.pkt rfl rfl).yd) (Eu (E.ct rfl (Ew Z2 (Emv rfl rfl (Eas rfl rfl (Eu (E.ret (E.thr (Ent.cv (congrArg (ow o2 [_]) (show _ = n0 l d8 (l4, o0) choice by exact a5o (.inl om))) ?_))))))))))))))))))))
   exact Fg rfl rfl (_, _, _) rfl rfl
  ·refine Ey rfl ((Y.pkf rfl rfl).yd) (Emv rfl rfl (Emv rfl rfl (Ey rfl ((Y.len us_Facts rfl).yd) (Emv rfl rfl (Ey rfl ((Y.fld fo_Access_0 f8 dc rfl).yd) (Ey rfl (Y.ld1 f8 rfl ((Has.pt (mS m0)).sub (cs' := [_]) 0 rfl) rfl) (Ey rfl ((Y.ix us_Methods ty_Method rfl ea27 rfl l4.toNat om om).yd) (Ey rfl ((Y.fld fo_Method_2 f8 dc rfl).yd) (Ey rfl (Y.ld1 f8 rfl ((eh27 _).sub (cs' := [_]) 2 rfl) rfl) (Ey rfl ((Y.leq rfl rfl).yd) (Ent.d (fun q41 => ?_) (fun q41 => ?_))))))))))))
   ·refine Ey rfl ((Y.pkf rfl rfl).yd) (Eu (E.ct rfl (Ew Z2 (Emv rfl rfl (Eas rfl rfl (Eu (E.ret (E.thr (Ent.cv (congrArg (ow o2 [_]) (show _ = n0 l d8 (l4, o0) choice by exact a5o (.inr om))) ?_)))))))))
    exact Fg rfl rfl (_, _, _) rfl rfl
   ·refine Ey rfl ((Y.pkf rfl rfl).yd) (Eu (E.cf rfl (E.skipc (Et (Ew Z2 (Est rfl (N.bsl (pvs := []) (cs := []) us_Facts ty_Fact rfl dc dc (o6 rfl rfl) rfl dc) (fun b44 _ => (Ent.drop (Eas rfl rfl (Ev Z6 (Emv rfl rfl (Ey rfl ((Y.mx2 rfl rfl).yd) (Emv rfl rfl (Ey rfl ((Y.len us_Facts rfl).yd) (Ey rfl ((Y.remV rfl rfl om om).yd) (Eas rfl rfl (Eu (Eq_ (Ew Z1 (Eas rfl rfl (Eu (E.block (Ent.mkow (A := []) (Own.nil (E := B8) (e := tFact) (a := (some ⟨b44, 0, none⟩))) rfl (Ent.cv (congrArg (ow o2 [_]) (show [] = a1e (j6 l d8 (l4, o0)) (max choice 0 % ((j6 l d8 (l4, o0)).length : Int)) 0 from by rfl)) (E.loop (κ := Nat × Option Addr × Nat × Nat) (fun g => g.1 ≤ (a0l l (l4, o0)).toNat ∧ True) (fun g => [(1, .slice a_l l.length c_l), (8, .pointer (some ⟨b8, 0, none⟩)), (11, .slice a19 (j6 l d8 (l4, o0)).length c19), (12, .slice g.2.1 g.2.2.1 g.2.2.2), (13, .int .i64 ((max choice 0) % (↑((j6 l d8 (l4, o0)).length) : Int))), (14, .int .i64 (↑g.1 : Int))]) (fun g => [ow o2 [.slice g.2.1 g.2.2.1 g.2.2.2] (a1e (j6 l d8 (l4, o0)) (max choice 0 % ((j6 l d8 (l4, o0)).length : Int)) g.1), ow o2 [.slice a19 (j6 l d8 (l4, o0)).length c19] (j6 l d8 (l4, o0)), pt b8 133 [.int .i64 l4, .slice s5 o0.length s4]]) (fun g => (a0l l (l4, o0)).toNat - g.1) (0, (some ⟨b44, 0, none⟩), 0, 0) ⟨Nat.zero_le _, by simp⟩ ⟨rfl, rfl, rfl, rfl, rfl, rfl, trivial⟩ (.refl _) (fun g pg => ?_))))))))))))))))))))))))))
    obtain ⟨g, aA0_0, mA0_0, cA0_0⟩ := g
    try dsimp only at pg
    try dsimp only
    obtain ⟨pk, pa⟩ := pg
    have jk1 := Int.emod_nonneg (max choice 0) (show ((j6 l d8 (l4, o0)).length : Int) ≠ 0 by omega)
    have jk2 := Int.emod_lt_of_pos (max choice 0) (show 0 < ((j6 l d8 (l4, o0)).length : Int) by omega)
    have jcs := b3b (x := (j6 l d8 (l4, o0))) (k := (max choice 0 % ((j6 l d8 (l4, o0)).length : Int))) (g := g)
    refine Ent.lenow m0 fun eaA0_0 laA0_0 => ?_
    subst eaA0_0
    refine Eq_ (Ew Z8 (Emv rfl rfl (Emv rfl rfl (Ey rfl ((Y.fld fo_Access_0 f8 dc rfl).yd) (Ey rfl (Y.ld1 f8 rfl ((Has.pt (mS (mS m0))).sub (cs' := [_]) 0 rfl) rfl) (Ey rfl ((Y.ix us_Methods ty_Method rfl ea27 rfl l4.toNat om om).yd) (Ey rfl ((Y.fld fo_Method_2 f8 dc rfl).yd) (Ey rfl (Y.ld1 f8 rfl ((eh27 _).sub (cs' := [_]) 2 rfl) rfl) (Ey rfl ((Y.lss rfl rfl).yd) (Ent.d (fun q57 => ?_) (fun q57 => ?_)))))))))))
    ·refine Eu (E.ct rfl (E.skipc (Et (Eq_ (E.block (Ez Z12 (Emv rfl rfl (Emv rfl rfl (Emv rfl rfl (Emv rfl rfl (Ey rfl ((Y.add rfl rfl om om).yd) (Emv rfl rfl (Ey rfl ((Y.len us_Facts rfl).yd) (Ey rfl ((Y.remV rfl rfl om om).yd) ?_))))))))))))))
     have jix := a9Q (x := (j6 l d8 (l4, o0))) (k := (max choice 0 % ((j6 l d8 (l4, o0)).length : Int))) (g := g) jk1 om
     refine Ent.adr (mS m0) om fun ab68 ae68 => (Ent.p1 (Ent.open (x := (j6 l d8 (l4, o0))[((((max choice 0) % (↑((j6 l d8 (l4, o0)).length) : Int)) + (g : Int)) % (↑((j6 l d8 (l4, o0)).length) : Int)).toNat]) (((((max choice 0) % (↑((j6 l d8 (l4, o0)).length) : Int)) + (g : Int)) % (↑((j6 l d8 (l4, o0)).length) : Int)).toNat) (List.getElem?_eq_getElem om) fun ce68 => ?_))
     refine Ent.p1 (Ent.oFact fun oa68_1 om68_1 oc68_1 oe68 oi68_0 on68_1 => ?_)
     subst oe68
     subst on68_1
     refine Ey rfl ((Y.ix us_Facts ty_Fact rfl ae68 rfl (((((max choice 0) % (↑((j6 l d8 (l4, o0)).length) : Int)) + (g : Int)) % (↑((j6 l d8 (l4, o0)).length) : Int)).toNat) om om).yd) (Ey rfl (Y.ldS (cs := [_, _]) ty_Fact rfl (Has.hole ae68 (mS m0)) rfl) (Est rfl (N.call (a1N om (fun f hf => hmF f (b2Y jk1 om hf)) (hmF _ (List.getElem_mem _))) rfl rfl rfl dc rfl (fun w Lp hA => ⟨hA.ow (mS (mS m0)), oi68_0, hA.ow m0⟩)) (fun k70 _ => ?_)))
     obtain ⟨a70, m70, c70⟩ := k70
     refine Ent.lenow m0 fun e70 l70 => ?_
     subst e70
     refine Eas rfl rfl (En (E.bln (Et (Ez Z3 (Emv rfl rfl (Ey rfl ((Y.add rfl rfl om om).yd) (Eas rfl rfl (Eu (Ent.p1 (Ent.p2 (Ent.shut (Own.mkFact (x := (j6 l d8 (l4, o0))[((((max choice 0) % (↑((j6 l d8 (l4, o0)).length) : Int)) + (g : Int)) % (↑((j6 l d8 (l4, o0)).length) : Int)).toNat]) oi68_0 Own.ow) rfl (Ent.cv (congrArg (ow o2 [_]) (List.set_getElem_self om)) (Ent.p2 (Ent.drop (Ent.p1 (Ent.cv (congrArg (ow o2 [_]) (show x6 (a1e (j6 l d8 (l4, o0)) (max choice 0 % ((j6 l d8 (l4, o0)).length : Int)) g) (((j6 l d8 (l4, o0))[((((max choice 0) % (↑((j6 l d8 (l4, o0)).length) : Int)) + (g : Int)) % (↑((j6 l d8 (l4, o0)).length) : Int)).toNat].1), ((j6 l d8 (l4, o0))[((((max choice 0) % (↑((j6 l d8 (l4, o0)).length) : Int)) + (g : Int)) % (↑((j6 l d8 (l4, o0)).length) : Int)).toNat].2)) = a1e (j6 l d8 (l4, o0)) (max choice 0 % ((j6 l d8 (l4, o0)).length : Int)) (g + 1) from by exact b2Q om rfl)) (Ent.p2 (Ent.p2 (Ent.p2 ?_)))))))))))))))))))
     exact Ea (g + 1, a70, (x6 (a1e (j6 l d8 (l4, o0)) (max choice 0 % ((j6 l d8 (l4, o0)).length : Int)) g) (((j6 l d8 (l4, o0))[((((max choice 0) % (↑((j6 l d8 (l4, o0)).length) : Int)) + (g : Int)) % (↑((j6 l d8 (l4, o0)).length) : Int)).toNat].1), ((j6 l d8 (l4, o0))[((((max choice 0) % (↑((j6 l d8 (l4, o0)).length) : Int)) + (g : Int)) % (↑((j6 l d8 (l4, o0)).length) : Int)).toNat].2))).length, c70) ⟨oz, trivial⟩
    ·refine Eu (E.cf rfl (E.exit (E.the (E.the (E.blh (Et (Ew Z2 (Emv rfl rfl (Eas rfl rfl (Eu (E.ret (Ent.cv (congrArg (ow o2 [_]) (show _ = n0 l d8 (l4, o0) choice by exact b3m (a7k hof) om om om om)) ?_))))))))))))
     exact Fg rfl rfl (_, _, _) rfl rfl
end Go.Proofs.YtdopeopehgdccaaGreat
