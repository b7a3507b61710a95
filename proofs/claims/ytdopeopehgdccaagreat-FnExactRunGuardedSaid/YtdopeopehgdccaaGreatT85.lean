import Derived.Test.YtdopeopehgdccaaGreatT37
import Derived.Test.YtdopeopehgdccaaGreatT84
namespace Go.Proofs.YtdopeopehgdccaaGreat
open Go.RowKit
set_option linter.all false
set_option maxHeartbeats 2000000
attribute [local irreducible] Nop Yd Yp Ent Has Tr FnP FnP2 Src R6 a0d a0I a1c H6
variable {o4 : Int} {l : List (Int × List Int × Int × Int × Int)} {d8 : List (Int × List Int)} {s r6 : List Int} {m_s c_s m_l c_l m_facts c_facts y4 w8 : Nat} {a_s a_l a_facts w9 : Option Addr}
theorem a8F (hoa : Q0 s l (o4, r6) = true) (hof : F2 s d8 = true) : Tr Tryz.prog 172 [.slice a_s m_s c_s, .slice a_l m_l c_l, .slice a_facts m_facts c_facts, .agg #[.int .i64 o4, .slice w9 y4 w8]] (fun w L => Ro w L eIs [.slice a_s m_s c_s] s ∧ Ro w L E6 [.slice a_l m_l c_l] l ∧ Ro w L s8 [.slice a_facts m_facts c_facts] d8 ∧ I64 o4 ∧ Ro w L eIs [.slice w9 y4 w8] r6) [] (κ := Option Addr × Nat × Nat) (fun k => True) (fun k => .slice k.1 k.2.1 k.2.2) (fun k => [ow s8 [.slice k.1 k.2.1 k.2.2] (l2 l d8 (o4, r6))]) := by
 refine n9 Tryz.func172 rfl (n := 30) rfl (by decide +kernel) bl (fr := [(0, .slice a_s m_s c_s), (1, .slice a_l m_l c_l), (2, .slice a_facts m_facts c_facts), (3, .agg #[.int .i64 o4, .slice w9 y4 w8])]) rfl fun w L hR => ?_
 obtain ⟨hs, hl, hfacts, O0, B6⟩ := hR
 obtain ⟨rfl, ls⟩ := hs.slen
 obtain ⟨rfl, ll⟩ := hl.slen
 obtain ⟨rfl, lfacts⟩ := hfacts.slen
 obtain ⟨rfl, R9⟩ := B6.slen
 refine Ew Z2 (Est rfl (N.box (cs := [_, _]) rfl dc rfl) (fun b7 _ => (Ei rfl (Eu (Eq_ (Ew Z11 (Em rfl (Em rfl (Ey rfl (o9 (cs := [_, _]) ty_Access rfl (Has.pt m0) rfl) (Est rfl (n0 a9V rfl rfl rfl dc (fun w Lp hA => ⟨hA.ro hs, hA.ro hl, O0, hA.ro B6⟩)) (fun _ _ => (Ent.b (fun q12 => ?_) (fun q12 => ?_)))))))))))))
 ·have zz := (R0 hoa).2.1
  refine Ey rfl ((Y.not (b := true) rfl).yd) (Em rfl (Em rfl (Em rfl (Est rfl (n0 a3w rfl rfl rfl dc (fun w Lp hA => ⟨hA.ro hs, hA.ro hfacts⟩)) (fun _ _ => (Ent.b (fun q17 => ?_) (fun q17 => ?_)))))))
  ·refine Ey rfl ((Y.not (b := true) rfl).yd) (Ey rfl ((u0 rfl rfl).yd) (Eu (o3 rfl (j5 (Et (Eq_ (D.region (fun j => true) mixed (Dyp 0 rfl (l3 rfl) (Dyp 1 rfl (j7 fo_Access_0 i8 dc rfl) (Dy 2 rfl (g9 i8 rfl (Hz m0 0 rfl) rfl) ?_))))))))))
   obtain ⟨eb24, eo24, ec24, ea24, er24, el24, eh24⟩ := hl.elem o4.toNat om
   obtain ⟨xa24_0, xc24_0, rfl, ei24_0, xh24_0, ei24_2, ei24_3, ei24_4⟩ := J5 er24
   have := xh24_0.slen.2
   refine Dyp 3 rfl (r7 us_Methods ty_Method rfl ea24 rfl o4.toNat om om) (Dy 4 rfl (o9 (cs := [_, _, _, _, _]) ty_Method rfl (eh24 _) rfl) (Dyp 5 rfl (j7 fo_Access_1 ty_Is dc rfl) (Dy 6 rfl (g9 ty_Is rfl (Hz m0 1 rfl) rfl) (Dyp 7 rfl (l3 rfl) (t8 8 rfl rfl kr (fun _ => rfl) (N.call (a2T (by have zc := (R0 hoa).2.2.1; rw [P3 (R0 hoa).2.1.2] at zc; exact Nat.le_of_eq zc.symm) (by have zc := a7c hoa hof; rw [P3 (R0 hoa).2.1.2] at zc; exact zc) (Nat.le_trans (I3 hof).1 dc) (fun f hf => Nat.le_trans (U2 ((I3 hof).2 f hf)) dc)) rfl rfl rfl dc rfl (fun w Lp hA => ⟨ei24_0, hA.ro xh24_0, ei24_2, ei24_3, ei24_4, hA.ro B6, hA.ro hfacts⟩)) (fun k29 _ => ?_))))))
   obtain ⟨a29, m29, c29⟩ := k29
   refine i9 m0 fun e29 l29 => ?_
   subst e29
   refine Dyp 9 rfl (F7 rfl) (r8 kr (Et (E.ret (j6 (congrArg (ow s8 [_]) (show _ = l2 l d8 (o4, r6) by rw [l2, P3 (R0 hoa).2.1.2])) ?_))))
   exact Fg rfl rfl (_, _, _) rfl rfl
  ·refine Ey rfl ((Y.not (b := false) rfl).yd) (Ey rfl ((u0 rfl rfl).yd) (Eu (o2 rfl (Ew Z2 (Est rfl (Nb [] [] us_Facts ty_Fact rfl rfl) (fun b20 _ => (Ent.drop (Ei rfl (Eu (E.ret (l4 (s3 (A := []) (Own.nil (E := H7) (e := tFact) (a := (some ⟨b20, 0, none⟩))) rfl (j6 (congrArg (ow s8 [_]) (show _ = l2 l d8 (o4, r6) by rw [hof] at q17; cases q17)) ?_)))))))))))))
   exact Fg rfl rfl ((some ⟨b20, 0, none⟩), 0, 0) rfl rfl
 ·refine Ey rfl ((Y.not (b := false) rfl).yd) (Em rfl (Es rfl (Es rfl (Es rfl (Es rfl (Ey rfl ((u7 rfl rfl).yd) (Eu (o2 rfl (Ew Z2 (Est rfl (Nb [] [] us_Facts ty_Fact rfl rfl) (fun b20 _ => (Ent.drop (Ei rfl (Eu (E.ret (l4 (s3 (A := []) (Own.nil (E := H7) (e := tFact) (a := (some ⟨b20, 0, none⟩))) rfl (j6 (congrArg (ow s8 [_]) (show _ = l2 l d8 (o4, r6) by rw [hoa] at q12; cases q12)) ?_))))))))))))))))))
  exact Fg rfl rfl ((some ⟨b20, 0, none⟩), 0, 0) rfl rfl
theorem a8H {choice : Int} (hoa : Q0 s l (o4, r6) = true) (hof : F2 s d8 = true) : Tr Tryz.prog 85 [.slice a_s m_s c_s, .slice a_l m_l c_l, .slice a_facts m_facts c_facts, .agg #[.int .i64 o4, .slice w9 y4 w8], .int .i64 choice] (fun w L => Ro w L eIs [.slice a_s m_s c_s] s ∧ Ro w L E6 [.slice a_l m_l c_l] l ∧ Ro w L s8 [.slice a_facts m_facts c_facts] d8 ∧ I64 o4 ∧ Ro w L eIs [.slice w9 y4 w8] r6) [] (κ := Option Addr × Nat × Nat) (fun k => True) (fun k => .slice k.1 k.2.1 k.2.2) (fun k => [ow s8 [.slice k.1 k.2.1 k.2.2] (o7 l d8 (o4, r6) choice)]) := by
 refine n9 Tryz.func85 rfl (n := 72) rfl (by decide +kernel) bl (fr := [(0, .slice a_s m_s c_s), (1, .slice a_l m_l c_l), (2, .slice a_facts m_facts c_facts), (3, .agg #[.int .i64 o4, .slice w9 y4 w8]), (4, .int .i64 choice)]) rfl fun w L hR => ?_
 obtain ⟨hs, hl, hfacts, O0, B6⟩ := hR
 obtain ⟨rfl, ls⟩ := hs.slen
 obtain ⟨rfl, ll⟩ := hl.slen
 obtain ⟨rfl, lfacts⟩ := hfacts.slen
 obtain ⟨rfl, R9⟩ := B6.slen
 have zz := (R0 hoa).2.1
 have jlm : a2J l (o4, r6) = l[o4.toNat].2.2.1 := by show (atM l o4).2.2.1 = _; rw [P3 (R0 hoa).2.1.2]
 have jl0 := b7M hoa
 have jml : (l2 l d8 (o4, r6)).length ≤ 24 := Nat.le_trans a5y (I3 hof).1
 have hmF : ∀ f ∈ (l2 l d8 (o4, r6)), f.2.length ≤ 1048576 := fun f hf => Nat.le_trans (U2 ((I3 hof).2 f (List.mem_filter.1 hf).1)) dc
 refine Ew Z2 (Est rfl (N.box (cs := [_, _]) rfl dc rfl) (fun b8 _ => (Ei rfl (Ev Z6 (Em rfl (Em rfl (Em rfl (Ey rfl (o9 (cs := [_, _]) ty_Access rfl (Has.pt m0) rfl) (Est rfl (N.call (a8F fo fo) rfl rfl rfl dc rfl (fun w Lp hA => ⟨hA.ro hs, hA.ro hl, hA.ro hfacts, O0, hA.ro B6⟩)) (fun k19 _ => ?_))))))))))
 obtain ⟨a19, m19, c19⟩ := k19
 refine i9 m0 fun e19 l19 => ?_
 subst e19
 refine Ei rfl ?_
 have jeq : ((a19, (l2 l d8 (o4, r6)).length, c19) : Option Addr × Nat × Nat).2.1 = (l2 l d8 (o4, r6)).length := rfl
 refine Eu (Eq_ (Ew Z23 (Em rfl (Ey rfl ((Y.len us_Facts rfl).yd) (Ey rfl ((Y.eql rfl rfl).yd) (o6 (fun q22 => ?_) (fun q22 => ?_)))))))
 ·refine Em rfl (Es rfl (Es rfl (Es rfl (Es rfl (Es rfl (Es rfl (Es rfl (Ey rfl ((u7 rfl rfl).yd) (Em rfl (Es rfl (Es rfl (Es rfl (Es rfl (Es rfl (Es rfl (Es rfl (Es rfl (Es rfl (Ey rfl ((u7 rfl rfl).yd) (Eu (o2 rfl (Ew Z2 (Em rfl (Ei rfl (Eu (E.ret (l4 (j6 (congrArg (ow s8 [_]) (show _ = o7 l d8 (o4, r6) choice by exact a7M (.inr om))) ?_))))))))))))))))))))))))))))
  exact Fg rfl rfl (_, _, _) rfl rfl
 ·refine Em rfl (Em rfl (Ey rfl ((j7 fo_Access_0 i8 dc rfl).yd) (Ey rfl (g9 i8 rfl (Hz (mS m0) 0 rfl) rfl) ?_)))
  obtain ⟨eb27, eo27, ec27, ea27, er27, el27, eh27⟩ := hl.elem o4.toNat om
  obtain ⟨xa27_0, xc27_0, rfl, ei27_0, xh27_0, ei27_2, ei27_3, ei27_4⟩ := J5 er27
  have := xh27_0.slen.2
  refine Ey rfl ((r7 us_Methods ty_Method rfl ea27 rfl o4.toNat om om).yd) (Ey rfl ((j7 fo_Method_2 i8 dc rfl).yd) (Ey rfl (g9 i8 rfl ((eh27 _).sub (cs' := [_]) 2 rfl) rfl) (Ey rfl ((Y.eql rfl rfl).yd) (o6 (fun q30 => ?_) (fun q30 => ?_)))))
  ·refine Ey rfl ((u0 rfl rfl).yd) (Em rfl (Es rfl (Es rfl (Es rfl (Es rfl (Es rfl (Es rfl (Es rfl (Es rfl (Es rfl (Ey rfl ((u7 rfl rfl).yd) (Eu (o2 rfl (Ew Z2 (Em rfl (Ei rfl (Eu (E.ret (l4 (j6 (congrArg (ow s8 [_]) (show _ = o7 l d8 (o4, r6) choice by exact a7M (.inl om))) ?_))))))))))))))))))))
   exact Fg rfl rfl (_, _, _) rfl rfl
  ·refine Ey rfl ((u0 rfl rfl).yd) (Em rfl (Em rfl (Ey rfl ((Y.len us_Facts rfl).yd) (Em rfl (Ey rfl ((j7 fo_Access_0 i8 dc rfl).yd) (Ey rfl (g9 i8 rfl (Hz (mS m0) 0 rfl) rfl) (Ey rfl ((r7 us_Methods ty_Method rfl ea27 rfl o4.toNat om om).yd) (Ey rfl ((j7 fo_Method_2 i8 dc rfl).yd) (Ey rfl (g9 i8 rfl ((eh27 _).sub (cs' := [_]) 2 rfl) rfl) (Ey rfl ((Y.leq rfl rfl).yd) (o6 (fun q41 => ?_) (fun q41 => ?_))))))))))))
   ·refine Ey rfl ((u0 rfl rfl).yd) (Eu (o2 rfl (Ew Z2 (Em rfl (Ei rfl (Eu (E.ret (l4 (j6 (congrArg (ow s8 [_]) (show _ = o7 l d8 (o4, r6) choice by exact a7M (.inr om))) ?_)))))))))
    exact Fg rfl rfl (_, _, _) rfl rfl
   ·refine Ey rfl ((u0 rfl rfl).yd) (Eu (o3 rfl (j5 (Et (Ew Z2 (Est rfl (Nb [] [] us_Facts ty_Fact rfl rfl) (fun b44 _ => (Ent.drop (Ei rfl (Ev Z6 (Em rfl (Ey rfl ((b9N rfl rfl).yd) (Em rfl (Ey rfl ((Y.len us_Facts rfl).yd) (Ey rfl ((b5Q rfl rfl om om).yd) (Ei rfl (Eu (Eq_ (Ew Z1 (Ei rfl (Eu (E.block (s3 (A := []) (Own.nil (E := H7) (e := tFact) (a := (some ⟨b44, 0, none⟩))) rfl (j6 (congrArg (ow s8 [_]) (show [] = a2Y (l2 l d8 (o4, r6)) (max choice 0 % ((l2 l d8 (o4, r6)).length : Int)) 0 from by rfl)) (E.loop (κ := Nat × Option Addr × Nat × Nat) (fun g => g.1 ≤ (a2J l (o4, r6)).toNat ∧ True) (fun g => [(1, .slice a_l l.length c_l), (8, .pointer (some ⟨b8, 0, none⟩)), (11, .slice a19 (l2 l d8 (o4, r6)).length c19), (12, .slice g.2.1 g.2.2.1 g.2.2.2), (13, .int .i64 ((max choice 0) % (↑((l2 l d8 (o4, r6)).length) : Int))), (14, .int .i64 (↑g.1 : Int))]) (fun g => [ow s8 [.slice g.2.1 g.2.2.1 g.2.2.2] (a2Y (l2 l d8 (o4, r6)) (max choice 0 % ((l2 l d8 (o4, r6)).length : Int)) g.1), ow s8 [.slice a19 (l2 l d8 (o4, r6)).length c19] (l2 l d8 (o4, r6)), pt b8 133 [.int .i64 o4, .slice w9 r6.length w8]]) (fun g => (a2J l (o4, r6)).toNat - g.1) (0, (some ⟨b44, 0, none⟩), 0, 0) ⟨Nat.zero_le _, by simp⟩ ⟨rfl, rfl, rfl, rfl, rfl, rfl, trivial⟩ (.refl _) (fun g pg => ?_))))))))))))))))))))))))))
    obtain ⟨g, aA0_0, mA0_0, cA0_0⟩ := g
    try dsimp only at pg
    try dsimp only
    obtain ⟨pk, pa⟩ := pg
    have jk1 := Int.emod_nonneg (max choice 0) (show ((l2 l d8 (o4, r6)).length : Int) ≠ 0 by omega)
    have jk2 := Int.emod_lt_of_pos (max choice 0) (show 0 < ((l2 l d8 (o4, r6)).length : Int) by omega)
    have jcs := b6a (x := (l2 l d8 (o4, r6))) (k := (max choice 0 % ((l2 l d8 (o4, r6)).length : Int))) (g := g)
    refine i9 m0 fun eaA0_0 laA0_0 => ?_
    subst eaA0_0
    refine Eq_ (Ew Z8 (Em rfl (Em rfl (Ey rfl ((j7 fo_Access_0 i8 dc rfl).yd) (Ey rfl (g9 i8 rfl (Hz (mS (mS m0)) 0 rfl) rfl) (Ey rfl ((r7 us_Methods ty_Method rfl ea27 rfl o4.toNat om om).yd) (Ey rfl ((j7 fo_Method_2 i8 dc rfl).yd) (Ey rfl (g9 i8 rfl ((eh27 _).sub (cs' := [_]) 2 rfl) rfl) (Ey rfl ((Y.lss rfl rfl).yd) (o6 (fun q57 => ?_) (fun q57 => ?_)))))))))))
    ·refine Eu (o2 rfl (j5 (Et (Eq_ (E.block (Ez Z12 (Em rfl (Em rfl (Em rfl (Em rfl (Ey rfl ((Y.add rfl rfl om om).yd) (Em rfl (Ey rfl ((Y.len us_Facts rfl).yd) (Ey rfl ((b5Q rfl rfl om om).yd) ?_))))))))))))))
     have jix := b2J (x := (l2 l d8 (o4, r6))) (k := (max choice 0 % ((l2 l d8 (o4, r6)).length : Int))) (g := g) jk1 om
     refine a0j (mS m0) om fun ab68 ae68 => (i7 (a2e (x := (l2 l d8 (o4, r6))[((((max choice 0) % (↑((l2 l d8 (o4, r6)).length) : Int)) + (g : Int)) % (↑((l2 l d8 (o4, r6)).length) : Int)).toNat]) (((((max choice 0) % (↑((l2 l d8 (o4, r6)).length) : Int)) + (g : Int)) % (↑((l2 l d8 (o4, r6)).length) : Int)).toNat) (List.getElem?_eq_getElem om) fun ce68 => ?_))
     refine i7 (a5q fun oa68_1 om68_1 oc68_1 oe68 oi68_0 on68_1 => ?_)
     subst oe68
     subst on68_1
     refine Ey rfl ((r7 us_Facts ty_Fact rfl ae68 rfl (((((max choice 0) % (↑((l2 l d8 (o4, r6)).length) : Int)) + (g : Int)) % (↑((l2 l d8 (o4, r6)).length) : Int)).toNat) om om).yd) (Ey rfl (o9 (cs := [_, _]) ty_Fact rfl (Has.hole ae68 (mS m0)) rfl) (Est rfl (N.call (a5N om (fun f hf => hmF f (b6f jk1 om hf)) (hmF _ (List.getElem_mem _))) rfl rfl rfl dc rfl (fun w Lp hA => ⟨hA.ow (mS (mS m0)), oi68_0, hA.ow m0⟩)) (fun k70 _ => ?_)))
     obtain ⟨a70, m70, c70⟩ := k70
     refine i9 m0 fun e70 l70 => ?_
     subst e70
     refine Ei rfl (En (t7 (Et (Ez Z3 (Em rfl (Ey rfl ((Y.add rfl rfl om om).yd) (Ei rfl (Eu (i7 (r5 (a1h (N0 (x := (l2 l d8 (o4, r6))[((((max choice 0) % (↑((l2 l d8 (o4, r6)).length) : Int)) + (g : Int)) % (↑((l2 l d8 (o4, r6)).length) : Int)).toNat]) oi68_0 Own.ow) rfl (j6 (congrArg (ow s8 [_]) (List.set_getElem_self om)) (r5 (Ent.drop (i7 (j6 (congrArg (ow s8 [_]) (show F0 (a2Y (l2 l d8 (o4, r6)) (max choice 0 % ((l2 l d8 (o4, r6)).length : Int)) g) (((l2 l d8 (o4, r6))[((((max choice 0) % (↑((l2 l d8 (o4, r6)).length) : Int)) + (g : Int)) % (↑((l2 l d8 (o4, r6)).length) : Int)).toNat].1), ((l2 l d8 (o4, r6))[((((max choice 0) % (↑((l2 l d8 (o4, r6)).length) : Int)) + (g : Int)) % (↑((l2 l d8 (o4, r6)).length) : Int)).toNat].2)) = a2Y (l2 l d8 (o4, r6)) (max choice 0 % ((l2 l d8 (o4, r6)).length : Int)) (g + 1) from by exact b5r om rfl)) (r5 (r5 (r5 ?_)))))))))))))))))))
     exact Ea (g + 1, a70, (F0 (a2Y (l2 l d8 (o4, r6)) (max choice 0 % ((l2 l d8 (o4, r6)).length : Int)) g) (((l2 l d8 (o4, r6))[((((max choice 0) % (↑((l2 l d8 (o4, r6)).length) : Int)) + (g : Int)) % (↑((l2 l d8 (o4, r6)).length) : Int)).toNat].1), ((l2 l d8 (o4, r6))[((((max choice 0) % (↑((l2 l d8 (o4, r6)).length) : Int)) + (g : Int)) % (↑((l2 l d8 (o4, r6)).length) : Int)).toNat].2))).length, c70) ⟨oz, trivial⟩
    ·refine Eu (o3 rfl (E.exit (o8 (o8 (x9 (Et (Ew Z2 (Em rfl (Ei rfl (Eu (E.ret (j6 (congrArg (ow s8 [_]) (show _ = o7 l d8 (o4, r6) choice by exact b6I (a9E hof) om om om om)) ?_))))))))))))
     exact Fg rfl rfl (_, _, _) rfl rfl
end Go.Proofs.YtdopeopehgdccaaGreat
