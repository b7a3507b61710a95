import Derived.Test.YtdopeopehgdccaaGreatT37
import Derived.Test.YtdopeopehgdccaaGreatT84
namespace Go.Proofs.YtdopeopehgdccaaGreat
open Go.RowKit
set_option linter.all false
set_option maxHeartbeats 2000000
attribute [local irreducible] Nop Yd Yp Ent Has Tr FnP FnP2 Src O8 Y2 a0b a0m G5
variable {r7 : Int} {l : List (Int × List Int × Int × Int × Int)} {d7 : List (Int × List Int)} {s s6 : List Int} {m_s c_s m_l c_l m_facts c_facts y8 x9 : Nat} {a_s a_l a_facts y4 : Option Addr}
theorem a9e (hoa : R7 s l (r7, s6) = true) (hof : F1 s d7 = true) : Tr Tryz.prog 172 [.slice a_s m_s c_s, .slice a_l m_l c_l, .slice a_facts m_facts c_facts, .agg #[.int .i64 r7, .slice y4 y8 x9]] (fun w L => Ro w L eIs [.slice a_s m_s c_s] s ∧ Ro w L E1 [.slice a_l m_l c_l] l ∧ Ro w L s9 [.slice a_facts m_facts c_facts] d7 ∧ I64 r7 ∧ Ro w L eIs [.slice y4 y8 x9] s6) [] (κ := Option Addr × Nat × Nat) (fun k => True) (fun k => .slice k.1 k.2.1 k.2.2) (fun k => [ow s9 [.slice k.1 k.2.1 k.2.2] (n9 l d7 (r7, s6))]) := by
 refine l0 Tryz.func172 rfl (n := 30) rfl (by decide +kernel) bl (fr := [(0, .slice a_s m_s c_s), (1, .slice a_l m_l c_l), (2, .slice a_facts m_facts c_facts), (3, .agg #[.int .i64 r7, .slice y4 y8 x9])]) rfl fun w L hR => ?_
 obtain ⟨hs, hl, hfacts, N8, C5⟩ := hR
 obtain ⟨rfl, ls⟩ := hs.slen
 obtain ⟨rfl, ll⟩ := hl.slen
 obtain ⟨rfl, lfacts⟩ := hfacts.slen
 obtain ⟨rfl, R9⟩ := C5.slen
 refine Ew Z2 (Est rfl (N.box (cs := [_, _]) rfl dc rfl) (fun b7 _ => (Ei rfl (Eu (Eq_ (Ew Z11 (Em rfl (Em rfl (Ey rfl (r9 (cs := [_, _]) ty_Access rfl (Has.pt m0) rfl) (Est rfl (n0 b0u rfl rfl rfl dc (fun w Lp hA => ⟨hA.ro hs, hA.ro hl, N8, hA.ro C5⟩)) (fun _ _ => (Ent.b (fun q12 => ?_) (fun q12 => ?_)))))))))))))
 ·have zz := (a0x hoa).2.1
  refine Ey rfl ((Y.not (b := true) rfl).yd) (Em rfl (Em rfl (Em rfl (Est rfl (n0 a3w rfl rfl rfl dc (fun w Lp hA => ⟨hA.ro hs, hA.ro hfacts⟩)) (fun _ _ => (Ent.b (fun q17 => ?_) (fun q17 => ?_)))))))
  ·refine Ey rfl ((Y.not (b := true) rfl).yd) (Ey rfl ((v8 rfl rfl).yd) (Eu (o4 rfl (i7 (Et (Eq_ (D.region (fun j => true) mixed (Dyp 0 rfl (o0 rfl) (Dyp 1 rfl (j6 fo_Access_0 i8 dc rfl) (Dy 2 rfl (g9 i8 rfl (Hz m0 0 rfl) rfl) ?_))))))))))
   obtain ⟨eb24, eo24, ec24, ea24, er24, el24, eh24⟩ := hl.elem r7.toNat om
   obtain ⟨xa24_0, xc24_0, rfl, ei24_0, xh24_0, ei24_2, ei24_3, ei24_4⟩ := K4 er24
   have := xh24_0.slen.2
   refine Dyp 3 rfl (s4 us_Methods ty_Method rfl ea24 rfl r7.toNat om om) (Dy 4 rfl (r9 (cs := [_, _, _, _, _]) ty_Method rfl (eh24 _) rfl) (Dyp 5 rfl (j6 fo_Access_1 ty_Is dc rfl) (Dy 6 rfl (g9 ty_Is rfl (Hz m0 1 rfl) rfl) (Dyp 7 rfl (o0 rfl) (t6 8 rfl rfl kr (fun _ => rfl) (N.call (a9b (by have zc := (a0x hoa).2.2.1; rw [S6 (a0x hoa).2.1.2] at zc; exact Nat.le_of_eq zc.symm) (by have zc := b6Y hoa hof; rw [S6 (a0x hoa).2.1.2] at zc; exact zc) (Nat.le_trans (Q3 hof).1 dc) (fun f hf => Nat.le_trans (a0s ((Q3 hof).2 f hf)) dc)) rfl rfl rfl dc rfl (fun w Lp hA => ⟨ei24_0, hA.ro xh24_0, ei24_2, ei24_3, ei24_4, hA.ro C5, hA.ro hfacts⟩)) (fun k29 _ => ?_))))))
   obtain ⟨a29, m29, c29⟩ := k29
   refine f5 m0 fun e29 l29 => ?_
   subst e29
   refine Dyp 9 rfl (F0 rfl) (s3 kr (Et (E.ret (i9 (congrArg (ow s9 [_]) (show _ = n9 l d7 (r7, s6) by rw [n9, S6 (a0x hoa).2.1.2])) ?_))))
   exact Fg rfl rfl (_, _, _) rfl rfl
  ·refine Ey rfl ((Y.not (b := false) rfl).yd) (Ey rfl ((v8 rfl rfl).yd) (Eu (o5 rfl (Ew Z2 (Est rfl (Nb [] [] us_Facts ty_Fact rfl rfl) (fun b20 _ => (Ent.drop (Ei rfl (Eu (E.ret (l4 (s7 (A := []) (Own.nil (E := F8) (e := tFact) (a := (some ⟨b20, 0, none⟩))) rfl (i9 (congrArg (ow s9 [_]) (show _ = n9 l d7 (r7, s6) by rw [hof] at q17; cases q17)) ?_)))))))))))))
   exact Fg rfl rfl ((some ⟨b20, 0, none⟩), 0, 0) rfl rfl
 ·refine Ey rfl ((Y.not (b := false) rfl).yd) (Em rfl (Es rfl (Es rfl (Es rfl (Es rfl (Ey rfl ((w5 rfl rfl).yd) (Eu (o5 rfl (Ew Z2 (Est rfl (Nb [] [] us_Facts ty_Fact rfl rfl) (fun b20 _ => (Ent.drop (Ei rfl (Eu (E.ret (l4 (s7 (A := []) (Own.nil (E := F8) (e := tFact) (a := (some ⟨b20, 0, none⟩))) rfl (i9 (congrArg (ow s9 [_]) (show _ = n9 l d7 (r7, s6) by rw [hoa] at q12; cases q12)) ?_))))))))))))))))))
  exact Fg rfl rfl ((some ⟨b20, 0, none⟩), 0, 0) rfl rfl
theorem a8U {choice : Int} (hoa : R7 s l (r7, s6) = true) (hof : F1 s d7 = true) : Tr Tryz.prog 85 [.slice a_s m_s c_s, .slice a_l m_l c_l, .slice a_facts m_facts c_facts, .agg #[.int .i64 r7, .slice y4 y8 x9], .int .i64 choice] (fun w L => Ro w L eIs [.slice a_s m_s c_s] s ∧ Ro w L E1 [.slice a_l m_l c_l] l ∧ Ro w L s9 [.slice a_facts m_facts c_facts] d7 ∧ I64 r7 ∧ Ro w L eIs [.slice y4 y8 x9] s6) [] (κ := Option Addr × Nat × Nat) (fun k => True) (fun k => .slice k.1 k.2.1 k.2.2) (fun k => [ow s9 [.slice k.1 k.2.1 k.2.2] (r8 l d7 (r7, s6) choice)]) := by
 refine l0 Tryz.func85 rfl (n := 72) rfl (by decide +kernel) bl (fr := [(0, .slice a_s m_s c_s), (1, .slice a_l m_l c_l), (2, .slice a_facts m_facts c_facts), (3, .agg #[.int .i64 r7, .slice y4 y8 x9]), (4, .int .i64 choice)]) rfl fun w L hR => ?_
 obtain ⟨hs, hl, hfacts, N8, C5⟩ := hR
 obtain ⟨rfl, ls⟩ := hs.slen
 obtain ⟨rfl, ll⟩ := hl.slen
 obtain ⟨rfl, lfacts⟩ := hfacts.slen
 obtain ⟨rfl, R9⟩ := C5.slen
 have zz := (a0x hoa).2.1
 have jlm : a1V l (r7, s6) = l[r7.toNat].2.2.1 := by show (atM l r7).2.2.1 = _; rw [S6 (a0x hoa).2.1.2]
 have jl0 := b9t hoa
 have jml : (n9 l d7 (r7, s6)).length ≤ 24 := Nat.le_trans a5H (Q3 hof).1
 have hmF : ∀ f ∈ (n9 l d7 (r7, s6)), f.2.length ≤ 1048576 := fun f hf => Nat.le_trans (a0s ((Q3 hof).2 f (List.mem_filter.1 hf).1)) dc
 refine Ew Z2 (Est rfl (N.box (cs := [_, _]) rfl dc rfl) (fun b8 _ => (Ei rfl (Ev Z6 (Em rfl (Em rfl (Em rfl (Ey rfl (r9 (cs := [_, _]) ty_Access rfl (Has.pt m0) rfl) (Est rfl (N.call (a9e fo fo) rfl rfl rfl dc rfl (fun w Lp hA => ⟨hA.ro hs, hA.ro hl, hA.ro hfacts, N8, hA.ro C5⟩)) (fun k19 _ => ?_))))))))))
 obtain ⟨a19, m19, c19⟩ := k19
 refine f5 m0 fun e19 l19 => ?_
 subst e19
 refine Ei rfl ?_
 have jeq : ((a19, (n9 l d7 (r7, s6)).length, c19) : Option Addr × Nat × Nat).2.1 = (n9 l d7 (r7, s6)).length := rfl
 refine Eu (Eq_ (Ew Z23 (Em rfl (Ey rfl ((Y.len us_Facts rfl).yd) (Ey rfl ((Y.eql rfl rfl).yd) (o7 (fun q22 => ?_) (fun q22 => ?_)))))))
 ·refine Em rfl (Es rfl (Es rfl (Es rfl (Es rfl (Es rfl (Es rfl (Es rfl (Ey rfl ((w5 rfl rfl).yd) (Em rfl (Es rfl (Es rfl (Es rfl (Es rfl (Es rfl (Es rfl (Es rfl (Es rfl (Es rfl (Ey rfl ((w5 rfl rfl).yd) (Eu (o5 rfl (Ew Z2 (Em rfl (Ei rfl (Eu (E.ret (l4 (i9 (congrArg (ow s9 [_]) (show _ = r8 l d7 (r7, s6) choice by exact a8b (.inr om))) ?_))))))))))))))))))))))))))))
  exact Fg rfl rfl (_, _, _) rfl rfl
 ·refine Em rfl (Em rfl (Ey rfl ((j6 fo_Access_0 i8 dc rfl).yd) (Ey rfl (g9 i8 rfl (Hz (mS m0) 0 rfl) rfl) ?_)))
  obtain ⟨eb27, eo27, ec27, ea27, er27, el27, eh27⟩ := hl.elem r7.toNat om
  obtain ⟨xa27_0, xc27_0, rfl, ei27_0, xh27_0, ei27_2, ei27_3, ei27_4⟩ := K4 er27
  have := xh27_0.slen.2
  refine Ey rfl ((s4 us_Methods ty_Method rfl ea27 rfl r7.toNat om om).yd) (Ey rfl ((j6 fo_Method_2 i8 dc rfl).yd) (Ey rfl (g9 i8 rfl ((eh27 _).sub (cs' := [_]) 2 rfl) rfl) (Ey rfl ((Y.eql rfl rfl).yd) (o7 (fun q30 => ?_) (fun q30 => ?_)))))
  ·refine Ey rfl ((v8 rfl rfl).yd) (Em rfl (Es rfl (Es rfl (Es rfl (Es rfl (Es rfl (Es rfl (Es rfl (Es rfl (Es rfl (Ey rfl ((w5 rfl rfl).yd) (Eu (o5 rfl (Ew Z2 (Em rfl (Ei rfl (Eu (E.ret (l4 (i9 (congrArg (ow s9 [_]) (show _ = r8 l d7 (r7, s6) choice by exact a8b (.inl om))) ?_))))))))))))))))))))
   exact Fg rfl rfl (_, _, _) rfl rfl
  ·refine Ey rfl ((v8 rfl rfl).yd) (Em rfl (Em rfl (Ey rfl ((Y.len us_Facts rfl).yd) (Em rfl (Ey rfl ((j6 fo_Access_0 i8 dc rfl).yd) (Ey rfl (g9 i8 rfl (Hz (mS m0) 0 rfl) rfl) (Ey rfl ((s4 us_Methods ty_Method rfl ea27 rfl r7.toNat om om).yd) (Ey rfl ((j6 fo_Method_2 i8 dc rfl).yd) (Ey rfl (g9 i8 rfl ((eh27 _).sub (cs' := [_]) 2 rfl) rfl) (Ey rfl ((Y.leq rfl rfl).yd) (o7 (fun q41 => ?_) (fun q41 => ?_))))))))))))
   ·refine Ey rfl ((v8 rfl rfl).yd) (Eu (o5 rfl (Ew Z2 (Em rfl (Ei rfl (Eu (E.ret (l4 (i9 (congrArg (ow s9 [_]) (show _ = r8 l d7 (r7, s6) choice by exact a8b (.inr om))) ?_)))))))))
    exact Fg rfl rfl (_, _, _) rfl rfl
   ·refine Ey rfl ((v8 rfl rfl).yd) (Eu (o4 rfl (i7 (Et (Ew Z2 (Est rfl (Nb [] [] us_Facts ty_Fact rfl rfl) (fun b44 _ => (Ent.drop (Ei rfl (Ev Z6 (Em rfl (Ey rfl ((c1f rfl rfl).yd) (Em rfl (Ey rfl ((Y.len us_Facts rfl).yd) (Ey rfl ((b7j rfl rfl om om).yd) (Ei rfl (Eu (Eq_ (Ew Z1 (Ei rfl (Eu (E.block (s7 (A := []) (Own.nil (E := F8) (e := tFact) (a := (some ⟨b44, 0, none⟩))) rfl (i9 (congrArg (ow s9 [_]) (show [] = a2O (n9 l d7 (r7, s6)) (max choice 0 % ((n9 l d7 (r7, s6)).length : Int)) 0 from by rfl)) (E.loop (κ := Nat × Option Addr × Nat × Nat) (fun g => g.1 ≤ (a1V l (r7, s6)).toNat ∧ True) (fun g => [(1, .slice a_l l.length c_l), (8, .pointer (some ⟨b8, 0, none⟩)), (11, .slice a19 (n9 l d7 (r7, s6)).length c19), (12, .slice g.2.1 g.2.2.1 g.2.2.2), (13, .int .i64 ((max choice 0) % (↑((n9 l d7 (r7, s6)).length) : Int))), (14, .int .i64 (↑g.1 : Int))]) (fun g => [ow s9 [.slice g.2.1 g.2.2.1 g.2.2.2] (a2O (n9 l d7 (r7, s6)) (max choice 0 % ((n9 l d7 (r7, s6)).length : Int)) g.1), ow s9 [.slice a19 (n9 l d7 (r7, s6)).length c19] (n9 l d7 (r7, s6)), pt b8 133 [.int .i64 r7, .slice y4 s6.length x9]]) (fun g => (a1V l (r7, s6)).toNat - g.1) (0, (some ⟨b44, 0, none⟩), 0, 0) ⟨Nat.zero_le _, by simp⟩ ⟨rfl, rfl, rfl, rfl, rfl, rfl, trivial⟩ (.refl _) (fun g pg => ?_))))))))))))))))))))))))))
    obtain ⟨g, aA0_0, mA0_0, cA0_0⟩ := g
    try dsimp only at pg
    try dsimp only
    obtain ⟨pk, pa⟩ := pg
    have jk1 := Int.emod_nonneg (max choice 0) (show ((n9 l d7 (r7, s6)).length : Int) ≠ 0 by omega)
    have jk2 := Int.emod_lt_of_pos (max choice 0) (show 0 < ((n9 l d7 (r7, s6)).length : Int) by omega)
    have jcs := b7X (x := (n9 l d7 (r7, s6))) (k := (max choice 0 % ((n9 l d7 (r7, s6)).length : Int))) (g := g)
    refine f5 m0 fun eaA0_0 laA0_0 => ?_
    subst eaA0_0
    refine Eq_ (Ew Z8 (Em rfl (Em rfl (Ey rfl ((j6 fo_Access_0 i8 dc rfl).yd) (Ey rfl (g9 i8 rfl (Hz (mS (mS m0)) 0 rfl) rfl) (Ey rfl ((s4 us_Methods ty_Method rfl ea27 rfl r7.toNat om om).yd) (Ey rfl ((j6 fo_Method_2 i8 dc rfl).yd) (Ey rfl (g9 i8 rfl ((eh27 _).sub (cs' := [_]) 2 rfl) rfl) (Ey rfl ((Y.lss rfl rfl).yd) (o7 (fun q57 => ?_) (fun q57 => ?_)))))))))))
    ·refine Eu (o5 rfl (i7 (Et (Eq_ (E.block (Ez Z12 (Em rfl (Em rfl (Em rfl (Em rfl (Ey rfl ((Y.add rfl rfl om om).yd) (Em rfl (Ey rfl ((Y.len us_Facts rfl).yd) (Ey rfl ((b7j rfl rfl om om).yd) ?_))))))))))))))
     have jix := b4e (x := (n9 l d7 (r7, s6))) (k := (max choice 0 % ((n9 l d7 (r7, s6)).length : Int))) (g := g) jk1 om
     refine U9 (mS m0) om fun ab68 ae68 => (f8 (V7 (x := (n9 l d7 (r7, s6))[((((max choice 0) % (↑((n9 l d7 (r7, s6)).length) : Int)) + (g : Int)) % (↑((n9 l d7 (r7, s6)).length) : Int)).toNat]) (((((max choice 0) % (↑((n9 l d7 (r7, s6)).length) : Int)) + (g : Int)) % (↑((n9 l d7 (r7, s6)).length) : Int)).toNat) (List.getElem?_eq_getElem om) fun ce68 => ?_))
     refine f8 (a4r fun oa68_1 om68_1 oc68_1 oe68 oi68_0 on68_1 => ?_)
     subst oe68
     subst on68_1
     refine Ey rfl ((s4 us_Facts ty_Fact rfl ae68 rfl (((((max choice 0) % (↑((n9 l d7 (r7, s6)).length) : Int)) + (g : Int)) % (↑((n9 l d7 (r7, s6)).length) : Int)).toNat) om om).yd) (Ey rfl (r9 (cs := [_, _]) ty_Fact rfl (Has.hole ae68 (mS m0)) rfl) (Est rfl (N.call (a3K om (fun f hf => hmF f (b7I jk1 om hf)) (hmF _ (List.getElem_mem _))) rfl rfl rfl dc rfl (fun w Lp hA => ⟨hA.ow (mS (mS m0)), oi68_0, hA.ow m0⟩)) (fun k70 _ => ?_)))
     obtain ⟨a70, m70, c70⟩ := k70
     refine f5 m0 fun e70 l70 => ?_
     subst e70
     refine Ei rfl (En (t8 (Et (Ez Z3 (Em rfl (Ey rfl ((Y.add rfl rfl om om).yd) (Ei rfl (Eu (f8 (o6 (O1 (J9 (x := (n9 l d7 (r7, s6))[((((max choice 0) % (↑((n9 l d7 (r7, s6)).length) : Int)) + (g : Int)) % (↑((n9 l d7 (r7, s6)).length) : Int)).toNat]) oi68_0 Own.ow) rfl (i9 (congrArg (ow s9 [_]) (List.set_getElem_self om)) (o6 (Ent.drop (f8 (i9 (congrArg (ow s9 [_]) (show D4 (a2O (n9 l d7 (r7, s6)) (max choice 0 % ((n9 l d7 (r7, s6)).length : Int)) g) (((n9 l d7 (r7, s6))[((((max choice 0) % (↑((n9 l d7 (r7, s6)).length) : Int)) + (g : Int)) % (↑((n9 l d7 (r7, s6)).length) : Int)).toNat].1), ((n9 l d7 (r7, s6))[((((max choice 0) % (↑((n9 l d7 (r7, s6)).length) : Int)) + (g : Int)) % (↑((n9 l d7 (r7, s6)).length) : Int)).toNat].2)) = a2O (n9 l d7 (r7, s6)) (max choice 0 % ((n9 l d7 (r7, s6)).length : Int)) (g + 1) from by exact b6y om rfl)) (o6 (o6 (o6 ?_)))))))))))))))))))
     exact Ea (g + 1, a70, (D4 (a2O (n9 l d7 (r7, s6)) (max choice 0 % ((n9 l d7 (r7, s6)).length : Int)) g) (((n9 l d7 (r7, s6))[((((max choice 0) % (↑((n9 l d7 (r7, s6)).length) : Int)) + (g : Int)) % (↑((n9 l d7 (r7, s6)).length) : Int)).toNat].1), ((n9 l d7 (r7, s6))[((((max choice 0) % (↑((n9 l d7 (r7, s6)).length) : Int)) + (g : Int)) % (↑((n9 l d7 (r7, s6)).length) : Int)).toNat].2))).length, c70) ⟨oz, trivial⟩
    ·refine Eu (o4 rfl (E.exit (o3 (o3 (w3 (Et (Ew Z2 (Em rfl (Ei rfl (Eu (E.ret (i9 (congrArg (ow s9 [_]) (show _ = r8 l d7 (r7, s6) choice by exact b7y (b0j hof) om om om om)) ?_))))))))))))
     exact Fg rfl rfl (_, _, _) rfl rfl
end Go.Proofs.YtdopeopehgdccaaGreat
