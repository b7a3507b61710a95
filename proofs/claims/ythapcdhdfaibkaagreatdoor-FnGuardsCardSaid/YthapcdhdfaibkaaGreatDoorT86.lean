import Derived.Test.YthapcdhdfaibkaaGreatDoorT84
section
namespace Go.Proofs.YthapcdhdfaibkaaGreatDoor
open Go.RowKit
set_option linter.all false
set_option maxHeartbeats 2000000
attribute [local irreducible] Nop Yd Yp Ent Has Tr FnP FnP2 Src M5 U1 V6 W3 G3
variable {q3 : Int} {l : List (Int × List Int × Int × Int × Int)} {d6 : List IL} {s s6 : List Int} {m_s c_s m_l c_l m_facts c_facts H5 E8 : Nat} {a_s a_l a_facts E9 : Option Addr}
theorem a9a (hoa : S8 s l (q3, s6) = true) (hof : F1 s d6 = true) : TL Tryz.prog 302 [.slice a_s m_s c_s, .slice a_l m_l c_l, .slice a_facts m_facts c_facts, .agg #[.int .i64 q3, .slice E9 H5 E8]] (fun w L => Ro w L eIs [.slice a_s m_s c_s] s ∧ Ro w L G0 [.slice a_l m_l c_l] l ∧ Ro w L s5 [.slice a_facts m_facts c_facts] d6 ∧ I64 q3 ∧ Ro w L eIs [.slice E9 H5 E8] s6) s5 (m6 l d6 (q3, s6)) := by
 refine Ti4 Tryz.func302 30 rfl fun w L hR => ?_
 obtain ⟨hs, hl, hfacts, R8, G1⟩ := hR
 obtain ⟨rfl, ls⟩ := hs.slen
 obtain ⟨rfl, ll⟩ := hl.slen
 obtain ⟨rfl, lfacts⟩ := hfacts.slen
 obtain ⟨rfl, a0k⟩ := G1.slen
 refine Ew Z2<|Est rfl (N.box (cs := [_, _]) rfl dc rfl)<|fun b7 _ => Ei rfl<|Eu<|Eq_<|Ew Z11<|Em rfl<|Em rfl<|Ey rfl (k7 (cs := [_, _]) ty_Access rfl (Has.pt m0) rfl)<|E0 rfl a9m rfl (fun hA => ⟨hA.ro hs, hA.ro hl, R8, hA.ro G1⟩)<|Ent.b (fun q12 => ?_)<|fun q12 => ?_
 ·have zz := (T5 hoa).2.1
  refine Yno true rfl<|Em rfl<|Em rfl<|Em rfl<|E0 rfl a0v rfl (fun hA => ⟨hA.ro hs, hA.ro hfacts⟩)<|Ent.b (fun q17 => ?_)<|fun q17 => ?_
  ·refine Yno true rfl<|Ypf rfl<|Eu<|Cf<|Eq_<|D.region (fun j => true) mixed<|Dm 0 rfl<|Df 1 2 fo_Access_0 i7 rfl (Hz m0 0 rfl) ?_
   obtain ⟨eb24, eo24, ec24, ea24, er24, el24, eh24⟩ := hl.elem q3.toNat om
   obtain ⟨xa24_0, xc24_0, rfl, ei24_0, xh24_0, ei24_2, ei24_3, ei24_4⟩ := P5 er24
   have := xh24_0.slen.2
   refine Dyp 3 rfl (z8 us_Methods ty_Method rfl ea24 rfl q3.toNat om om)<|Dy 4 rfl (k7 (cs := [_, _, _, _, _]) ty_Method rfl (eh24 _) rfl)<|Df 5 6 fo_Access_1 ty_Is rfl (Hz m0 1 rfl)<|Dm 7 rfl<|Dl 8 rfl (a2H (by have zc := (T5 hoa).2.2.1; rw [S1 (T5 hoa).2.1.2] at zc; exact Nat.le_of_eq zc.symm) (by have zc := a7w hoa hof; rw [S1 (T5 hoa).2.1.2] at zc; exact zc) (Nat.le_trans (G4 hof).1 dc)<|fun f hf => Nat.le_trans (W7<|(G4 hof).2 f hf) dc) rfl (fun hA => ⟨ei24_0, hA.ro xh24_0, ei24_2, ei24_3, ei24_4, hA.ro G1, hA.ro hfacts⟩)<|fun a29 c29 l29 => Dyp 9 rfl (G7 rfl)<|n9 kr<|Et<|E.ret<|g9 (congrArg (ow s5 [_]) (show _ = m6 l d6 (q3, s6) by rw [m6, S1 (T5 hoa).2.1.2]))<|Fg rfl rfl (_, _, _) rfl rfl
  ·refine Yno false rfl<|Ypf rfl<|Eu<|r6 rfl<|Ew Z2<|Est rfl (Nb [] [] us_Facts ty_Fact rfl rfl)<|fun b20 _ => Ent.drop<|Ei rfl<|Eu<|E.ret<|i9<|l6 (A := []) (Own.nil (E := J8) (e := tFact) (a := (some ⟨b20, 0, none⟩))) rfl<|g9 (congrArg (ow s5 [_]) (show _ = m6 l d6 (q3, s6) by rw [hof] at q17; cases q17))<|Fg rfl rfl ((some ⟨b20, 0, none⟩), 0, 0) rfl rfl
 ·refine Yno false rfl<|Em rfl<|Es rfl<|Es rfl<|Es rfl<|Es rfl<|Ypt rfl<|Eu<|r6 rfl<|Ew Z2<|Est rfl (Nb [] [] us_Facts ty_Fact rfl rfl)<|fun b20 _ => Ent.drop<|Ei rfl<|Eu<|E.ret<|i9<|l6 (A := []) (Own.nil (E := J8) (e := tFact) (a := (some ⟨b20, 0, none⟩))) rfl<|g9 (congrArg (ow s5 [_]) (show _ = m6 l d6 (q3, s6) by rw [hoa] at q12; cases q12))<|Fg rfl rfl ((some ⟨b20, 0, none⟩), 0, 0) rfl rfl
theorem a8L {choice : Int} (hoa : S8 s l (q3, s6) = true) (hof : F1 s d6 = true) : TL Tryz.prog 204 [.slice a_s m_s c_s, .slice a_l m_l c_l, .slice a_facts m_facts c_facts, .agg #[.int .i64 q3, .slice E9 H5 E8], .int .i64 choice] (fun w L => Ro w L eIs [.slice a_s m_s c_s] s ∧ Ro w L G0 [.slice a_l m_l c_l] l ∧ Ro w L s5 [.slice a_facts m_facts c_facts] d6 ∧ I64 q3 ∧ Ro w L eIs [.slice E9 H5 E8] s6) s5 (r5 l d6 (q3, s6) choice) := by
 refine Ti5 Tryz.func204 72 rfl fun w L hR => ?_
 obtain ⟨hs, hl, hfacts, R8, G1⟩ := hR
 obtain ⟨rfl, ls⟩ := hs.slen
 obtain ⟨rfl, ll⟩ := hl.slen
 obtain ⟨rfl, lfacts⟩ := hfacts.slen
 obtain ⟨rfl, a0k⟩ := G1.slen
 have zz := (T5 hoa).2.1
 have jlm : a1P l (q3, s6) = l[q3.toNat].2.2.1 := by show (atM l q3).2.2.1 = _; rw [S1 (T5 hoa).2.1.2]
 have jl0 := b8H hoa
 have jml : (m6 l d6 (q3, s6)).length ≤ 24 := Nat.le_trans a5B (G4 hof).1
 have hmF : ∀ f ∈ (m6 l d6 (q3, s6)), f.2.length ≤ 1048576 := fun f hf => Nat.le_trans (W7 ((G4 hof).2 f (List.mem_filter.1 hf).1)) dc
 refine Ew Z2<|Est rfl (N.box (cs := [_, _]) rfl dc rfl)<|fun b8 _ => Ei rfl<|Ev Z6<|Em rfl<|Em rfl<|Em rfl<|Ey rfl (k7 (cs := [_, _]) ty_Access rfl (Has.pt m0) rfl)<|El rfl (a9a fo fo) rfl (fun hA => ⟨hA.ro hs, hA.ro hl, hA.ro hfacts, R8, hA.ro G1⟩)<|fun a19 c19 l19 => Ei rfl ?_
 have jeq : ((a19, (m6 l d6 (q3, s6)).length, c19) : SL).2.1 = (m6 l d6 (q3, s6)).length := rfl
 refine Eu<|Eq_<|Ew Z23<|Em rfl<|Yln us_Facts rfl<|Yeq rfl<|l3 (fun q22 => ?_)<|fun q22 => ?_
 ·refine Em rfl<|Es rfl<|Es rfl<|Es rfl<|Es rfl<|Es rfl<|Es rfl<|Es rfl<|Ypt rfl<|Em rfl<|Es rfl<|Es rfl<|Es rfl<|Es rfl<|Es rfl<|Es rfl<|Es rfl<|Es rfl<|Es rfl<|Ypt rfl<|Eu<|r6 rfl<|Ew Z2<|Em rfl<|Ei rfl<|Eu<|E.ret<|i9<|g9 (congrArg (ow s5 [_]) (show _ = r5 l d6 (q3, s6) choice by exact a4e (.inr om)))<|Fg rfl rfl (_, _, _) rfl rfl
 ·refine Em rfl<|Em rfl<|Lz fo_Access_0 i7 rfl (mS m0) rfl ?_
  obtain ⟨eb27, eo27, ec27, ea27, er27, el27, eh27⟩ := hl.elem q3.toNat om
  obtain ⟨xa27_0, xc27_0, rfl, ei27_0, xh27_0, ei27_2, ei27_3, ei27_4⟩ := P5 er27
  have := xh27_0.slen.2
  refine Ix us_Methods ty_Method rfl ea27 q3.toNat om om<|Lf fo_Method_2 i7 rfl (Hs (eh27 _) 2 rfl)<|Yeq rfl<|l3 (fun q30 => ?_)<|fun q30 => ?_
  ·refine Ypf rfl<|Em rfl<|Es rfl<|Es rfl<|Es rfl<|Es rfl<|Es rfl<|Es rfl<|Es rfl<|Es rfl<|Es rfl<|Ypt rfl<|Eu<|r6 rfl<|Ew Z2<|Em rfl<|Ei rfl<|Eu<|E.ret<|i9<|g9 (congrArg (ow s5 [_]) (show _ = r5 l d6 (q3, s6) choice by exact a4e (.inl om)))<|Fg rfl rfl (_, _, _) rfl rfl
  ·refine Ypf rfl<|Em rfl<|Em rfl<|Yln us_Facts rfl<|Em rfl<|Lz fo_Access_0 i7 rfl (mS m0) rfl<|Ix us_Methods ty_Method rfl ea27 q3.toNat om om<|Lf fo_Method_2 i7 rfl (Hs (eh27 _) 2 rfl)<|Ey rfl ((Y.leq rfl rfl).yd)<|l3 (fun q41 => ?_)<|fun q41 => ?_
   ·refine Ypf rfl<|Eu<|r6 rfl<|Ew Z2<|Em rfl<|Ei rfl<|Eu<|E.ret<|i9<|g9 (congrArg (ow s5 [_]) (show _ = r5 l d6 (q3, s6) choice by exact a4e (.inr om)))<|Fg rfl rfl (_, _, _) rfl rfl
   ·refine Ypf rfl<|Eu<|Cf<|Ew Z2<|Est rfl (Nb [] [] us_Facts ty_Fact rfl rfl)<|fun b44 _ => Ent.drop<|Ei rfl<|Ev Z6<|Em rfl<|Ey rfl ((c1s rfl rfl).yd)<|Em rfl<|Yln us_Facts rfl<|Ey rfl ((a9U rfl rfl om om).yd)<|Ei rfl<|Eu<|Eq_<|Ew Z1<|Ei rfl<|Eu<|E.block<|l6 (A := []) (Own.nil (E := J8) (e := tFact) (a := (some ⟨b44, 0, none⟩))) rfl<|g9 (congrArg (ow s5 [_]) (show _ = a3u (m6 l d6 (q3, s6)) (max choice 0 % ((m6 l d6 (q3, s6)).length : Int)) 0 from by rfl))<|Lo (κ := Nat × SL) (fun g => g.1 ≤ (a1P l (q3, s6)).toNat ∧ True) (fun g => [(1, .slice a_l l.length c_l), (8, .pointer<|some ⟨b8, 0, none⟩), (11, .slice a19 (m6 l d6 (q3, s6)).length c19), (12, .slice g.2.1 g.2.2.1 g.2.2.2), (13, .int .i64<|(max choice 0) % (↑((m6 l d6 (q3, s6)).length) : Int)), (14, .int .i64 (↑g.1 : Int))]) (fun g => [ow s5 [.slice g.2.1 g.2.2.1 g.2.2.2]<|a3u (m6 l d6 (q3, s6)) (max choice 0 % ((m6 l d6 (q3, s6)).length : Int)) g.1, ow s5 [.slice a19 (m6 l d6 (q3, s6)).length c19]<|m6 l d6 (q3, s6), pt b8 105 [.int .i64 q3, .slice E9 s6.length E8]]) (fun g => (a1P l (q3, s6)).toNat - g.1) (0, (some ⟨b44, 0, none⟩), 0, 0) ⟨Nat.zero_le _, by simp⟩<|fun g pg => ?_
    obtain ⟨g, aA0_0, mA0_0, cA0_0⟩ := g
    try dsimp only at pg
    try dsimp only
    obtain ⟨pk, pa⟩ := pg
    have jk1 := Int.emod_nonneg (max choice 0) (show ((m6 l d6 (q3, s6)).length : Int) ≠ 0 by omega)
    have jk2 := Int.emod_lt_of_pos (max choice 0) (show 0 < ((m6 l d6 (q3, s6)).length : Int) by omega)
    have jcs := b7b (x := (m6 l d6 (q3, s6))) (k := (max choice 0 % ((m6 l d6 (q3, s6)).length : Int))) (g := g)
    refine r8 m0 ?_
    rintro rfl laA0_0
    refine Eq_<|Ew Z8<|Em rfl<|Em rfl<|Lz fo_Access_0 i7 rfl (mS<|mS m0) rfl<|Ix us_Methods ty_Method rfl ea27 q3.toNat om om<|Lf fo_Method_2 i7 rfl (Hs (eh27 _) 2 rfl)<|Ylt rfl<|l3 (fun q57 => ?_)<|fun q57 => ?_
    ·refine Eu<|Ct<|Eq_<|E.block<|Ez Z12<|Em rfl<|Em rfl<|Em rfl<|Em rfl<|Yad rfl om om<|Em rfl<|Yln us_Facts rfl<|Ey rfl ((a9U rfl rfl om om).yd) ?_
     have jix := b2W (x := (m6 l d6 (q3, s6))) (k := (max choice 0 % ((m6 l d6 (q3, s6)).length : Int))) (g := g) jk1 om
     refine Y6 (mS m0) om fun ab68 ae68 => f5<|a4E (x := (m6 l d6 (q3, s6))[((((max choice 0) % (↑((m6 l d6 (q3, s6)).length) : Int)) + (g : Int)) % (↑((m6 l d6 (q3, s6)).length) : Int)).toNat]) (((((max choice 0) % (↑((m6 l d6 (q3, s6)).length) : Int)) + (g : Int)) % (↑((m6 l d6 (q3, s6)).length) : Int)).toNat) (List.getElem?_eq_getElem om) fun ce68 => ?_
     refine f5<|a7I fun oa68_1 om68_1 oc68_1 oe68 oi68_0 on68_1 => ?_
     subst oe68
     subst on68_1
     refine Ix us_Facts ty_Fact rfl ae68 (((((max choice 0) % (↑((m6 l d6 (q3, s6)).length) : Int)) + (g : Int)) % (↑((m6 l d6 (q3, s6)).length) : Int)).toNat) om om<|Ey rfl (k7 (cs := [_, _]) ty_Fact rfl (Has.hole ae68<|mS m0) rfl)<|El rfl (a3w om (fun f hf => hmF f<|b7h jk1 om hf)<|hmF _<|List.getElem_mem _) rfl (fun hA => ⟨hA.ow<|mS<|mS m0, oi68_0, hA.ow m0⟩)<|fun a70 c70 l70 => Ei rfl<|En<|o6<|Et<|Ez Z3<|Em rfl<|Yad rfl om om<|Ei rfl<|Eu<|f5<|i8<|a3D (P4 (x := (m6 l d6 (q3, s6))[((((max choice 0) % (↑((m6 l d6 (q3, s6)).length) : Int)) + (g : Int)) % (↑((m6 l d6 (q3, s6)).length) : Int)).toNat]) oi68_0 Own.ow) rfl<|g9 (congrArg (ow s5 [_])<|List.set_getElem_self om)<|i8<|Ent.drop<|f5<|g9 (congrArg (ow s5 [_]) (show _ = a3u (m6 l d6 (q3, s6)) (max choice 0 % ((m6 l d6 (q3, s6)).length : Int)) (g + 1) from by exact b5j om rfl))<|i8<|i8<|i8 ?_
     exact Ea (g + 1, a70, _, c70) ⟨oz, trivial⟩
    ·refine Eu<|r7 rfl<|E.exit<|l4<|l4<|w8<|Et<|Ew Z2<|Em rfl<|Ei rfl<|Eu<|E.ret<|g9 (congrArg (ow s5 [_]) (show _ = r5 l d6 (q3, s6) choice by exact b6X (a9E hof) om om om om))<|Fg rfl rfl (_, _, _) rfl rfl
end Go.Proofs.YthapcdhdfaibkaaGreatDoor
end
section
namespace Go.Proofs.YthapcdhdfaibkaaGreatDoor
open Go.RowKit
set_option linter.all false
set_option maxHeartbeats 2000000
attribute [local irreducible] Nop Yd Yp Ent Has Tr FnP FnP2 Src M5 U1 V6 W3 G3
variable {l0 method : Int} {l : List (Int × List Int × Int × Int × Int)} {log : List IL} {f6 j9 f8 : List Int} {B5 w5 H1 D5 B6 y5 m_l c_l m_log c_log : Nat} {w6 D4 y4 a_l a_log : Option Addr}
theorem a1T {G9 : Int} {F3 : Option Addr} {I0 F2 : Nat} {t6 : List Int} {E5 : Int} {G6 : Int} {E6 : Int} (hi : ∀ i ∈ t6, 0 ≤ i ∧ i.toNat < f6.length) (hl3 : t6.length ≤ 1000) : TL Tryz.prog 85 [.agg #[.int .i64 G9, .slice F3 I0 F2, .int .i64 E5, .int .i64 G6, .int .i64 E6], .agg #[.int .i64 l0, .slice w6 B5 w5], .agg #[.slice D4 H1 D5, .slice y4 B6 y5]] (fun w L => I64 G9 ∧ Ro w L eIs [.slice F3 I0 F2] t6 ∧ I64 E5 ∧ I64 G6 ∧ I64 E6 ∧ I64 l0 ∧ Ro w L eIs [.slice w6 B5 w5] f6 ∧ Ro w L eIs [.slice D4 H1 D5] j9 ∧ Ro w L eIs [.slice y4 B6 y5] f8) eIs (R0 (G9, t6, E5, G6, E6) (l0, f6) (j9, f8)) := by
 refine Ti3 Tryz.func85 32 rfl fun w L hR => ?_
 obtain ⟨X1, F4, S5, V1, S6, J4, y6, C7, w9⟩ := hR
 obtain ⟨rfl, a0j⟩ := F4.slen
 obtain ⟨rfl, Q5⟩ := y6.slen
 obtain ⟨rfl, a0f⟩ := C7.slen
 obtain ⟨rfl, Q7⟩ := w9.slen
 have jv := w9.i64
 have jw := y6.i64
 refine Ew Z4<|Est rfl (N.box (cs := [_, _, _, _, _]) rfl dc rfl)<|fun b3 _ => Est rfl (N.box (cs := [_, _]) rfl dc rfl)<|fun b4 _ => Est rfl (N.box (cs := [_, _]) rfl dc rfl)<|fun b5 _ => Ei rfl<|Ev Z2<|Est rfl (Nb [] [] us_Is i7 rfl rfl)<|fun b9 _ => Ent.drop<|Ei rfl<|Eu<|Eq_<|Ew Z1<|Ei rfl<|Eu<|E.block<|l6 (A := []) (Own.nil (E := Enc.int) (e := tI) (a := (some ⟨b9, 0, none⟩))) rfl<|g9 (congrArg (ow eIs [_]) (show _ = (t6.take 0).map (fun i => F6 (j9, f8)<|at0 f6 i) from by rfl))<|Lo (κ := Nat × SL) (fun g => g.1 ≤ t6.length ∧ True) (fun g => [(3, .pointer<|some ⟨b3, 0, none⟩), (4, .pointer<|some ⟨b4, 0, none⟩), (5, .pointer<|some ⟨b5, 0, none⟩), (7, .slice g.2.1 g.2.2.1 g.2.2.2), (8, .int .i64 (↑g.1 : Int))]) (fun g => [ow eIs [.slice g.2.1 g.2.2.1 g.2.2.2]<|(t6.take g.1).map (fun i => F6 (j9, f8)<|at0 f6 i), pt b5 114 [.slice D4 j9.length D5, .slice y4 f8.length y5], pt b4 111 [.int .i64 l0, .slice w6 f6.length w5], pt b3 125 [.int .i64 G9, .slice F3 t6.length F2, .int .i64 E5, .int .i64 G6, .int .i64 E6]]) (fun g => t6.length - g.1) (0, (some ⟨b9, 0, none⟩), 0, 0) ⟨Nat.zero_le _, by simp⟩<|fun g pg => ?_
 obtain ⟨g, aA0_0, mA0_0, cA0_0⟩ := g
 try dsimp only at pg
 try dsimp only
 obtain ⟨pk, pa⟩ := pg
 have jt := List.length_take_le g t6
 refine r8 m0 ?_
 rintro rfl laA0_0
 refine Eq_<|Ew Z5<|Em rfl<|Lz fo_Method_1 ty_Is rfl (mS<|mS<|mS m0) rfl<|Yln us_Is rfl<|Ylt rfl<|l3 (fun q14 => ?_)<|fun q14 => ?_
 ·refine Eu<|Ct<|Eq_<|E.block<|D.region (fun j => !(Nat.beq j 13)) mixed<|Dm 0 rfl<|Dy 1 rfl (k7 (cs := [_, _]) ty_Binding rfl (Has.pt<|mS m0) rfl)<|Df 2 3 fo_Atom_1 ty_Is rfl (Hz (mS<|mS m0) 1 rfl)<|Df 4 5 fo_Method_1 ty_Is rfl (Hz (mS<|mS<|mS m0) 1 rfl)<|Dm 6 rfl ?_
  obtain ⟨eb24, eo24, ea24, ei24, eh24⟩ := F4.elemI g om
  refine Dyp 7 rfl (z8 us_Is i7 rfl ea24 rfl g rfl om)<|Dy 8 rfl (B4 i7 rfl (eh24 _) rfl) ?_
  have jx := hi _ (List.getElem_mem (show g < t6.length by omega))
  obtain ⟨eb26, eo26, ea26, ei26, eh26⟩ := y6.elemI t6[g].toNat om
  refine Dyp 9 rfl (z8 us_Is i7 rfl ea26 rfl t6[g].toNat om om)<|Dy 10 rfl (B4 i7 rfl (eh26 _) rfl)<|D0 11 rfl a2l rfl (fun hA => ⟨hA.ro C7, hA.ro w9⟩) ?_
  have jy := a6r (b := (j9, f8)) (jw f6[t6[g].toNat] (List.getElem_mem om)) jv
  refine E7 12 rfl rfl kr (fun _ => rfl) (Nb [_] [_] us_Is i7 rfl rfl)<|fun b29 _ => f5<|E7 13 rfl rfl kr (fun h => by cases h) (B0 (E := Enc.int) (ex := F6 (j9, f8)<|f6[t6[g].toNat]) us_Is i7 rfl rfl rfl (Own.int i6) rfl bn bn dc)<|fun p30 _ => Dyp 14 rfl (G7 rfl)<|n9 kr<|o6<|Et<|Ez Z3<|Em rfl<|Yad rfl om om<|Ei rfl<|Eu<|g9 (congrArg (ow eIs [_]) (show _ = (t6.take<|g + 1).map (fun i => F6 (j9, f8)<|at0 f6 i) from by exact b3f (a := (l0, f6)) om om))<|a4G<|a4G<|a4G<|a4G ?_
  exact Ea (g + 1, p30.1, (((t6.take g).map (fun i => F6 (j9, f8)<|at0 f6 i)).length + 1), p30.2) ⟨oz, trivial⟩
 ·refine Eu<|r7 rfl<|E.exit<|l4<|l4<|w8<|Et<|Ew Z2<|Em rfl<|Ei rfl<|Eu<|E.ret<|g9 (congrArg (ow eIs [_]) (show _ = R0 (G9, t6, E5, G6, E6) (l0, f6) (j9, f8) by rw [show g = t6.length from by omega, List.take_length]; rfl))<|Fg rfl rfl (_, _, _) rfl rfl
theorem a1C (hm : 0 ≤ method ∧ method.toNat < l.length) (hi : ∀ i ∈ (atM l method).2.1, 0 ≤ i ∧ i.toNat < f6.length) (hl3 : (atM l method).2.1.length ≤ 1000) : Tr Tryz.prog 76 [.slice a_l m_l c_l, .int .i64 method, .agg #[.int .i64 l0, .slice w6 B5 w5], .agg #[.slice D4 H1 D5, .slice y4 B6 y5]] (fun w L => Ro w L G0 [.slice a_l m_l c_l] l ∧ I64 l0 ∧ Ro w L eIs [.slice w6 B5 w5] f6 ∧ Ro w L eIs [.slice D4 H1 D5] j9 ∧ Ro w L eIs [.slice y4 B6 y5] f8) [] (κ := SL) (fun k => True) (fun k => .agg #[.int .i64 method, .slice k.1 k.2.1 k.2.2]) (fun k => [ow eIs [.slice k.1 k.2.1 k.2.2] (R0 (atM l method) (l0, f6) (j9, f8))]) := by
 refine Ti4 Tryz.func76 39 rfl fun w L hR => ?_
 obtain ⟨hl, J4, y6, C7, w9⟩ := hR
 obtain ⟨rfl, ll⟩ := hl.slen
 obtain ⟨rfl, Q5⟩ := y6.slen
 obtain ⟨rfl, a0f⟩ := C7.slen
 obtain ⟨rfl, Q7⟩ := w9.slen
 have jv := w9.i64
 have jw := y6.i64
 rw [S1 hm.2] at hi hl3
 refine Ew Z3<|Est rfl (N.box (cs := [_, _]) rfl dc rfl)<|fun b6 _ => Est rfl (N.box (cs := [_, _]) rfl dc rfl)<|fun b7 _ => Est rfl (N.alloc ty_Access dc)<|fun b8 _ => Ev Z5<|Em rfl<|Est rfl (Nb [] [] us_Is i7 rfl rfl)<|fun b13 _ => Ent.drop<|Ey rfl ((M4 (pvs := [_, _]) (cs := [_, _]) ty_Access a5i rfl rfl).yd)<|Est rfl (N.alloc ty_Access dc)<|fun b9 _ => Est rfl (Ns [_, _] ty_Access rfl)<|fun _ _ => Eu<|Eq_<|Ew Z7<|Em rfl<|Em rfl ?_
 obtain ⟨eb17, eo17, ec17, ea17, er17, el17, eh17⟩ := hl.elem method.toNat om
 obtain ⟨xa17_0, xc17_0, rfl, ei17_0, xh17_0, ei17_2, ei17_3, ei17_4⟩ := P5 er17
 have := xh17_0.slen.2
 refine Ix us_Methods ty_Method rfl ea17 method.toNat om om<|Lf fo_Method_1 ty_Is rfl (Hs (eh17 _) 1 rfl)<|Yln us_Is rfl<|Em rfl<|Eu<|E.block<|l6 (A := []) (Own.nil (E := Enc.int) (e := tI) (a := (some ⟨b13, 0, none⟩))) rfl<|g9 (congrArg (ow eIs [_]) (show _ = (l[method.toNat].2.1.take 0).map (fun i => F6 (j9, f8)<|at0 f6 i) from by rfl))<|Lo (κ := Nat × SL) (fun g => g.1 ≤ l[method.toNat].2.1.length ∧ True) (fun g => [(6, .pointer<|some ⟨b6, 0, none⟩), (7, .pointer<|some ⟨b7, 0, none⟩), (8, .pointer<|some ⟨b8, 0, none⟩), (9, .pointer<|some ⟨b9, 0, none⟩), (19, .slice xa17_0 l[method.toNat].2.1.length xc17_0), (20, .int .i64 (↑l[method.toNat].2.1.length : Int)), (21, .int .i64 (↑g.1 : Int))]) (fun g => [ow eIs [.slice g.2.1 g.2.2.1 g.2.2.2]<|(l[method.toNat].2.1.take g.1).map (fun i => F6 (j9, f8)<|at0 f6 i), pt b9 105 [.int .i64 method, .slice g.2.1 g.2.2.1 g.2.2.2], pt b8 105 [.int .i64 0, .slice none 0 0], pt b7 114 [.slice D4 j9.length D5, .slice y4 f8.length y5], pt b6 111 [.int .i64 l0, .slice w6 f6.length w5]]) (fun g => l[method.toNat].2.1.length - g.1) (0, (some ⟨b13, 0, none⟩), 0, 0) ⟨Nat.zero_le _, by simp⟩<|fun g pg => ?_
 obtain ⟨g, aA0_0, mA0_0, cA0_0⟩ := g
 try dsimp only at pg
 try dsimp only
 obtain ⟨pk, pa⟩ := pg
 have jt := List.length_take_le g l[method.toNat].2.1
 refine r8 m0 ?_
 rintro rfl laA0_0
 refine Ew Z1<|Ylt rfl<|l3 (fun q22 => ?_)<|fun q22 => ?_
 ·obtain ⟨eb23, eo23, ea23, ei23, eh23⟩ := xh17_0.elemI g om
  refine Eu<|Eq_<|Ct<|Eq_<|E.block<|Ew Z3<|Il us_Is i7 rfl ea23 g rfl om rfl (eh23 _)<|Ei rfl<|Eu<|D.region (fun j => !(Nat.beq j 10) && !(Nat.beq j 12)) mixed<|Df 0 1 fo_Access_1 ty_Is rfl (Hz (mS m0) 1 rfl)<|Dy 2 rfl (k7 (cs := [_, _]) ty_Binding rfl (Has.pt<|mS<|mS<|mS m0) rfl)<|Df 3 4 fo_Atom_1 ty_Is rfl (Hz (mS<|mS<|mS<|mS m0) 1 rfl)<|Dm 5 rfl ?_
  have jx := hi _ (List.getElem_mem (show g < l[method.toNat].2.1.length by omega))
  obtain ⟨eb31, eo31, ea31, ei31, eh31⟩ := y6.elemI l[method.toNat].2.1[g].toNat om
  refine Dyp 6 rfl (z8 us_Is i7 rfl ea31 rfl l[method.toNat].2.1[g].toNat om om)<|Dy 7 rfl (B4 i7 rfl (eh31 _) rfl)<|D0 8 rfl a0L rfl (fun hA => ⟨hA.ro C7, hA.ro w9⟩) ?_
  have jy := a6r (b := (j9, f8)) (jw f6[l[method.toNat].2.1[g].toNat] (List.getElem_mem om)) jv
  refine E7 9 rfl rfl kr (fun _ => rfl) (Nb [_] [_] us_Is i7 rfl rfl)<|fun b34 _ => f5<|E7 10 rfl rfl kr (fun h => by cases h) (B0 (E := Enc.int) (ex := F6 (j9, f8)<|f6[l[method.toNat].2.1[g].toNat]) us_Is i7 rfl rfl rfl (Own.int i6) rfl bn bn dc)<|fun p35 _ => Dyp 11 rfl (C2 fo_Access_1 ty_Is dc rfl)<|f5<|E7 12 rfl rfl kr (fun h => by cases h) (Ns [_, _] ty_Is rfl)<|fun _ _ => n9 kr<|o6<|Et<|Ez Z2<|Yad rfl om om<|Em rfl<|Eu<|f5<|g9 (congrArg (ow eIs [_]) (show _ = (l[method.toNat].2.1.take<|g + 1).map (fun i => F6 (j9, f8)<|at0 f6 i) from by exact b3f (a := (l0, f6)) om om))<|s4<|s4<|s4<|s4<|s4 ?_
  exact Ea (g + 1, p35.1, (((l[method.toNat].2.1.take g).map (fun i => F6 (j9, f8)<|at0 f6 i)).length + 1), p35.2) ⟨oz, trivial⟩
 ·refine Eu<|Eq_<|r7 rfl<|E.exit<|l4<|l4<|w8<|Et<|Ew Z2<|Ey rfl (k7 (cs := [_, _]) ty_Access rfl (Has.pt<|mS m0) rfl)<|i8<|Est rfl (Ns [_, _] ty_Access rfl)<|fun _ _ => Eu<|E.ret<|f5<|g9 (congrArg (ow eIs [_]) (show _ = R0 (atM l method) (l0, f6) (j9, f8) by rw [show g = l[method.toNat].2.1.length from by omega, List.take_length, R0, S1 hm.2]))<|S0 br rfl rfl (mS m0) ty_Access rfl (_, _, _) trivial rfl (J := _) (.refl _)<|.inl rfl
theorem b1H : Tr Tryz.prog 296 [.slice a_l m_l c_l, .int .i64 method] (fun w L => Ro w L G0 [.slice a_l m_l c_l] l ∧ I64 method) [] (κ := Unit) (fun k => True) (fun k => .int .i64 (a1k l method)) (fun k => []) := by
 refine Ti2 Tryz.func296 25 rfl fun w L hR => ?_
 obtain ⟨hl, i6method⟩ := hR
 obtain ⟨rfl, ll⟩ := hl.slen
 refine Ew Z1<|Ei rfl<|Eu<|Eq_<|Ew Z15<|Em rfl<|Em rfl<|Yln us_Methods rfl<|Ey rfl ((Y.sub rfl rfl om om).yd)<|E0 rfl O9 rfl (fun _ => trivial)<|Ent.b (fun q9 => ?_)<|fun q9 => ?_
 ·have zz := V2 q9
  refine Yno true rfl<|Em rfl<|Em rfl<|Em rfl ?_
  obtain ⟨eb14, eo14, ec14, ea14, er14, el14, eh14⟩ := hl.elem method.toNat om
  obtain ⟨xa14_0, xc14_0, rfl, ei14_0, xh14_0, ei14_2, ei14_3, ei14_4⟩ := P5 er14
  have := xh14_0.slen.2
  refine Ix us_Methods ty_Method rfl ea14 method.toNat om om<|Lf fo_Method_3 i7 rfl (Hs (eh14 _) 3 rfl)<|E0 rfl a6F rfl (fun _ => trivial)<|Ent.b (fun q17 => ?_)<|fun q17 => ?_
  ·refine Yno true rfl<|Ypf rfl<|Eu<|Cf<|Ew Z6<|Em rfl<|Em rfl<|Ix us_Methods ty_Method rfl ea14 method.toNat om om<|Lf fo_Method_3 i7 rfl (Hs (eh14 _) 3 rfl)<|Ei rfl<|Eu<|E.ret<|Fg rfl rfl () (congrArg (Value.int .i64) (by exact a6w q9 om q17)) rfl
  ·refine Yno false rfl<|Ypf rfl<|Eu<|r6 rfl<|Ew Z1<|Ei rfl<|Eu<|E.ret<|i9<|Fg rfl rfl () (congrArg (Value.int .i64) (by exact a6l om q17)) rfl
 ·refine Yno false rfl<|Em rfl<|Es rfl<|Es rfl<|Es rfl<|Es rfl<|Es rfl<|Es rfl<|Es rfl<|Ypt rfl<|Eu<|r6 rfl<|Ew Z1<|Ei rfl<|Eu<|E.ret<|i9<|Fg rfl rfl () (congrArg (Value.int .i64) (by exact a6g q9)) rfl
theorem b0x (hlg : log.length ≤ 1000000000000) : Tr Tryz.prog 191 [.slice a_l m_l c_l, .slice a_log m_log c_log] (fun w L => Ro w L G0 [.slice a_l m_l c_l] l ∧ Ro w L z6 [.slice a_log m_log c_log] log) [] (κ := Unit) (fun k => True) (fun k => .int .i64 (a0q l log)) (fun k => []) := by
 refine Ti2 Tryz.func191 22 rfl fun w L hR => ?_
 obtain ⟨hl, hlog⟩ := hR
 obtain ⟨rfl, ll⟩ := hl.slen
 obtain ⟨rfl, llog⟩ := hlog.slen
 refine Ew Z1<|Ei rfl<|Ev Z1<|Ei rfl<|Eu<|Eq_<|Ew Z3<|Em rfl<|Yln us_Accesss rfl<|Em rfl<|Eu<|E.block<|E.loop (κ := Nat) (fun g => g ≤ log.length ∧ True) (fun g => [(0, .slice a_l l.length c_l), (5, .int .i64<|a0q l<|log.take g), (8, .slice a_log log.length c_log), (9, .int .i64 (↑log.length : Int)), (10, .int .i64 (g : Int))]) (fun g => []) (fun g => log.length - g) (0) ⟨Nat.zero_le _, by simp⟩ ⟨rfl, frI (by rfl), rfl, rfl, rfl, trivial⟩ (.refl _)<|fun g pg => ?_
 try dsimp only
 obtain ⟨pk, pa⟩ := pg
 have jc := b3a (l := l) (log := log.take g)
 have jt := List.length_take_le g log
 refine Ew Z1<|Ylt rfl<|l3 (fun q11 => ?_)<|fun q11 => ?_
 ·obtain ⟨eb12, eo12, ec12, ea12, er12, el12, eh12⟩ := hlog.elem g om
  obtain ⟨xa12_0, xc12_0, rfl, ei12_0, xh12_0⟩ := X7 er12
  have := xh12_0.slen.2
  refine Eu<|Eq_<|Ct<|Eq_<|E.block<|Ew Z4<|Ix us_Accesss ty_Access rfl ea12 g rfl om<|Ey rfl (k7 (cs := [_, _]) ty_Access rfl (eh12 _) rfl)<|Est rfl (N.alloc ty_Access dc)<|fun b7 _ => Est rfl (Ns [_, _] ty_Access rfl)<|fun _ _ => Eu<|Ez Z7<|Em rfl<|Em rfl<|Lz fo_Access_0 i7 rfl m0 rfl<|E0 rfl b1H rfl (fun hA => ⟨hA.ro hl, ei12_0⟩) ?_
  have jm := b3j (l := l) (m := log[g].1)
  refine Yad rfl om om<|Ei rfl<|En<|o6<|Et<|Ez Z2<|Yad rfl om om<|Em rfl<|Eu<|Ent.drop ?_
  exact t7 br (g + 1) ⟨rfl, frI (by exact a3m om), rfl, rfl, rfl, trivial⟩ (.refl _) ⟨oz, trivial⟩ oz
 ·refine Eu<|Eq_<|r7 rfl<|E.exit<|l4<|l4<|w8<|Et<|Ew Z2<|Em rfl<|Ei rfl<|Eu<|E.ret<|Fg rfl rfl () (congrArg (Value.int .i64) (by rw [List.take_of_length_le om])) rfl
theorem b0d (hlg : log.length ≤ 1000000000000) : Tr Tryz.prog 206 [.slice a_l m_l c_l, .slice a_log m_log c_log] (fun w L => Ro w L G0 [.slice a_l m_l c_l] l ∧ Ro w L z6 [.slice a_log m_log c_log] log) [] (κ := Unit) (fun k => True) (fun k => .int .i64 (a0q l log)) (fun k => []) := by
 refine Ti2 Tryz.func206 46 rfl fun w L hR => ?_
 obtain ⟨hl, hlog⟩ := hR
 obtain ⟨rfl, ll⟩ := hl.slen
 obtain ⟨rfl, llog⟩ := hlog.slen
 refine Ew Z1<|Ei rfl<|Ev Z1<|Ei rfl<|Eu<|Eq_<|Ew Z1<|Ei rfl<|Eu<|E.block<|E.loop (κ := Nat) (fun g => g ≤ log.length ∧ True) (fun g => [(0, .slice a_l l.length c_l), (1, .slice a_log log.length c_log), (5, .int .i64<|a0q l<|log.take g), (6, .int .i64 (g : Int))]) (fun g => []) (fun g => log.length - g) (0) ⟨Nat.zero_le _, by simp⟩ ⟨rfl, rfl, frI (by rfl), rfl, trivial⟩ (.refl _)<|fun g pg => ?_
 try dsimp only
 obtain ⟨pk, pa⟩ := pg
 have jc := b3a (l := l) (log := log.take g)
 have jt := List.length_take_le g log
 refine Eq_<|Ew Z4<|Em rfl<|Em rfl<|Yln us_Accesss rfl<|Ylt rfl<|l3 (fun q10 => ?_)<|fun q10 => ?_
 ·refine Eu<|Ct<|Eq_<|E.block<|Ew Z21<|Em rfl<|Em rfl ?_
  obtain ⟨eb15, eo15, ec15, ea15, er15, el15, eh15⟩ := hlog.elem g om
  obtain ⟨xa15_0, xc15_0, rfl, ei15_0, xh15_0⟩ := X7 er15
  have := xh15_0.slen.2
  refine Ix us_Accesss ty_Access rfl ea15 g rfl om<|Lf fo_Access_0 i7 rfl (Hs (eh15 _) 0 rfl)<|Em rfl<|Yln us_Methods rfl<|Ey rfl ((Y.sub rfl rfl om om).yd)<|E0 rfl K4 rfl (fun _ => trivial)<|Ent.b (fun q21 => ?_)<|fun q21 => ?_
  ·have zz := V2 q21
   refine Em rfl<|Em rfl<|Em rfl<|Em rfl<|Ix us_Accesss ty_Access rfl ea15 g rfl om<|Lf fo_Access_0 i7 rfl (Hs (eh15 _) 0 rfl) ?_
   obtain ⟨eb29, eo29, ec29, ea29, er29, el29, eh29⟩ := hl.elem log[g].1.toNat om
   obtain ⟨xa29_0, xc29_0, rfl, ei29_0, xh29_0, ei29_2, ei29_3, ei29_4⟩ := P5 er29
   have := xh29_0.slen.2
   refine Ix us_Methods ty_Method rfl ea29 log[g].1.toNat om om<|Lf fo_Method_3 i7 rfl (Hs (eh29 _) 3 rfl)<|E0 rfl K4 rfl (fun _ => trivial)<|Ent.b (fun q32 => ?_)<|fun q32 => ?_
   ·have zy := V2 q32
    refine Ypt rfl<|Eu<|r6 rfl<|Ez Z12<|Em rfl<|Em rfl<|Em rfl<|Em rfl<|Ix us_Accesss ty_Access rfl ea15 g rfl om<|Lf fo_Access_0 i7 rfl (Hs (eh15 _) 0 rfl)<|Ix us_Methods ty_Method rfl ea29 log[g].1.toNat om om<|Lf fo_Method_3 i7 rfl (Hs (eh29 _) 3 rfl)<|Yad rfl om om<|Ei rfl<|En<|o6<|Et<|Ez Z3<|Em rfl<|Yad rfl om om<|Ei rfl ?_
    exact Eu<|t7 br (g + 1) ⟨rfl, rfl, frI (by first | exact a2i om (a6g q21) | exact a2i om (a6l om q32) | (rw [a6w q21 om q32]; exact a3m om)), rfl, trivial⟩ (.refl _) ⟨oz, trivial⟩ oz
   ·refine Ypt rfl<|Eu<|r7 rfl<|v8<|o6<|Et<|Ez Z3<|Em rfl<|Yad rfl om om<|Ei rfl ?_
    exact Eu<|t7 br (g + 1) ⟨rfl, rfl, frI (by first | exact a2i om (a6g q21) | exact a2i om (a6l om q32) | (rw [a6w q21 om q32]; exact a3m om)), rfl, trivial⟩ (.refl _) ⟨oz, trivial⟩ oz
  ·refine Em rfl<|Es rfl<|Es rfl<|Es rfl<|Es rfl<|Es rfl<|Es rfl<|Es rfl<|Es rfl<|Es rfl<|Es rfl<|Ypf rfl<|Eu<|r7 rfl<|v8<|o6<|Et<|Ez Z3<|Em rfl<|Yad rfl om om<|Ei rfl ?_
   exact Eu<|t7 br (g + 1) ⟨rfl, rfl, frI (by first | exact a2i om (a6g q21) | exact a2i om (a6l om q32) | (rw [a6w q21 om q32]; exact a3m om)), rfl, trivial⟩ (.refl _) ⟨oz, trivial⟩ oz
 ·refine Eu<|r7 rfl<|E.exit<|l4<|l4<|w8<|Et<|Ew Z2<|Em rfl<|Ei rfl<|Eu<|E.ret<|Fg rfl rfl () (congrArg (Value.int .i64) (by rw [List.take_of_length_le om])) rfl
end Go.Proofs.YthapcdhdfaibkaaGreatDoor
end
